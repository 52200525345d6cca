/- co of this claim: Y9. -/
import Derived.Test.YtmogpgcfognefaaGreatDoorNeQ1
import Derived.Test.YtmogpgcfognefaaGreatDoorNeY6
set_option linter.all false
namespace Go.Proofs.YtmogpgcfognefaaGreatDoor
open Go

theorem Sy(b:List Int)(hb:NX b): ∃n:Nat,n<4294967296∧vw b=some (n:Int):=by
 obtain⟨s,_,h2,h3⟩:=Dp b 4294967295 (by omega) hb
 refine⟨_,?_,by unfold vw;rw [Mo,cq];exact h3⟩
 omega
theorem BX: ∀(t:xf) (b:List Int),NX b→(∀v∈t,v.S.length≤200∧0≤v.U∧v.U<18446744073709551616)→b.length+300*t.length≤9000→ ∃n:Nat,n<4294967296∧nt t b=some (n:Int)
 |[],b,hb,_,_=>by
  obtain⟨n,h0,h1⟩:=Sy b hb
  exact⟨n,h0,by unfold nt;rw [h1];rfl⟩
 |v::t,b,hb,hv,hl=>by
  obtain⟨h1,h2,h3⟩:=hv v (lV ..)
  rw [nG]at hl
  obtain⟨u,hu⟩:=Int.eq_ofNat_of_zero_le h2
  obtain⟨m,hm⟩: ∃m:Nat,IntKind.u64.wrap v.N=(m:Int):=⟨(IntKind.u64.wrap v.N).toNat,by rw [IntKind.wrap_u64];omega⟩
  have hbl:(n9 v.S).length=v.S.length:=by simp [n9]
  have hb' :NX (b++[IntKind.u8.wrap v.Kind]++tM m 8++tM u 8++[IntKind.u8.wrap (v.S.length:Int)]++n9 v.S):=
   rj (rj (rj (rj (rj hb (J0 _)) (xd _ _)) (xd _ _)) (J0 _)) (LE _)
  obtain⟨n,g0,g1⟩:=BX t _ hb' (fun w hw=>hv w (kG _ hw)) (by simp only [mq,ri,hbl,nG,CD];omega)
  refine⟨n,g0,?_⟩
  unfold nt
  rw [dM (by simp;omega),cq,hm,wr _ _ (by simp;omega),cq,hu,wr _ _ (by simp [ri];omega),cq,
   dM (by simp [ri];omega),cq,dM (by simp [ri,hbl];omega),cq]
  exact g1
end Go.Proofs.YtmogpgcfognefaaGreatDoor

