/- cd of this claim: Y9. -/
import Derived.Test.YtmogpgcfognefaaGreatDoorNcQ1
import Derived.Test.YtmogpgcfognefaaGreatDoorNcY6
set_option linter.all false
namespace Go.Proofs.YtmogpgcfognefaaGreatDoor
open Go

theorem MT(b:List Int)(hb:JA b): ∃n:Nat,n<4294967296∧si b=some (n:Int):=by
 obtain⟨s,_,h2,h3⟩:=z7 b 4294967295 (by omega) hb
 refine⟨_,?_,by unfold si;rw [Ic,ce];exact h3⟩
 omega
theorem yw: ∀(t:oS) (b:List Int),JA b→(∀v∈t,v.S.length≤200∧0≤v.U∧v.U<18446744073709551616)→b.length+300*t.length≤9000→ ∃n:Nat,n<4294967296∧lH t b=some (n:Int)
 |[],b,hb,_,_=>by
  obtain⟨n,h0,h1⟩:=MT b hb
  exact⟨n,h0,by unfold lH;rw [h1];rfl⟩
 |v::t,b,hb,hv,hl=>by
  obtain⟨h1,h2,h3⟩:=hv v (kU ..)
  rw [lm]at hl
  obtain⟨u,hu⟩:=Int.eq_ofNat_of_zero_le h2
  obtain⟨m,hm⟩: ∃m:Nat,IntKind.u64.wrap v.N=(m:Int):=⟨(IntKind.u64.wrap v.N).toNat,by rw [IntKind.wrap_u64];omega⟩
  have hbl:(mo v.S).length=v.S.length:=by simp [mo]
  have hb' :JA (b++[IntKind.u8.wrap v.Kind]++qR m 8++qR u 8++[IntKind.u8.wrap (v.S.length:Int)]++mo v.S):=
   oM (oM (oM (oM (oM hb (F4 _)) (tR _ _)) (tR _ _)) (F4 _)) (Hw _)
  obtain⟨n,g0,g1⟩:=yw t _ hb' (fun w hw=>hv w (kR _ hw)) (by simp only [kh,oL,hbl,lm,zk];omega)
  refine⟨n,g0,?_⟩
  unfold lH
  rw [fh (by simp;omega),ce,hm,sX _ _ (by simp;omega),ce,hu,sX _ _ (by simp [oL];omega),ce,
   fh (by simp [oL];omega),ce,fh (by simp [oL,hbl];omega),ce]
  exact g1
theorem xE(r:oS): ∀(c:List Int) (out:oS),(∀e∈c,0≤e∧e<(r.length:Int))→out.length+c.length≤1000→
  ∃t:oS,t.length=out.length+c.length∧(∀v∈t,v∈out∨v∈r)∧nj r c out=some t
 |[],out,_,_=>⟨out,rfl,fun v hv=> .inl hv,rfl⟩
 |e::c,out,h,hl=>by
  obtain⟨h1,h2⟩:=h e (kU ..)
  obtain⟨n,rfl⟩:=Int.eq_ofNat_of_zero_le h1
  have hn:n<r.length:=by omega
  rw [lm]at hl
  obtain⟨t,g1,g2,g3⟩:=xE r c (out++[r[n]]) (fun e he=>h e (kR _ he)) (by simp;omega)
  have hi:ea r (n:Int)=some r[n]:=by rw [dy];exact nK hn
  refine⟨t,by rw [g1];simp;omega,fun v hv=>?_,?_⟩
  ·rcases g2 v hv with g|g
   ·rcases xj.1 g with g|g
    ·exact .inl g
    ·rw [wB.1 g];exact .inr (Cf hn)
   ·exact .inr g
  ·unfold nj
   rw [hi,ce,fh (by simp;omega),ce]
   exact g3
theorem CF{r:oS}{c:List Int}(h:oF r c=true)(hr:ov r=true)(hv: ∀v∈r,v.S.length≤200∧0≤v.U∧v.U<18446744073709551616): ∃n:Nat,n<4294967296∧pR r c=some ((n:Int),0):=by
 have h' :=h
 unfold oF at h'
 rw [mA,ny,kg]at h'
 obtain⟨t,g1,g2,g3⟩:=xE r c [] (fun e he=>by have:=h'.2 e he;rw [mA,ny,ny]at this;exact this) (by simp;omega)
 have e:uk r c=some t:=g3
 obtain⟨n,k0,k1⟩:=yw t [] (fun x hx=>by cases hx) (fun v hv' =>(g2 v hv').elim (fun h=>by cases h) (hv v)) (by rw [g1];simp;omega)
 have e2:ul t=some (n:Int):=k1
 refine⟨n,k0,?_⟩
 unfold pR xT
 rw [Bj,e]
 simp [Jf,h,hr,e2]
end Go.Proofs.YtmogpgcfognefaaGreatDoor

