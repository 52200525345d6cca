/- cT of this claim: Y3. -/
import Derived.Test.YtdohlidddcgfjaaGreatFaY2
set_option linter.all false
namespace Go.Proofs.YtdohlidddcgfjaaGreat
open Go

structure KOK(ns:List ap)(K:List (List Int)):Prop where
 len:K.length=ns.length
 at_: ∀j,j<ns.length→Bu ns K j
structure rE(ns:List ap):Prop where
 len:ns.length≤90
 n: ∀n∈ns,jg n
theorem wd: ∀(K out:List (List Int)),(∀k∈K,k.length≤100)→out.length+K.length≤1000→mO K out=some (out++K,0,0)
 |[],out,_,_=>by unfold mO;rw [t8]
 |k::tl,out,hk,hl=>by
  unfold mO
  rw [uL k (by have:=hk k (nf ..);omega),bj,bH (by simp at hl ⊢;omega),bj,wd tl _ (fun x hx=>hk x (oO _ hx)) (by simp at hl ⊢;omega)]
  simp
theorem pQ(l:al){w:Int}(h:0≤w):lb l w=some ([],w,291):=by
 unfold lb
 rw [bq (by simpa using h)]
def GR(ns:List ap)(r:Option (List (List Int)×Int×Int)):Prop:= ∃out w e,r=some (out,w,e)∧((e=0∧w=0∧KOK ns out∧1≤ns.length∧ns.length≤60)∨(e=291∧out=[]))
theorem z2{ns:List ap}(hs:rE ns)(h1:1≤ns.length)(h60:ns.length≤60): ∀(tl:List ap) (i:Nat) (l:al),ns.drop i=tl→ER ns l i→GR ns (gh ns ((mN).getD []) tl i (-1) l)
 |[],i,l,hd,h=>by
  have hlen:ns.length≤i:=BM hd
  have hi:i=ns.length:=by
   rcases oZ ns.length i with hlt|hge
   ·obtain⟨n,_,hn,_⟩:=h.ok ns.length hlt
    rw [G7 (eE _)]at hn
    cases hn
   ·omega
  unfold gh jN
  by_cases hc:((decide ((-1:Int)<(0:Int)))&&((l.open_.length:Int) !=(1:Int)))=true
  ·rw [bq hc,eC (by omega) (by omega),pQ l (by omega)]
   exact⟨_,_,_,rfl,.inr ⟨rfl,rfl⟩⟩
  ·rw [aW hc]
   unfold lb
   rw [aW (by decide),wd l.kinds [] (fun k hk=>by have:=h.kinds k hk;omega) (by have:=h.len;simp;omega),lL]
   exact⟨_,_,_,rfl,.inl ⟨rfl,rfl,⟨by rw [h.len,hi],fun j hj=>h.ok j (by omega)⟩,h1,h60⟩⟩
 |e::tl,i,l,hd,h=>by
  obtain⟨hidx,hi,hd'⟩:=ij hd
  rw [dJ]at hidx
  unfold gh
  obtain⟨ok,l',g1,g2,g3⟩:=Fm h (by omega) (by omega) hidx (hs.n e (qM hidx))
  have g1' :dO l (i:Int) ((tg ((mN).getD []) e.Op).getD (fun _ _=>none))=some (ok,l'):=g1
  rw [g1',bj]
  cases ok with
  |false=>
   rw [bq (by rfl)]
   unfold jN
   rw [aW (by simp;omega),pQ l' (by omega)]
   exact⟨_,_,_,rfl,.inr ⟨rfl,rfl⟩⟩
  |true=>
   rw [aW (by simp)]
   exact z2 hs h1 h60 tl (i+1) l' hd' (g3 rfl)
theorem Cu{ns:List ap}(hs:rE ns):GR ns (lc ns):=by
 unfold lc
 by_cases hc:((decide ((ns.length:Int)<(1:Int)))||(decide ((60:Int)<(ns.length:Int))))=true
 ·rw [bq hc]
  exact⟨_,_,_,rfl,.inr ⟨rfl,rfl⟩⟩
 ·rw [aW hc]
  simp at hc
  exact z2 hs (by omega) (by omega) ns 0 _ rfl ⟨rfl,rfl,fun p hp=>(by cases hp),eE _,fun k hk=>(by cases hk),fun j hj=>by omega⟩
end Go.Proofs.YtdohlidddcgfjaaGreat

