/- bS of this claim: Y3. -/
import Derived.Test.YtdohlidddcgfjaaGreatFfY2
set_option linter.all false
namespace Go.Proofs.YtdohlidddcgfjaaGreat
open Go

structure KOK(ns:List aa)(hg:List (List Int)):Prop where
 len:hg.length=ns.length
 at_: ∀j,j<ns.length->EZ ns hg j
structure mz(ns:List aa):Prop where
 len:ns.length<=90
 n: ∀n∈ns,je n
def yB: ∀(hg out:List (List Int)),(∀k∈hg,k.length<=100)->out.length+hg.length<=1000->nw hg out=some (out++hg,0,0)
 |[],out,_,_=>by unfold nw;rw [p6]
 |k::tl,out,hk,hl=>by
  unfold nw
  rw [td k (by have:=hk k (nM ..);omega),bf,cD (by simp at hl ⊢;omega),bf,yB tl _ (fun x V=>hk x (pK _ V)) (by simp at hl ⊢;omega)]
  simp
def pB(l:al){w:Int}(h:0<=w):lY l w=some ([],w,291):=by
 unfold lY
 rw [bh (by simpa using h)]
def LI(ns:List aa)(r:Option (List (List Int)×Int×Int)):Prop:= ∃out w e,r=some (out,w,e)/\((e=0/\w=0/\KOK ns out/\1<=ns.length/\ns.length<=60)\/(e=291/\out=[]))
def Db{ns:List aa}(hs:mz ns)(Y:1<=ns.length)(h60:ns.length<=60): ∀(tl:List aa) (i:Nat) (l:al),ns.drop i=tl->Jt ns l i->LI ns (fh ns ((lE).getD []) tl i (-1) l)
 |[],i,l,hd,h=>by
  have hlen:ns.length<=i:=Fo hd
  have hi:i=ns.length:=by
   rcases oc ns.length i with hlt|hge
   ·obtain⟨n,_,hn,_⟩:=h.ok ns.length hlt
    rw [D9 (eo _)]at hn
    cases hn
   ·omega
  unfold fh jJ
  by_cases hc:((decide ((-1:Int)<(0:Int)))&&((l.open_.length:Int) !=(1:Int)))=true
  ·rw [bh hc,eM (by omega) (by omega),pB l (by omega)]
   exact⟨_,_,_,rfl,.inr ⟨rfl,rfl⟩⟩
  ·rw [aQ hc]
   unfold lY
   rw [aQ (by decide),yB l.kinds [] (fun k hk=>by have:=h.kinds k hk;omega) (by have:=h.len;simp;omega),mh]
   exact⟨_,_,_,rfl,.inl ⟨rfl,rfl,⟨by rw [h.len,hi],fun j hj=>h.ok j (by omega)⟩,Y,h60⟩⟩
 |e::tl,i,l,hd,h=>by
  obtain⟨hidx,hi,hd'⟩:=pz hd
  rw [eU]at hidx
  unfold fh
  obtain⟨ok,l',g1,g2,g3⟩:=JZ h (by omega) (by omega) hidx (hs.n e (tu hidx))
  have g1' :dm l (i:Int) ((uo ((lE).getD []) e.Op).getD (fun _ _=>none))=some (ok,l'):=g1
  rw [g1',bf]
  cases ok with
  |false=>
   rw [bh (by rfl)]
   unfold jJ
   rw [aQ (by simp;omega),pB l' (by omega)]
   exact⟨_,_,_,rfl,.inr ⟨rfl,rfl⟩⟩
  |true=>
   rw [aQ (by simp)]
   exact Db hs Y h60 tl (i+1) l' hd' (g3 rfl)
def F5{ns:List aa}(hs:mz ns):LI ns (iM ns):=by
 unfold iM
 by_cases hc:((decide ((ns.length:Int)<(1:Int)))||(decide ((60:Int)<(ns.length:Int))))=true
 ·rw [bh hc]
  exact⟨_,_,_,rfl,.inr ⟨rfl,rfl⟩⟩
 ·rw [aQ hc]
  simp at hc
  exact Db hs (by omega) (by omega) ns 0 _ rfl ⟨rfl,rfl,fun p hp=>(by cases hp),eo _,fun k hk=>(by cases hk),fun j hj=>by omega⟩
end Go.Proofs.YtdohlidddcgfjaaGreat

