/- bR of this claim: Y3. -/
import Derived.Test.YtdohlidddcgfjaaGreatFbY2
set_option linter.all false
namespace Go.Proofs.YtdohlidddcgfjaaGreat
open Go

structure KOK(ns:List aa)(tV:List (List Int)):Prop where
 len:tV.length=ns.length
 at_: ∀j,j<ns.length->Bm ns tV j
structure qv(ns:List aa):Prop where
 len:ns.length<=90
 n: ∀n∈ns,iN n
def vv: ∀(tV out:List (List Int)),(∀k∈tV,k.length<=100)->out.length+tV.length<=1000->lU tV out=some (out++tV,0,0)
 |[],out,_,_=>by unfold lU;rw [sC]
 |k::tl,out,hk,hl=>by
  unfold lU
  rw [ua k (by have:=hk k (nV ..);omega),br,cy (by simp at hl ⊢;omega),br,vv tl _ (fun x V=>hk x (o8 _ V)) (by simp at hl ⊢;omega)]
  simp
def oX(l:ai){w:Int}(h:0<=w):kE l w=some ([],w,291):=by
 unfold kE
 rw [bu (by simpa using h)]
def Hb(ns:List aa)(r:Option (List (List Int)×Int×Int)):Prop:= ∃out w e,r=some (out,w,e)/\((e=0/\w=0/\KOK ns out/\1<=ns.length/\ns.length<=60)\/(e=291/\out=[]))
def zV{ns:List aa}(hs:qv ns)(Y:1<=ns.length)(h60:ns.length<=60): ∀(tl:List aa) (i:Nat) (l:ai),ns.drop i=tl->E6 ns l i->Hb ns (fh ns ((lT).getD []) tl i (-1) l)
 |[],i,l,hd,h=>by
  have hlen:ns.length<=i:=BQ hd
  have hi:i=ns.length:=by
   rcases m0 ns.length i with hlt|hge
   ·obtain⟨n,_,hn,_⟩:=h.ok ns.length hlt
    rw [Hk (jW _)]at hn
    cases hn
   ·omega
  unfold fh jv
  by_cases hc:((decide ((-1:Int)<(0:Int)))&&((l.open_.length:Int) !=(1:Int)))=true
  ·rw [bu hc,d7 (by omega) (by omega),oX l (by omega)]
   exact⟨_,_,_,rfl,.inr ⟨rfl,rfl⟩⟩
  ·rw [aZ hc]
   unfold kE
   rw [aZ (by decide),vv l.kinds [] (fun k hk=>by have:=h.kinds k hk;omega) (by have:=h.len;simp;omega),mz]
   exact⟨_,_,_,rfl,.inl ⟨rfl,rfl,⟨by rw [h.len,hi],fun j hj=>h.ok j (by omega)⟩,Y,h60⟩⟩
 |e::tl,i,l,hd,h=>by
  obtain⟨hidx,hi,hd'⟩:=nL hd
  rw [eZ]at hidx
  unfold fh
  obtain⟨ok,l',g1,g2,g3⟩:=FH h (by omega) (by omega) hidx (hs.n e (rm hidx))
  have g1' :de l (i:Int) ((sq ((lT).getD []) e.Op).getD (fun _ _=>none))=some (ok,l'):=g1
  rw [g1',br]
  cases ok with
  |false=>
   rw [bu (by rfl)]
   unfold jv
   rw [aZ (by simp;omega),oX l' (by omega)]
   exact⟨_,_,_,rfl,.inr ⟨rfl,rfl⟩⟩
  |true=>
   rw [aZ (by simp)]
   exact zV hs Y h60 tl (i+1) l' hd' (g3 rfl)
def Cz{ns:List aa}(hs:qv ns):Hb ns (kF ns):=by
 unfold kF
 by_cases hc:((decide ((ns.length:Int)<(1:Int)))||(decide ((60:Int)<(ns.length:Int))))=true
 ·rw [bu hc]
  exact⟨_,_,_,rfl,.inr ⟨rfl,rfl⟩⟩
 ·rw [aZ hc]
  simp at hc
  exact zV hs (by omega) (by omega) ns 0 _ rfl ⟨rfl,rfl,fun p hp=>(by cases hp),jW _,fun k hk=>(by cases hk),fun j hj=>by omega⟩
end Go.Proofs.YtdohlidddcgfjaaGreat

