/- cE of this claim: Y3. -/
import Derived.Test.YtdohlidddcgfjaaGreatFcY2
set_option linter.all false
namespace Go.Proofs.YtdohlidddcgfjaaGreat
open Go

structure KOK(ns:List tV)(h2:List (List Int)):Prop where
 len:h2.length=ns.length
 at_: ∀j,j<ns.length->EM ns h2 j
structure om(ns:List tV):Prop where
 len:ns.length<=90
 n: ∀n∈ns,jJ n
def yO: ∀(h2 out:List (List Int)),(∀k∈h2,k.length<=100)->out.length+h2.length<=1000->oM h2 out=some (out++h2,0,0)
 |[],out,_,_=>by unfold oM;rw [qC]
 |k::tl,out,hk,hl=>by
  unfold oM
  rw [tY k (by have:=hk k (qa ..);omega),bG,cd (by simp at hl ⊢;omega),bG,yO tl _ (fun x V=>hk x (ry _ V)) (by simp at hl ⊢;omega)]
  simp
def qw(l:aq){w:Int}(h:0<=w):m5 l w=some ([],w,291):=by
 unfold m5
 rw [bJ (by simpa using h)]
def KT(ns:List tV)(r:Option (List (List Int)×Int×Int)):Prop:= ∃out w e,r=some (out,w,e)/\((e=0/\w=0/\KOK ns out/\1<=ns.length/\ns.length<=60)\/(e=291/\out=[]))
def Db{ns:List tV}(hs:om ns)(X:1<=ns.length)(h60:ns.length<=60): ∀(tl:List tV) (i:Nat) (l:aq),ns.drop i=tl->IU ns l i->KT ns (fY ns ((mD).getD []) tl i (-1) l)
 |[],i,l,hd,h=>by
  have hlen:ns.length<=i:=Fb hd
  have hi:i=ns.length:=by
   rcases qb ns.length i with hlt|hge
   ·obtain⟨n,_,hn,_⟩:=h.ok ns.length hlt
    rw [DP (eJ _)]at hn
    cases hn
   ·omega
  unfold fY kc
  by_cases hc:((decide ((-1:Int)<(0:Int)))&&((l.open_.length:Int) !=(1:Int)))=true
  ·rw [bJ hc,fg (by omega) (by omega),qw l (by omega)]
   exact⟨_,_,_,rfl,.inr ⟨rfl,rfl⟩⟩
  ·rw [bk hc]
   unfold m5
   rw [bk (by decide),yO l.kinds [] (fun k hk=>by have:=h.kinds k hk;omega) (by have:=h.len;simp;omega),oY]
   exact⟨_,_,_,rfl,.inl ⟨rfl,rfl,⟨by rw [h.len,hi],fun j hj=>h.ok j (by omega)⟩,X,h60⟩⟩
 |e::tl,i,l,hd,h=>by
  obtain⟨hidx,hi,hd'⟩:=jb hd
  rw [eu]at hidx
  unfold fY
  obtain⟨ok,l',g1,g2,g3⟩:=Jt h (by omega) (by omega) hidx (hs.n e (rC hidx))
  have g1' :dC l (i:Int) ((uY ((mD).getD []) e.Op).getD (fun _ _=>none))=some (ok,l'):=g1
  rw [g1',bG]
  cases ok with
  |false=>
   rw [bJ (by rfl)]
   unfold kc
   rw [bk (by simp;omega),qw l' (by omega)]
   exact⟨_,_,_,rfl,.inr ⟨rfl,rfl⟩⟩
  |true=>
   rw [bk (by simp)]
   exact Db hs X h60 tl (i+1) l' hd' (g3 rfl)
def FX{ns:List tV}(hs:om ns):KT ns (jV ns):=by
 unfold jV
 by_cases hc:((decide ((ns.length:Int)<(1:Int)))||(decide ((60:Int)<(ns.length:Int))))=true
 ·rw [bJ hc]
  exact⟨_,_,_,rfl,.inr ⟨rfl,rfl⟩⟩
 ·rw [bk hc]
  simp at hc
  exact Db hs (by omega) (by omega) ns 0 _ rfl ⟨rfl,rfl,fun p hp=>(by cases hp),eJ _,fun k hk=>(by cases hk),fun j hj=>by omega⟩
end Go.Proofs.YtdohlidddcgfjaaGreat

