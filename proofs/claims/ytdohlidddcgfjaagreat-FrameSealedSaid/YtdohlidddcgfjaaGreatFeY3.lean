/- bO of this claim: Y3. -/
import Derived.Test.YtdohlidddcgfjaaGreatFeY2
set_option linter.all false
namespace Go.Proofs.YtdohlidddcgfjaaGreat
open Go

structure KOK(ns:List aa)(tV:List (List Int)):Prop where
 len:tV.length=ns.length
 at_: ∀j,j<ns.length->CW ns tV j
structure rC(ns:List aa):Prop where
 len:ns.length<=90
 n: ∀n∈ns,ju n
def wN: ∀(tV out:List (List Int)),(∀k∈tV,k.length<=100)->out.length+tV.length<=1000->mM tV out=some (out++tV,0,0)
 |[],out,_,_=>by unfold mM;rw [tv]
 |k::tl,out,hk,hl=>by
  unfold mM
  rw [vk k (by have:=hk k (nQ ..);omega),bg,cE (by simp at hl ⊢;omega),bg,wN tl _ (fun x X=>hk x (o4 _ X)) (by simp at hl ⊢;omega)]
  simp
def pX(l:al){w:Int}(h:0<=w):li l w=some ([],w,291):=by
 unfold li
 rw [bo (by simpa using h)]
def Jk(ns:List aa)(r:Option (List (List Int)×Int×Int)):Prop:= ∃out w e,r=some (out,w,e)/\((e=0/\w=0/\KOK ns out/\1<=ns.length/\ns.length<=60)\/(e=291/\out=[]))
def Bp{ns:List aa}(hs:rC ns)(Y:1<=ns.length)(h60:ns.length<=60): ∀(tl:List aa) (i:Nat) (l:al),ns.drop i=tl->Ha ns l i->Jk ns (fU ns ((mL).getD []) tl i (-1) l)
 |[],i,l,hd,h=>by
  have hlen:ns.length<=i:=Dk hd
  have hi:i=ns.length:=by
   rcases nf ns.length i with hlt|hge
   ·obtain⟨n,_,hn,_⟩:=h.ok ns.length hlt
    rw [Cd (dY _)]at hn
    cases hn
   ·omega
  unfold fU j6
  by_cases hc:((decide ((-1:Int)<(0:Int)))&&((l.open_.length:Int) !=(1:Int)))=true
  ·rw [bo hc,ew (by omega) (by omega),pX l (by omega)]
   exact⟨_,_,_,rfl,.inr ⟨rfl,rfl⟩⟩
  ·rw [aV hc]
   unfold li
   rw [aV (by decide),wN l.kinds [] (fun k hk=>by have:=h.kinds k hk;omega) (by have:=h.len;simp;omega),mo]
   exact⟨_,_,_,rfl,.inl ⟨rfl,rfl,⟨by rw [h.len,hi],fun j hj=>h.ok j (by omega)⟩,Y,h60⟩⟩
 |e::tl,i,l,hd,h=>by
  obtain⟨hidx,hi,hd'⟩:=oQ hd
  rw [eK]at hidx
  unfold fU
  obtain⟨ok,l',g1,g2,g3⟩:=HG h (by omega) (by omega) hidx (hs.n e (sI hidx))
  have g1' :dA l (i:Int) ((tL ((mL).getD []) e.Op).getD (fun _ _=>none))=some (ok,l'):=g1
  rw [g1',bg]
  cases ok with
  |false=>
   rw [bo (by rfl)]
   unfold j6
   rw [aV (by simp;omega),pX l' (by omega)]
   exact⟨_,_,_,rfl,.inr ⟨rfl,rfl⟩⟩
  |true=>
   rw [aV (by simp)]
   exact Bp hs Y h60 tl (i+1) l' hd' (g3 rfl)
def D9{ns:List aa}(hs:rC ns):Jk ns (jI ns):=by
 unfold jI
 by_cases hc:((decide ((ns.length:Int)<(1:Int)))||(decide ((60:Int)<(ns.length:Int))))=true
 ·rw [bo hc]
  exact⟨_,_,_,rfl,.inr ⟨rfl,rfl⟩⟩
 ·rw [aV hc]
  simp at hc
  exact Bp hs (by omega) (by omega) ns 0 _ rfl ⟨rfl,rfl,fun p hp=>(by cases hp),dY _,fun k hk=>(by cases hk),fun j hj=>by omega⟩
end Go.Proofs.YtdohlidddcgfjaaGreat

