/- bT of this claim: Y3. -/
import Derived.Test.YtdohlidddcgfjaaGreatFdY2
set_option linter.all false
namespace Go.Proofs.YtdohlidddcgfjaaGreat
open Go

structure KOK(ns:List aa)(hb:List (List Int)):Prop where
 len:hb.length=ns.length
 at_: ∀j,j<ns.length->ED ns hb j
structure mq(ns:List aa):Prop where
 len:ns.length<=90
 n: ∀n∈ns,i0 n
def yk: ∀(hb out:List (List Int)),(∀k∈hb,k.length<=100)->out.length+hb.length<=1000->nk hb out=some (out++hb,0,0)
 |[],out,_,_=>by unfold nk;rw [pM]
 |k::tl,out,hk,hl=>by
  unfold nk
  rw [sP k (by have:=hk k (nA ..);omega),bg,cK (by simp at hl ⊢;omega),bg,yk tl _ (fun x V=>hk x (pp _ V)) (by simp at hl ⊢;omega)]
  simp
def pf(l:al){w:Int}(h:0<=w):lU l w=some ([],w,291):=by
 unfold lU
 rw [bh (by simpa using h)]
def K9(ns:List aa)(r:Option (List (List Int)×Int×Int)):Prop:= ∃out w e,r=some (out,w,e)/\((e=0/\w=0/\KOK ns out/\1<=ns.length/\ns.length<=60)\/(e=291/\out=[]))
def CS{ns:List aa}(hs:mq ns)(Y:1<=ns.length)(h60:ns.length<=60): ∀(tl:List aa) (i:Nat) (l:al),ns.drop i=tl->I5 ns l i->K9 ns (fd ns ((lz).getD []) tl i (-1) l)
 |[],i,l,hd,h=>by
  have hlen:ns.length<=i:=E3 hd
  have hi:i=ns.length:=by
   rcases nS ns.length i with hlt|hge
   ·obtain⟨n,_,hn,_⟩:=h.ok ns.length hlt
    rw [DL (eg _)]at hn
    cases hn
   ·omega
  unfold fd jE
  by_cases hc:((decide ((-1:Int)<(0:Int)))&&((l.open_.length:Int) !=(1:Int)))=true
  ·rw [bh hc,eP (by omega) (by omega),pf l (by omega)]
   exact⟨_,_,_,rfl,.inr ⟨rfl,rfl⟩⟩
  ·rw [aR hc]
   unfold lU
   rw [aR (by decide),yk l.kinds [] (fun k hk=>by have:=h.kinds k hk;omega) (by have:=h.len;simp;omega),m7]
   exact⟨_,_,_,rfl,.inl ⟨rfl,rfl,⟨by rw [h.len,hi],fun j hj=>h.ok j (by omega)⟩,Y,h60⟩⟩
 |e::tl,i,l,hd,h=>by
  obtain⟨hidx,hi,hd'⟩:=pe hd
  rw [eU]at hidx
  unfold fd
  obtain⟨ok,l',g1,g2,g3⟩:=JC h (by omega) (by omega) hidx (hs.n e (s5 hidx))
  have g1' :dh l (i:Int) ((tZ ((lz).getD []) e.Op).getD (fun _ _=>none))=some (ok,l'):=g1
  rw [g1',bg]
  cases ok with
  |false=>
   rw [bh (by rfl)]
   unfold jE
   rw [aR (by simp;omega),pf l' (by omega)]
   exact⟨_,_,_,rfl,.inr ⟨rfl,rfl⟩⟩
  |true=>
   rw [aR (by simp)]
   exact CS hs Y h60 tl (i+1) l' hd' (g3 rfl)
def FJ{ns:List aa}(hs:mq ns):K9 ns (iH ns):=by
 unfold iH
 by_cases hc:((decide ((ns.length:Int)<(1:Int)))||(decide ((60:Int)<(ns.length:Int))))=true
 ·rw [bh hc]
  exact⟨_,_,_,rfl,.inr ⟨rfl,rfl⟩⟩
 ·rw [aR hc]
  simp at hc
  exact CS hs (by omega) (by omega) ns 0 _ rfl ⟨rfl,rfl,fun p hp=>(by cases hp),eg _,fun k hk=>(by cases hk),fun j hj=>by omega⟩
end Go.Proofs.YtdohlidddcgfjaaGreat

