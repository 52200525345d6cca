import Derived.Test.YtadeokalnbmppaaGreatDoorReU1
import Derived.Test.YtadeokalnbmppaaGreatDoorReY2
set_option linter.all false
namespace Go.Proofs.YtadeokalnbmppaaGreatDoor
open Go
structure KOK(ns:List ac)(hb:List (List Int)):Prop where
 len:hb.length=ns.length
 h_: ∀j,j<ns.length->Hy ns hb j
structure YX(ns:List ac):Prop where
 len:ns.length<=90
 n: ∀n∈ns,d9 n
def FO: ∀(hb out:List (List Int)),(∀k∈hb,k.length<=100)->out.length+hb.length<=1000->oI hb out=some (out++hb,0,0)
 |[],out,_,_=>by unfold oI;rw [yH]
 |k::tl,out,hk,hl=>by
  unfold oI;rw [oA k (by have:=hk k (pz ..);omega),bh,cK (by simp at hl ⊢;omega),bh,FO tl _ (fun x I=>hk x (pA _ I)) (by simp at hl ⊢;omega)];simp
