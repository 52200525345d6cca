import Derived.Test.YtadeokalnbmppaaGreatDoorReF
import Derived.Test.YtadeokalnbmppaaGreatDoorReV4
set_option linter.all false
namespace Go.Proofs.YtadeokalnbmppaaGreatDoor
open Go
def pR(l:cQ)(r3:dp×Int)(s:List (Int×Int)): ∀ls:List Int,eI l r3 s ls=if ls.any (fun k=>((jC s k).getD 0) !=0)then some false else eI l r3 s []
 |[]=>J
 |c::ls=>by
  conv=>lhs;unfold eI
  rw [pR l r3 s ls,zD]
  cases (((jC s c).getD 0) !=0)with
  |true=>exact J
  |false=>simp only [qD,lS,yG]
def Wt{p:Int->Bool}{k:Int}{ls:List Int}(hk:k∈ls):(k::ls.filter (fun y=>y≠k)).any p=ls.any p:=by
 apply uQ.2;simp only [zO,iI,IQ];constructor
 ·rintro⟨x,rfl|⟨I,_⟩,hp⟩
  ·exact⟨x,hk,hp⟩
  ·exact⟨x,I,hp⟩
 ·rintro⟨x,I,hp⟩;by_cases h:x=k
  ·exact⟨x,.inl h,hp⟩
  ·exact⟨x,.inr ⟨I,by simpa using h⟩,hp⟩
def yj{l:cQ}{r3:dp×Int}{s:List (Int×Int)}{k:Int}{ls:List Int}(hk:k∈ls):eI l r3 s (k::ls.filter (fun y=>y≠k))=eI l r3 s ls:=by
 rw [pR l r3 s ls,pR l r3 s (k::_),Wt hk]
