import Derived.Test.YtadeokalnbmppaaGreatDoorReY13
set_option linter.all false
namespace Go.Proofs.YtadeokalnbmppaaGreatDoor
open Go
def Sz(ns:List ac)(j s:Nat):Prop:= ∀fu,j+1<fu->vM fu ns (j:Int)=some (s:Int)
inductive Stk(ns:List ac):List Int->Int->Prop
 |nil:Stk ns [] (-1)
 |cons {rest:List Int} (j s:Nat):Sz ns j s->1<=s->s<=j+1->Stk ns rest ((j:Int)-(s:Int))->Stk ns ((j:Int)::rest) (j:Int)
def PlN(e:ac)(st:List Int):Prop:=(sZ e.Op=0/\e.A= -1/\e.B= -1)\/(sZ e.Op=1/\e.B= -1/\ ∃rest,st=e.A::rest)\/(sZ e.Op=2/\ ∃rest,st=e.B::e.A::rest)
def K3.nil:K3 []:=fun x I=>by cases I
def wm(e:ac)(a b:List Int):Bool:=(e.Op==11)||(!(decide ((4:Int)∈a))&& !(decide ((4:Int)∈b)))
section
variable{l:ap}{nx:Nat->(List (List Int))->Option ((List (List Int))×Int)}{i:Nat}{out:List (List Int)}
end
