/- co of this claim: Y14. -/
import Derived.Test.YtmogpgcfognefaaGreatDoorNeY13
set_option linter.all false
namespace Go.Proofs.YtmogpgcfognefaaGreatDoor
open Go

def Sz(ns:List aK)(j s:Nat):Prop:= ∀fu,j+1<fu→qe fu ns (j:Int)=some (s:Int)
inductive Xk(ns:List aK):List Int→Int→Prop
 |nil:Xk ns [] (-1)
 |cons {rest:List Int} (j s:Nat):Sz ns j s→1≤s→s≤j+1→Xk ns rest ((j:Int)-(s:Int))→Xk ns ((j:Int)::rest) (j:Int)
def PlN(e:aK)(st:List Int):Prop:=(wy e.Op=0∧e.A= -1∧e.B= -1)∨(wy e.Op=1∧e.B= -1∧ ∃rest,st=e.A::rest)∨(wy e.Op=2∧ ∃rest,st=e.B::e.A::rest)
def ux(e:aK)(a b:List Int):Bool:=(e.Op==11)||(!(decide ((4:Int)∈a))&& !(decide ((4:Int)∈b)))
section
variable{l:al}{nx:Nat→(List (List Int))→Option ((List (List Int))×Int)}{i:Nat}{out:List (List Int)}
end
end Go.Proofs.YtmogpgcfognefaaGreatDoor

