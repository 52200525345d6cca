/- co of this claim: L5. -/
import Derived.Test.YtmogpgcfognefaaGreatDoorNeQ1
set_option linter.all false
namespace Go.Proofs.YtmogpgcfognefaaGreatDoor
open Go

theorem SW{α:Type}(l:List α):((l.length:Int)==0)=l.isEmpty:=by cases l<;>simp<;>omega
theorem SV{α:Type}(l:List α):decide ((0:Int)<(l.length:Int))= !l.isEmpty:=by cases l<;>simp<;>omega
structure T5(l:vt)(j:Nat)(f:Int)(ks:List Int)(s:Nat):Prop where
 pos:1≤s
 le:s≤j+1
 fst:f=(j:Int)+1-(s:Int)
 size: ∀fu,j+1<fu→nQ fu l (j:Int)=some (s:Int)
 len:ks.length≤16
 kinds: ∀fu,j+1<fu→o4 fu l (j:Int)=some (ks,true)
structure Inv(l:vt)(i:Nat)(first:List Int)(kinds:List (List Int)):Prop where
 fl:first.length=i
 kl:kinds.length=i
 node: ∀j,j<i→ ∃f ks s,first[j]? =some f∧kinds[j]? =some ks∧T5 l j f ks s
end Go.Proofs.YtmogpgcfognefaaGreatDoor

