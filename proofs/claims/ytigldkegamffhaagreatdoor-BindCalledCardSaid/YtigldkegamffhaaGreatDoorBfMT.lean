/- de of this claim: MT. -/
import Derived.Test.YtigldkegamffhaaGreatDoorBfF
set_option linter.all false
namespace Go.Proofs.YtigldkegamffhaaGreatDoor
open Go

def KD: ∀(l:List Int) (i:Nat) (all:List Int) {R},jS l i all=some R->R.2.length=all.length:=by
 intro l
 induction l with
 |nil=>intro i all R h;cases h;exact I
 |cons e tl ih=>
  intro i all R h
  simp only [jS,Option.bind_eq_some_iff]at h
  obtain⟨e1,_,h⟩:=h
  split at h
  ·have:=ih _ _ h
   simpa using this
  ·split at h
   ·cases h;exact I
   ·exact ih _ _ h
def uI{all l:List Int}{R}(h:nu all l=some R):R.2.length=all.length:=by
 unfold nu at h
 split at h
 ·cases h;exact I
 ·exact KD _ _ _ h
end Go.Proofs.YtigldkegamffhaaGreatDoor

