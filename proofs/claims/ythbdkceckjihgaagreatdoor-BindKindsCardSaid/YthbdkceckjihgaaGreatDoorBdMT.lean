/- cm of this claim: MT. -/
import Derived.Test.YthbdkceckjihgaaGreatDoorBdF
set_option linter.all false
namespace Go.Proofs.YthbdkceckjihgaaGreatDoor
open Go

def F6: ∀(l:List Int) (i:Nat) (all:List Int) {R},ii l i all=some R->R.2.length=all.length:=by
 intro l
 induction l with
 |nil=>intro i all R h;cases h;exact I
 |cons e tl ih=>
  intro i all R h
  simp only [ii,Option.bind_eq_some_iff]at h
  obtain⟨e1,_,h⟩:=h
  split at h
  ·have:=ih _ _ h
   simpa using this
  ·split at h
   ·cases h;exact I
   ·exact ih _ _ h
def qK{all l:List Int}{R}(h:mt all l=some R):R.2.length=all.length:=by
 unfold mt at h
 split at h
 ·cases h;exact I
 ·exact F6 _ _ _ h
end Go.Proofs.YthbdkceckjihgaaGreatDoor

