/- cH of this claim: MT. -/
import Derived.Test.YthbdkceckjihgaaGreatDoorBaF
set_option linter.all false
namespace Go.Proofs.YthbdkceckjihgaaGreatDoor
open Go

def AK: ∀(l:List Int) (i:Nat) (all:List Int) {R},ja l i all=some R->R.2.length=all.length:=by
 intro l
 induction l with
 |nil=>intro i all R h;cases h;exact I
 |cons e tl ih=>
  intro i all R h
  simp only [ja,Option.bind_eq_some_iff]at h
  obtain⟨e1,_,h⟩:=h
  split at h
  ·have:=ih _ _ h
   simpa using this
  ·split at h
   ·cases h;exact I
   ·exact ih _ _ h
def nM{all l:List Int}{R}(h:p7 all l=some R):R.2.length=all.length:=by
 unfold p7 at h
 split at h
 ·cases h;exact I
 ·exact AK _ _ _ h
end Go.Proofs.YthbdkceckjihgaaGreatDoor

