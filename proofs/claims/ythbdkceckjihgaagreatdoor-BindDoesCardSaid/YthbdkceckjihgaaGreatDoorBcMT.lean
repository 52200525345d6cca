/- dm of this claim: MT. -/
import Derived.Test.YthbdkceckjihgaaGreatDoorBcF
set_option linter.all false
namespace Go.Proofs.YthbdkceckjihgaaGreatDoor
open Go

def J2: ∀(l:List Int) (i:Nat) (all:List Int) {R},kl l i all=some R->R.2.length=all.length:=by
 intro l
 induction l with
 |nil=>intro i all R h;cases h;exact I
 |cons e tl ih=>
  intro i all R h
  simp only [kl,Option.bind_eq_some_iff]at h
  obtain⟨e1,_,h⟩:=h
  split at h
  ·have:=ih _ _ h
   simpa using this
  ·split at h
   ·cases h;exact I
   ·exact ih _ _ h
def vS{all l:List Int}{R}(h:pL all l=some R):R.2.length=all.length:=by
 unfold pL at h
 split at h
 ·cases h;exact I
 ·exact J2 _ _ _ h
end Go.Proofs.YthbdkceckjihgaaGreatDoor

