import Derived.Test.YtaehdhmbgmbgiaaGreatDoorKkQ3
set_option linter.all false
namespace Go.Proofs.YtaehdhmbgmbgiaaGreatDoor
open Go
def Yk{β:Type}(m:List (Int×β))(k k' :Int)(v:β):m5 (dO m k v) k' =if k=k' then some v else m5 m k' :=by
 induction m with
 |nil=>simp only [dO,m5]
 |cons p m ih=>
  unfold dO;by_cases h:p.1=k
  ·rw [bz h];simp only [m5];by_cases M:k=k'
   ·simp [M]
   ·rw [aR M,aR M,aR (by rw [h];exact M)]
  ·rw [aR h];simp only [m5];rw [ih];by_cases M:k=k'
   ·subst M;simp [h]
   ·simp [M]
def Hw(a:cK):ql a a=some 0:=by
 rw [CE,(fe.eq a a).2 rfl];simp
