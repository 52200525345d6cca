import Derived.Test.YtadeokalnbmppaaGreatDoorReY5
set_option linter.all false
namespace Go.Proofs.YtadeokalnbmppaaGreatDoor
open Go
structure Cut5(n:ac):Prop where
 j':n.U'.length<=17
 keys:n.I'.length<=6
 z_:n.L'.length<=14
 items:n.N'.length<=17
 order:n.Y'.length<=5
