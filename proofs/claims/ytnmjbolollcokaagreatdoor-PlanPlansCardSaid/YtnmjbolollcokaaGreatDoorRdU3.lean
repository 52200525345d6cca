/- dr of this claim: U3. -/
import Derived.Test.YtnmjbolollcokaaGreatDoorRdU2
set_option linter.all false
namespace Go.Proofs.YtnmjbolollcokaaGreatDoor
open Go

def Qm(p:dp)(frag:Int):Prop:=1≤p.Frags.length∧p.Frags.length≤30∧0≤frag∧frag<(p.Frags.length:Int)
def Mg(p:dp)(n:Int):Prop:=1≤p.Frags.length∧p.Frags.length≤30∧1≤n∧n≤8
instance(p:dp)(frag:Int):Decidable (Qm p frag):=by unfold Qm;infer_instance
instance(p:dp)(n:Int):Decidable (Mg p n):=by unfold Mg;infer_instance
end Go.Proofs.YtnmjbolollcokaaGreatDoor

