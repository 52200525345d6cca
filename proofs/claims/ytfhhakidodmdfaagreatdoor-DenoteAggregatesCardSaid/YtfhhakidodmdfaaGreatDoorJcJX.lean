/- di of this claim: JX. -/
import Derived.Test.YtfhhakidodmdfaaGreatDoorJcA0
import Derived.Test.YtfhhakidodmdfaaGreatDoorJcQ4
set_option linter.all false
namespace Go.Proofs.YtfhhakidodmdfaaGreatDoor
open Go

theorem RD{v:ac}(h:xX v):r64 v.N:=by
 have:=h.2.1
 unfold Gp at this
 exact⟨this.1,this.2⟩
theorem Ym{e:bS}(h:Iw e):Jm e.Nodes:=fun n hn=>RD ((show Yx EU e.Nodes from h).2 n hn).2.2.2.2
theorem Ue{l:List cU}(h:Yx (Yx xX) l):Dw l:=fun r hr v hv=>RD ((h.2 r hr).2 v hv)
theorem wL(a:gv)(ha:RH a)(rows:List cU)(hr:Yx (Yx xX) rows):kp a rows=some true:=DE a rows (Ym ha.2) (Ue hr)
end Go.Proofs.YtfhhakidodmdfaaGreatDoor

