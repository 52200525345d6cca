/- cW of this claim: S. -/
import Derived.Shelf.Slices.In.SortNone
import Derived.Ground.NamesProg
import Derived.Test.YtbmmihfagmchaaaGreatProg
set_option linter.all false
namespace Go.Proofs
open Go.Shelf
def yj:Go.Shelf.Ren:=⟨fun|189=>50|125=>78|257=>77|128=>112|129=>113|294=>103|295=>104|296=>105|297=>106|298=>107|299=>108|216=>109|300=>110|301=>111|328=>136|329=>137|330=>138|331=>139|332=>140|215=>141|343=>154|n=>n,fun|28=>23|3=>3|46=>133|0=>0|51=>158|53=>59|4=>4|183=>151|182=>150|131=>146|5=>5|9=>9|218=>175|222=>179|228=>190|229=>191|n=>n,fun|n=>n⟩
def Dr:Go.Proofs.Lays.n189 Tryz.prog yj:={
 mixed:=by kernel_rfl
 f125:=Tryz.func78.trans (congrArg some (by kernel_rfl))
 f128:=Tryz.func112.trans (congrArg some (by kernel_rfl))
 f129:=Tryz.func113.trans (congrArg some (by kernel_rfl))
 f189:=Tryz.func50.trans (congrArg some (by kernel_rfl))
 f215:=Tryz.func141.trans (congrArg some (by kernel_rfl))
 f216:=Tryz.func109.trans (congrArg some (by kernel_rfl))
 f257:=Tryz.func77.trans (congrArg some (by kernel_rfl))
 f294:=Tryz.func103.trans (congrArg some (by kernel_rfl))
 f295:=Tryz.func104.trans (congrArg some (by kernel_rfl))
 f296:=Tryz.func105.trans (congrArg some (by kernel_rfl))
 f297:=Tryz.func106.trans (congrArg some (by kernel_rfl))
 f298:=Tryz.func107.trans (congrArg some (by kernel_rfl))
 f299:=Tryz.func108.trans (congrArg some (by kernel_rfl))
 f300:=Tryz.func110.trans (congrArg some (by kernel_rfl))
 f301:=Tryz.func111.trans (congrArg some (by kernel_rfl))
 f328:=Tryz.func136.trans (congrArg some (by kernel_rfl))
 f329:=Tryz.func137.trans (congrArg some (by kernel_rfl))
 f330:=Tryz.func138.trans (congrArg some (by kernel_rfl))
 f331:=Tryz.func139.trans (congrArg some (by kernel_rfl))
 f332:=Tryz.func140.trans (congrArg some (by kernel_rfl))
 f343:=Tryz.func154.trans (congrArg some (by kernel_rfl))
 t0:=Tryz.underlying0
 a0:=Tryz.isAgg0
 z0:=Tryz.sizeOf0
 v0:=Tryz.zeroValue0
 t3:=Tryz.underlying3
 a3:=Tryz.isAgg3
 z3:=Tryz.sizeOf3
 v3:=Tryz.zeroValue3
 t4:=Tryz.underlying4
 a4:=Tryz.isAgg4
 z4:=Tryz.sizeOf4
 v4:=Tryz.zeroValue4
 t5:=Tryz.underlying5
 a5:=Tryz.isAgg5
 z5:=Tryz.sizeOf5
 v5:=Tryz.zeroValue5
 t9:=Tryz.underlying9
 a9:=Tryz.isAgg9
 z9:=Tryz.sizeOf9
 v9:=Tryz.zeroValue9
 t28:=Tryz.underlying23
 a28:=Tryz.isAgg23
 z28:=Tryz.sizeOf23
 v28:=Tryz.zeroValue23
 t46:=Tryz.underlying133
 a46:=Tryz.isAgg133
 z46:=Tryz.sizeOf133
 v46:=Tryz.zeroValue133
 t51:=Tryz.underlying158
 a51:=Tryz.isAgg158
 z51:=Tryz.sizeOf158
 v51:=Tryz.zeroValue158
 t53:=Tryz.underlying59
 a53:=Tryz.isAgg59
 z53:=Tryz.sizeOf59
 v53:=Tryz.zeroValue59
 t131:=Tryz.underlying146
 a131:=Tryz.isAgg146
 z131:=Tryz.sizeOf146
 v131:=Tryz.zeroValue146
 t182:=Tryz.underlying150
 a182:=Tryz.isAgg150
 z182:=Tryz.sizeOf150
 v182:=Tryz.zeroValue150
 t183:=Tryz.underlying151
 a183:=Tryz.isAgg151
 z183:=Tryz.sizeOf151
 v183:=Tryz.zeroValue151
 t218:=Tryz.underlying175
 a218:=Tryz.isAgg175
 z218:=Tryz.sizeOf175
 v218:=Tryz.zeroValue175
 t222:=Tryz.underlying179
 a222:=Tryz.isAgg179
 z222:=Tryz.sizeOf179
 v222:=Tryz.zeroValue179
 t228:=Tryz.underlying190
 a228:=Tryz.isAgg190
 z228:=Tryz.sizeOf190
 v228:=Tryz.zeroValue190
 t229:=Tryz.underlying191
 a229:=Tryz.isAgg191
 z229:=Tryz.sizeOf191
 v229:=Tryz.zeroValue191}
end Go.Proofs

