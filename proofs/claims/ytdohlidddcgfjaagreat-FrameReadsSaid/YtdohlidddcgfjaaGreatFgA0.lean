import Derived.Test.YtdohlidddcgfjaaGreatRows
import Derived.Test.YtdohlidddcgfjaaGreatFgT
import Derived.Test.YtdohlidddcgfjaaGreatFgV3
import Derived.SevenTiedAt
set_option linter.all false
namespace Go.Proofs.YtdohlidddcgfjaaGreat
open Go Go.ChangeShapes Go.WideShapes Go.ChangeAt Go.RowKit
def abj:ownKnob Tryz.prog.godebug=none:=by kernel_rfl
def Ys:laidOutB bt=true:=by kernel_rfl
def afH{h1:Type}(enc:TypeId×Value->h1)(h2:World):ToR enc bt h2 5 (rOk (rI .u8) (inK .u8)):=Vj ln (by kernel_rfl)
def ac9{h1:Type}(enc:TypeId×Value->h1)(h2:World):ToR enc bt h2 37 (gE (rOk (rI .u8) (inK .u8))):=S7 gV (by kernel_rfl) rfl (afH enc h2)
def hE{a b:Bool}(h:a=true)(k:b=true):(a&&b)=true:=by rw [h,k];rfl
def BM:(laidOutB Tryz.pinned.checked.prog)=true/\(mapsRowed Tryz.pinned.checked.prog)=true/\((Tryz.pinned.checked.prog.stops==[]))=true/\((Tryz.pinned.checked.prog.stopKnobs==[]))=true/\(Tryz.pinned.checked.prog.stopsHeard)=true/\(Tryz.pinned.checked.prog.mayEnter)=true:=by
 have h:((laidOutB Tryz.pinned.checked.prog)&&((mapsRowed Tryz.pinned.checked.prog)&&(((Tryz.pinned.checked.prog.stops==[]))&&(((Tryz.pinned.checked.prog.stopKnobs==[]))&&((Tryz.pinned.checked.prog.stopsHeard)&&((Tryz.pinned.checked.prog.mayEnter)))))))=true:=by kernel_rfl
 simpa only [nw] using h
