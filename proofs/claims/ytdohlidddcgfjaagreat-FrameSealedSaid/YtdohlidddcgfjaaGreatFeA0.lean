/- bO of this claim: A0. -/
import Derived.Test.YtdohlidddcgfjaaGreatRows
import Derived.Test.YtdohlidddcgfjaaGreatFeT
import Derived.Test.YtdohlidddcgfjaaGreatFeV3
import Derived.SevenTiedAt
set_option linter.all false
namespace Go.Proofs.YtdohlidddcgfjaaGreat
open Go Go.ChangeShapes Go.WideShapes Go.ChangeAt Go.RowKit

def Uv:ownKnob Tryz.prog.godebug=none:=by kernel_rfl
def RU:laidOutB a8=true:=by kernel_rfl
def Zk{h2:Type}(enc:TypeId×Value->h2)(hb:World):TU enc a8 hb 5 (Y7 (rI .u8) (WH .u8)):=OW tw (by kernel_rfl)
def Wg{h2:Type}(enc:TypeId×Value->h2)(hb:World):TU enc a8 hb 37 (gE (Y7 (rI .u8) (WH .u8))):=MZ hM (by kernel_rfl) rfl (Zk enc hb)
def eX{a b:Bool}(h:a=true)(k:b=true):(a&&b)=true:=by rw [h,k];rfl
def w4:(laidOutB Tryz.pinned.checked.prog)=true/\(mapsRowed Tryz.pinned.checked.prog)=true/\((Tryz.pinned.checked.prog.stops==[]))=true/\((Tryz.pinned.checked.prog.stopKnobs==[]))=true/\(Tryz.pinned.checked.prog.stopsHeard)=true/\(Tryz.pinned.checked.prog.mayEnter)=true:=by
 have h:((laidOutB Tryz.pinned.checked.prog)&&((mapsRowed Tryz.pinned.checked.prog)&&(((Tryz.pinned.checked.prog.stops==[]))&&(((Tryz.pinned.checked.prog.stopKnobs==[]))&&((Tryz.pinned.checked.prog.stopsHeard)&&((Tryz.pinned.checked.prog.mayEnter)))))))=true:=by kernel_rfl
 simpa only [nP] using h
end Go.Proofs.YtdohlidddcgfjaaGreat

