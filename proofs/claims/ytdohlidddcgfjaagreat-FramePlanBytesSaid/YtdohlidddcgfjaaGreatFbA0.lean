/- bR of this claim: A0. -/
import Derived.Test.YtdohlidddcgfjaaGreatRows
import Derived.Test.YtdohlidddcgfjaaGreatFbT
import Derived.Test.YtdohlidddcgfjaaGreatFbV3
import Derived.SevenTiedAt
set_option linter.all false
namespace Go.Proofs.YtdohlidddcgfjaaGreat
open Go Go.ChangeShapes Go.WideShapes Go.ChangeAt Go.RowKit

def Rf:ownKnob Tryz.prog.godebug=none:=by kernel_rfl
def ON:laidOutB aV=true:=by kernel_rfl
def V2{h2:Type}(enc:TypeId×Value->h2)(hb:World):QF enc aV hb 5 (VV (rI .u8) (TJ .u8)):=Ma sD (by kernel_rfl)
def Tb{h2:Type}(enc:TypeId×Value->h2)(hb:World):QF enc aV hb 37 (gr (VV (rI .u8) (TJ .u8))):=Kq gZ (by kernel_rfl) rfl (V2 enc hb)
def em{a b:Bool}(h:a=true)(k:b=true):(a&&b)=true:=by rw [h,k];rfl
def vE:(laidOutB Tryz.pinned.checked.prog)=true/\(mapsRowed Tryz.pinned.checked.prog)=true/\((Tryz.pinned.checked.prog.stops==[]))=true/\((Tryz.pinned.checked.prog.stopKnobs==[]))=true/\(Tryz.pinned.checked.prog.stopsHeard)=true/\(Tryz.pinned.checked.prog.mayEnter)=true:=by
 have h:((laidOutB Tryz.pinned.checked.prog)&&((mapsRowed Tryz.pinned.checked.prog)&&(((Tryz.pinned.checked.prog.stops==[]))&&(((Tryz.pinned.checked.prog.stopKnobs==[]))&&((Tryz.pinned.checked.prog.stopsHeard)&&((Tryz.pinned.checked.prog.mayEnter)))))))=true:=by kernel_rfl
 simpa only [iO] using h
end Go.Proofs.YtdohlidddcgfjaaGreat

