/- da of this claim: A0. -/
import Derived.Test.YtfhhakidodmdfaaGreatDoorRows
import Derived.Test.YtfhhakidodmdfaaGreatDoorJdT
import Derived.Test.YtfhhakidodmdfaaGreatDoorJdV3
import Derived.ProofKit
import Derived.SevenTiedAt
set_option linter.all false
namespace Go.Proofs.YtfhhakidodmdfaaGreatDoor
open Go Go.ChangeShapes Go.WideShapes Go.ChangeAt Go.RowKit

theorem Xg:ownKnob Tryz.prog.godebug=none:=by kernel_rfl
theorem TJ:laidOutB aO=true:=by kernel_rfl
theorem WZ{H:Type}(enc:TypeId×Value→H)(W:World):Fn enc aO W 3 (LV (rI .i64) (Qe .i64)):=DI kM (by kernel_rfl)
theorem aby{H:Type}(enc:TypeId×Value→H)(W:World):Fn enc aO W 4 (LV rB inT):=O4 IR (by kernel_rfl)
theorem abz{H:Type}(enc:TypeId×Value→H)(W:World):Fn enc aO W 2 (LV (rI .i64) (Qe .i64)):=DI zZ (by kernel_rfl)
theorem YH{H:Type}(enc:TypeId×Value→H)(W:World):Fn enc aO W 44 (LV (rI .u64) (Qe .u64)):=DI Aa (by kernel_rfl)
theorem abx{H:Type}(enc:TypeId×Value→H)(W:World):Fn enc aO W 9 (LV rS inS):=Qs Ci (by kernel_rfl)
def QV(x:ac):Prop:=(Qe .i64) x.Kind∧(Qe .i64) x.N∧(Qe .u64) x.U∧inS x.S
def As:Rp ac:=sP (dZ (LV (rI .i64) (Qe .i64)) (dZ (LV (rI .i64) (Qe .i64)) (dZ (LV (rI .u64) (Qe .u64)) (LV rS inS)))) (fun x=>(x.Kind,x.N,x.U,x.S))
theorem Pd:Qf As af QV:=Nu (Av zr (Av zr (Av zr zr)))
theorem YG{H:Type}(enc:TypeId×Value→H)(W:World):Fn enc aO W 46 As:=DH (l:=[(3,0),(2,1),(44,2),(9,3)]) (by kernel_rfl) (by kernel_rfl) (fun y=>⟨⟨y.1,y.2.1,y.2.2.1,y.2.2.2⟩,rfl⟩) (xW (WZ enc W) rfl (xW (abz enc W) rfl (xW (YH enc W) rfl (Kg (abx enc W)))))
def Xl(x:dn):Prop:=(Qe .i64) x.Col∧inT x.Desc
def LO:Rp dn:=sP (dZ (LV (rI .i64) (Qe .i64)) (LV rB inT)) (fun x=>(x.Col,x.Desc))
theorem Tk:Qf LO d3 Xl:=Nu (Av zr zr)
theorem YE{H:Type}(enc:TypeId×Value→H)(W:World):Fn enc aO W 60 LO:=DH (l:=[(3,0),(4,1)]) (by kernel_rfl) (by kernel_rfl) (fun y=>⟨⟨y.1,y.2⟩,rfl⟩) (xW (WZ enc W) rfl (Kg (aby enc W)))
theorem YF{H:Type}(enc:TypeId×Value→H)(W:World):Fn enc aO W 57 (hM LO):=Bu uC (by kernel_rfl) rfl (YE enc W)
theorem YI{H:Type}(enc:TypeId×Value→H)(W:World):Fn enc aO W 43 (hM As):=Bu gc (by kernel_rfl) rfl (YG enc W)
theorem YJ{H:Type}(enc:TypeId×Value→H)(W:World):Fn enc aO W 32 (hM (hM As)):=Bu gR (by kernel_rfl) rfl (YI enc W)
theorem fd{a b:Bool}(h:a=true)(k:b=true):(a&&b)=true:=by rw [h,k];rfl
theorem xN:(laidOutB Tryz.pinned.checked.prog)=true∧(mapsRowed Tryz.pinned.checked.prog)=true∧((Tryz.pinned.checked.prog.stops==[]))=true∧((Tryz.pinned.checked.prog.stopKnobs==[]))=true∧(Tryz.pinned.checked.prog.stopsHeard)=true∧(Tryz.pinned.checked.prog.mayEnter)=true:=by
 have h:((laidOutB Tryz.pinned.checked.prog)&&((mapsRowed Tryz.pinned.checked.prog)&&(((Tryz.pinned.checked.prog.stops==[]))&&(((Tryz.pinned.checked.prog.stopKnobs==[]))&&((Tryz.pinned.checked.prog.stopsHeard)&&((Tryz.pinned.checked.prog.mayEnter)))))))=true:=by kernel_rfl
 simpa only [lr] using h
theorem Tl:Tryz.pinned.checked.prog.mainIs=some (true,("85db28590683e9d5afa1430223a94669cccdc8a71b628dceb05087e847db95a3" :String).toList):=by kernel_rfl
theorem QO:false=Tryz.pinned.checked.prog.looks []:=by kernel_rfl
def JN:List (String×DataW Unit):=[("bowsprit/value.truths",Rows.laid_bowsprit_value_truths)]
theorem abH:Tryz.prog.globalNamed "bowsprit/value.truths" =some 2:=by kernel_rfl
theorem abF:(Tryz.prog.globals[2]?).map (·.type)=some 344:=by kernel_rfl
set_option maxRecDepth 100000 in
theorem abG(W:World):Yt aO W false 344 Rows.laid_bowsprit_value_truths [.int .i64 (1),.int .i64 (0),.int .u64 (0),.string ⟨([]:List UInt8).toArray⟩,.int .i64 (0),.int .i64 (0),.int .u64 (0),.string ⟨([]:List UInt8).toArray⟩,.int .i64 (1),.int .i64 (1),.int .u64 (0),.string ⟨([]:List UInt8).toArray⟩]:=S8 Tryz.underlying344 (by kernel_rfl) (by rw [show Tryz.prog.cellsOf 46=4 from by kernel_rfl];exact(show FC _ _ _ 0 [(46,0),(46,4),(46,8)] _ _ from mu (zf (l:=[(3,0),(2,1),(44,2),(9,3)]) (by kernel_rfl) (by kernel_rfl) (mu (rG kM (by kernel_rfl)) rfl (mu (rG zZ (by kernel_rfl)) rfl (mu (rG Aa (by kernel_rfl)) rfl (mu (Hl Ci (by kernel_rfl)) rfl (H7)))))) rfl (mu (zf (l:=[(3,0),(2,1),(44,2),(9,3)]) (by kernel_rfl) (by kernel_rfl) (mu (rG kM (by kernel_rfl)) rfl (mu (rG zZ (by kernel_rfl)) rfl (mu (rG Aa (by kernel_rfl)) rfl (mu (Hl Ci (by kernel_rfl)) rfl (H7)))))) rfl (mu (zf (l:=[(3,0),(2,1),(44,2),(9,3)]) (by kernel_rfl) (by kernel_rfl) (mu (rG kM (by kernel_rfl)) rfl (mu (rG zZ (by kernel_rfl)) rfl (mu (rG Aa (by kernel_rfl)) rfl (mu (Hl Ci (by kernel_rfl)) rfl (H7)))))) rfl (H7)))))
set_option maxRecDepth 100000 in
theorem R2(os:Os)(args:Array Value):laidMetH aO JN ((World.doorLaid aO 400 os).forCall (fun _ _=>0) ⟨#[],args,[]⟩).memory:=
 laidMetH_of_parts3 (fuel:=8) (laidMet_of_run' 8 (by kernel_rfl) (by kernel_rfl)) (by kernel_rfl) (by kernel_rfl)
theorem Pv{W:World}(h:laidMetH aO JN W): ∀p∈glob,∃c T fr,W.heap[p.1]? =some (.cells c T fr)∧c.toList.take p.2.length=p.2:=by
 rw [MakeChecks.laidMetH_plain _ _ _ (by kernel_rfl)]at h
 intro p hp
 simp only [glob,fF,F2,or_false]at hp
 rcases hp with rfl
 ·exact H0 h (kE ..) abH abF (abG W)
end Go.Proofs.YtfhhakidodmdfaaGreatDoor

