/- di of this claim: A0. -/
import Derived.Test.YtfhhakidodmdfaaGreatDoorRows
import Derived.Test.YtfhhakidodmdfaaGreatDoorJcT
import Derived.Test.YtfhhakidodmdfaaGreatDoorJcV3
import Derived.Test.YtfhhakidodmdfaaGreatDoorJcV4
import Derived.ProofKit
import Derived.SevenTiedAt
set_option linter.all false
namespace Go.Proofs.YtfhhakidodmdfaaGreatDoor
open Go Go.ChangeShapes Go.WideShapes Go.ChangeAt Go.RowKit

theorem Yj:ownKnob Tryz.prog.godebug=none:=by kernel_rfl
theorem Ur:laidOutB aU=true:=by kernel_rfl
theorem PO{H:Type}(enc:TypeId×Value→H)(W:World):FY enc aU W 3 (LZ (rI .i64) (Gp .i64)):=Ek lj (by kernel_rfl)
theorem acI{H:Type}(enc:TypeId×Value→H)(W:World):FY enc aU W 2 (LZ (rI .i64) (Gp .i64)):=Ek vh (by kernel_rfl)
theorem ZL{H:Type}(enc:TypeId×Value→H)(W:World):FY enc aU W 44 (LZ (rI .u64) (Gp .u64)):=Ek uW (by kernel_rfl)
theorem acH{H:Type}(enc:TypeId×Value→H)(W:World):FY enc aU W 9 (LZ rS inS):=Rb v7 (by kernel_rfl)
def xX(x:ac):Prop:=(Gp .i64) x.Kind∧(Gp .i64) x.N∧(Gp .u64) x.U∧inS x.S
def xM:Rp ac:=sa (dI (LZ (rI .i64) (Gp .i64)) (dI (LZ (rI .i64) (Gp .i64)) (dI (LZ (rI .u64) (Gp .u64)) (LZ rS inS)))) (fun x=>(x.Kind,x.N,x.U,x.S))
theorem GX:NF xM af xX:=DG (rW wu (rW wu (rW wu wu)))
theorem WI{H:Type}(enc:TypeId×Value→H)(W:World):FY enc aU W 46 xM:=wh (l:=[(3,0),(2,1),(44,2),(9,3)]) (by kernel_rfl) (by kernel_rfl) (fun y=>⟨⟨y.1,y.2.1,y.2.2.1,y.2.2.2⟩,rfl⟩) (pU (PO enc W) rfl (pU (acI enc W) rfl (pU (ZL enc W) rfl (Bl (acH enc W)))))
def EU(x:bC):Prop:=(Gp .i64) x.Tag∧(Gp .i64) x.L∧(Gp .i64) x.R∧(Gp .i64) x.Col∧xX x.Value
def A3:Rp bC:=sa (dI (LZ (rI .i64) (Gp .i64)) (dI (LZ (rI .i64) (Gp .i64)) (dI (LZ (rI .i64) (Gp .i64)) (dI (LZ (rI .i64) (Gp .i64)) xM)))) (fun x=>(x.Tag,x.L,x.R,x.Col,x.Value))
theorem PX:NF A3 bO EU:=DG (rW wu (rW wu (rW wu (rW wu GX))))
theorem ZH{H:Type}(enc:TypeId×Value→H)(W:World):FY enc aU W 80 A3:=wh (l:=[(3,0),(3,1),(3,2),(3,3),(46,4)]) (by kernel_rfl) (by kernel_rfl) (fun y=>⟨⟨y.1,y.2.1,y.2.2.1,y.2.2.2.1,y.2.2.2.2⟩,rfl⟩) (pU (PO enc W) rfl (pU (PO enc W) rfl (pU (PO enc W) rfl (pU (PO enc W) rfl (Bl (WI enc W))))))
theorem ZK{H:Type}(enc:TypeId×Value→H)(W:World):FY enc aU W 47 (ik A3):=B5 p6 (by kernel_rfl) rfl (ZH enc W)
def Iw(x:bS):Prop:=(Yx EU) x.Nodes
def H7:Rp bS:=sa (ik A3) (fun x=>(x.Nodes))
theorem Ru:NF H7 ck Iw:=DG (MG PX)
theorem ZJ{H:Type}(enc:TypeId×Value→H)(W:World):FY enc aU W 49 H7:=wh (l:=[(47,0)]) (by kernel_rfl) (by kernel_rfl) (fun y=>⟨⟨y⟩,rfl⟩) (Bl (ZK enc W))
def RH(x:gv):Prop:=(Gp .i64) x.Tag∧Iw x.Arg
def Rq:Rp gv:=sa (dI (LZ (rI .i64) (Gp .i64)) H7) (fun x=>(x.Tag,x.Arg))
theorem Ua:NF Rq eH RH:=DG (rW wu Ru)
theorem ZI{H:Type}(enc:TypeId×Value→H)(W:World):FY enc aU W 51 Rq:=wh (l:=[(3,0),(49,1)]) (by kernel_rfl) (by kernel_rfl) (fun y=>⟨⟨y.1,y.2⟩,rfl⟩) (pU (PO enc W) rfl (Bl (ZJ enc W)))
theorem ZM{H:Type}(enc:TypeId×Value→H)(W:World):FY enc aU W 43 (ik xM):=B5 iw (by kernel_rfl) rfl (WI enc W)
theorem ZN{H:Type}(enc:TypeId×Value→H)(W:World):FY enc aU W 32 (ik (ik xM)):=B5 jN (by kernel_rfl) rfl (ZM enc W)
theorem fC{a b:Bool}(h:a=true)(k:b=true):(a&&b)=true:=by rw [h,k];rfl
theorem yJ:(laidOutB Tryz.pinned.checked.prog)=true∧(mapsRowed Tryz.pinned.checked.prog)=true∧((Tryz.pinned.checked.prog.stops==[]))=true∧((Tryz.pinned.checked.prog.stopKnobs==[]))=true∧(Tryz.pinned.checked.prog.stopsHeard)=true∧(Tryz.pinned.checked.prog.mayEnter)=true:=by
 have h:((laidOutB Tryz.pinned.checked.prog)&&((mapsRowed Tryz.pinned.checked.prog)&&(((Tryz.pinned.checked.prog.stops==[]))&&(((Tryz.pinned.checked.prog.stopKnobs==[]))&&((Tryz.pinned.checked.prog.stopsHeard)&&((Tryz.pinned.checked.prog.mayEnter)))))))=true:=by kernel_rfl
 simpa only [mz] using h
theorem Ub:Tryz.pinned.checked.prog.mainIs=some (true,("85db28590683e9d5afa1430223a94669cccdc8a71b628dceb05087e847db95a3" :String).toList):=by kernel_rfl
theorem Ry:false=Tryz.pinned.checked.prog.looks []:=by kernel_rfl
def KG:List (String×DataW Unit):=[("bowsprit/value.truths",Rows.laid_bowsprit_value_truths)]
theorem acR:Tryz.prog.globalNamed "bowsprit/value.truths" =some 2:=by kernel_rfl
theorem acP:(Tryz.prog.globals[2]?).map (·.type)=some 344:=by kernel_rfl
set_option maxRecDepth 100000 in
theorem acQ(W:World):Zw aU W false 344 Rows.laid_bowsprit_value_truths [.int .i64 (1),.int .i64 (0),.int .u64 (0),.string ⟨([]:List UInt8).toArray⟩,.int .i64 (0),.int .i64 (0),.int .u64 (0),.string ⟨([]:List UInt8).toArray⟩,.int .i64 (1),.int .i64 (1),.int .u64 (0),.string ⟨([]:List UInt8).toArray⟩]:=TU Tryz.underlying344 (by kernel_rfl) (by rw [show Tryz.prog.cellsOf 46=4 from by kernel_rfl];exact(show FC _ _ _ 0 [(46,0),(46,4),(46,8)] _ _ from mU (z8 (l:=[(3,0),(2,1),(44,2),(9,3)]) (by kernel_rfl) (by kernel_rfl) (mU (sP lj (by kernel_rfl)) rfl (mU (sP vh (by kernel_rfl)) rfl (mU (sP uW (by kernel_rfl)) rfl (mU (HW v7 (by kernel_rfl)) rfl (IN)))))) rfl (mU (z8 (l:=[(3,0),(2,1),(44,2),(9,3)]) (by kernel_rfl) (by kernel_rfl) (mU (sP lj (by kernel_rfl)) rfl (mU (sP vh (by kernel_rfl)) rfl (mU (sP uW (by kernel_rfl)) rfl (mU (HW v7 (by kernel_rfl)) rfl (IN)))))) rfl (mU (z8 (l:=[(3,0),(2,1),(44,2),(9,3)]) (by kernel_rfl) (by kernel_rfl) (mU (sP lj (by kernel_rfl)) rfl (mU (sP vh (by kernel_rfl)) rfl (mU (sP uW (by kernel_rfl)) rfl (mU (HW v7 (by kernel_rfl)) rfl (IN)))))) rfl (IN)))))
set_option maxRecDepth 100000 in
theorem SN(os:Os)(args:Array Value):laidMetH aU KG ((World.doorLaid aU 400 os).forCall (fun _ _=>0) ⟨#[],args,[]⟩).memory:=
 laidMetH_of_parts3 (fuel:=8) (laidMet_of_run' 8 (by kernel_rfl) (by kernel_rfl)) (by kernel_rfl) (by kernel_rfl)
theorem Qp{W:World}(h:laidMetH aU KG W): ∀p∈glob,∃c T fr,W.heap[p.1]? =some (.cells c T fr)∧c.toList.take p.2.length=p.2:=by
 rw [MakeChecks.laidMetH_plain _ _ _ (by kernel_rfl)]at h
 intro p hp
 simp only [glob,gk,Gz,or_false]at hp
 rcases hp with rfl
 ·exact IF h (lb ..) acR acP (acQ W)
end Go.Proofs.YtfhhakidodmdfaaGreatDoor

