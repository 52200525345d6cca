/- db of this claim: A0. -/
import Derived.Test.YtfhhakidodmdfaaGreatDoorRows
import Derived.Test.YtfhhakidodmdfaaGreatDoorJbT
import Derived.Test.YtfhhakidodmdfaaGreatDoorJbV3
import Derived.ProofKit
import Derived.SevenTiedAt
set_option linter.all false
namespace Go.Proofs.YtfhhakidodmdfaaGreatDoor
open Go Go.ChangeShapes Go.WideShapes Go.ChangeAt Go.RowKit

theorem Xy:ownKnob Tryz.prog.godebug=none:=by kernel_rfl
theorem TW:laidOutB aO=true:=by kernel_rfl
theorem BC{H:Type}(enc:TypeId×Value→H)(W:World):yJ enc aO W 3 (AD (rI .i64) (wm .i64)):=DX kW (by kernel_rfl)
theorem V3{H:Type}(enc:TypeId×Value→H)(W:World):yJ enc aO W 39 (fW (AD (rI .i64) (wm .i64))):=oa gM (by kernel_rfl) rfl (BC enc W)
theorem Y9{H:Type}(enc:TypeId×Value→H)(W:World):yJ enc aO W 4 (AD rB YR):=O8 No (by kernel_rfl)
theorem abY{H:Type}(enc:TypeId×Value→H)(W:World):yJ enc aO W 2 (AD (rI .i64) (wm .i64)):=DX Ae (by kernel_rfl)
theorem Y7{H:Type}(enc:TypeId×Value→H)(W:World):yJ enc aO W 44 (AD (rI .u64) (wm .u64)):=DX Ag (by kernel_rfl)
theorem abX{H:Type}(enc:TypeId×Value→H)(W:World):yJ enc aO W 9 (AD rS inS):=Qw Cr (by kernel_rfl)
def u0(x:ac):Prop:=(wm .i64) x.Kind∧(wm .i64) x.N∧(wm .u64) x.U∧inS x.S
def sR:Rp ac:=pT (cL (AD (rI .i64) (wm .i64)) (cL (AD (rI .i64) (wm .i64)) (cL (AD (rI .u64) (wm .u64)) (AD rS inS)))) (fun x=>(x.Kind,x.N,x.U,x.S))
theorem GB:IV sR af u0:=tQ (gZ mo (gZ mo (gZ mo mo)))
theorem V2{H:Type}(enc:TypeId×Value→H)(W:World):yJ enc aO W 46 sR:=nG (l:=[(3,0),(2,1),(44,2),(9,3)]) (by kernel_rfl) (by kernel_rfl) (fun y=>⟨⟨y.1,y.2.1,y.2.2.1,y.2.2.2⟩,rfl⟩) (fO (BC enc W) rfl (fO (abY enc W) rfl (fO (Y7 enc W) rfl (rl (abX enc W)))))
def ED(x:aX):Prop:=(wm .i64) x.Tag∧(wm .i64) x.L∧(wm .i64) x.R∧(wm .i64) x.Col∧u0 x.Value
def AA:Rp aX:=pT (cL (AD (rI .i64) (wm .i64)) (cL (AD (rI .i64) (wm .i64)) (cL (AD (rI .i64) (wm .i64)) (cL (AD (rI .i64) (wm .i64)) sR)))) (fun x=>(x.Tag,x.L,x.R,x.Col,x.Value))
theorem Ph:IV AA bG ED:=tQ (gZ mo (gZ mo (gZ mo (gZ mo GB))))
theorem YZ{H:Type}(enc:TypeId×Value→H)(W:World):yJ enc aO W 80 AA:=nG (l:=[(3,0),(3,1),(3,2),(3,3),(46,4)]) (by kernel_rfl) (by kernel_rfl) (fun y=>⟨⟨y.1,y.2.1,y.2.2.1,y.2.2.2.1,y.2.2.2.2⟩,rfl⟩) (fO (BC enc W) rfl (fO (BC enc W) rfl (fO (BC enc W) rfl (fO (BC enc W) rfl (rl (V2 enc W))))))
theorem Y6{H:Type}(enc:TypeId×Value→H)(W:World):yJ enc aO W 47 (fW AA):=oa uq (by kernel_rfl) rfl (YZ enc W)
def AK(x:br):Prop:=(IS ED) x.Nodes
def xO:Rp br:=pT (fW AA) (fun x=>(x.Nodes))
theorem El:IV xO bT AK:=tQ (uv Ph)
theorem Qy{H:Type}(enc:TypeId×Value→H)(W:World):yJ enc aO W 49 xO:=nG (l:=[(47,0)]) (by kernel_rfl) (by kernel_rfl) (fun y=>⟨⟨y⟩,rfl⟩) (rl (Y6 enc W))
def Q6(x:ea):Prop:=(wm .i64) x.Tag∧AK x.Arg
def HJ:Rp ea:=pT (cL (AD (rI .i64) (wm .i64)) xO) (fun x=>(x.Tag,x.Arg))
theorem Ts:IV HJ eg Q6:=tQ (gZ mo El)
theorem Y5{H:Type}(enc:TypeId×Value→H)(W:World):yJ enc aO W 51 HJ:=nG (l:=[(3,0),(49,1)]) (by kernel_rfl) (by kernel_rfl) (fun y=>⟨⟨y.1,y.2⟩,rfl⟩) (fO (BC enc W) rfl (rl (Qy enc W)))
theorem Y2{H:Type}(enc:TypeId×Value→H)(W:World):yJ enc aO W 68 (fW HJ):=oa uE (by kernel_rfl) rfl (Y5 enc W)
theorem Y1{H:Type}(enc:TypeId×Value→H)(W:World):yJ enc aO W 69 (fW xO):=oa vu (by kernel_rfl) rfl (Qy enc W)
def Q5(x:gL):Prop:=(wm .i64) x.Col∧YR x.Desc
def HI:Rp gL:=pT (cL (AD (rI .i64) (wm .i64)) (AD rB YR)) (fun x=>(x.Col,x.Desc))
theorem Tq:IV HI gG Q5:=tQ (gZ mo mo)
theorem Y3{H:Type}(enc:TypeId×Value→H)(W:World):yJ enc aO W 60 HI:=nG (l:=[(3,0),(4,1)]) (by kernel_rfl) (by kernel_rfl) (fun y=>⟨⟨y.1,y.2⟩,rfl⟩) (fO (BC enc W) rfl (rl (Y9 enc W)))
theorem Y4{H:Type}(enc:TypeId×Value→H)(W:World):yJ enc aO W 57 (fW HI):=oa Dy (by kernel_rfl) rfl (Y3 enc W)
def AJ(x:am):Prop:=(wm .i64) x.Op∧(wm .i64) x.A∧(wm .i64) x.B∧(wm .i64) x.Table∧(IS (wm .i64)) x.Kinds∧YR x.Left∧AK x.Cond∧(IS (wm .i64)) x.Keys∧(IS Q6) x.Aggs∧(IS AK) x.Items∧(IS Q5) x.Order∧(wm .i64) x.Limit
def Az:Rp am:=pT (cL (AD (rI .i64) (wm .i64)) (cL (AD (rI .i64) (wm .i64)) (cL (AD (rI .i64) (wm .i64)) (cL (AD (rI .i64) (wm .i64)) (cL (fW (AD (rI .i64) (wm .i64))) (cL (AD rB YR) (cL xO (cL (fW (AD (rI .i64) (wm .i64))) (cL (fW HJ) (cL (fW xO) (cL (fW HI) (AD (rI .i64) (wm .i64))))))))))))) (fun x=>(x.Op,x.A,x.B,x.Table,x.Kinds,x.Left,x.Cond,x.Keys,x.Aggs,x.Items,x.Order,x.Limit))
theorem Pg:IV Az aI AJ:=tQ (gZ mo (gZ mo (gZ mo (gZ mo (gZ (uv mo) (gZ mo (gZ El (gZ (uv mo) (gZ (uv Ts) (gZ (uv El) (gZ (uv Tq) mo)))))))))))
theorem Y0{H:Type}(enc:TypeId×Value→H)(W:World):yJ enc aO W 71 Az:=nG (l:=[(3,0),(3,1),(3,2),(3,3),(39,4),(4,5),(49,6),(39,7),(68,8),(69,9),(57,10),(3,11)]) (by kernel_rfl) (by kernel_rfl) (fun y=>⟨⟨y.1,y.2.1,y.2.2.1,y.2.2.2.1,y.2.2.2.2.1,y.2.2.2.2.2.1,y.2.2.2.2.2.2.1,y.2.2.2.2.2.2.2.1,y.2.2.2.2.2.2.2.2.1,y.2.2.2.2.2.2.2.2.2.1,y.2.2.2.2.2.2.2.2.2.2.1,y.2.2.2.2.2.2.2.2.2.2.2⟩,rfl⟩) (fO (BC enc W) rfl (fO (BC enc W) rfl (fO (BC enc W) rfl (fO (BC enc W) rfl (fO (V3 enc W) rfl (fO (Y9 enc W) rfl (fO (Qy enc W) rfl (fO (V3 enc W) rfl (fO (Y2 enc W) rfl (fO (Y1 enc W) rfl (fO (Y4 enc W) rfl (rl (BC enc W)))))))))))))
theorem Ze{H:Type}(enc:TypeId×Value→H)(W:World):yJ enc aO W 22 (fW Az):=oa uF (by kernel_rfl) rfl (Y0 enc W)
def EC(x:bN):Prop:=(IS AJ) x.Nodes
def Jw:Rp bN:=pT (fW Az) (fun x=>(x.Nodes))
theorem Pf:IV Jw cZ EC:=tQ (uv Pg)
theorem Zd{H:Type}(enc:TypeId×Value→H)(W:World):yJ enc aO W 24 Jw:=nG (l:=[(22,0)]) (by kernel_rfl) (by kernel_rfl) (fun y=>⟨⟨y⟩,rfl⟩) (rl (Ze enc W))
theorem Y8{H:Type}(enc:TypeId×Value→H)(W:World):yJ enc aO W 43 (fW sR):=oa iK (by kernel_rfl) rfl (V2 enc W)
theorem Za{H:Type}(enc:TypeId×Value→H)(W:World):yJ enc aO W 32 (fW (fW sR)):=oa jW (by kernel_rfl) rfl (Y8 enc W)
theorem Zc{H:Type}(enc:TypeId×Value→H)(W:World):yJ enc aO W 25 (fW (fW (fW sR))):=oa ot (by kernel_rfl) rfl (Za enc W)
def H6(x:eD):Prop:=(IS (IS (IS u0))) x.Tables
def Nz:Rp eD:=pT (fW (fW (fW sR))) (fun x=>(x.Tables))
theorem QP:IV Nz kG H6:=tQ (uv (uv (uv GB)))
theorem Zb{H:Type}(enc:TypeId×Value→H)(W:World):yJ enc aO W 27 Nz:=nG (l:=[(25,0)]) (by kernel_rfl) (by kernel_rfl) (fun y=>⟨⟨y⟩,rfl⟩) (rl (Zc enc W))
theorem fa{a b:Bool}(h:a=true)(k:b=true):(a&&b)=true:=by rw [h,k];rfl
theorem xS:(laidOutB Tryz.pinned.checked.prog)=true∧(mapsRowed Tryz.pinned.checked.prog)=true∧((Tryz.pinned.checked.prog.stops==[]))=true∧((Tryz.pinned.checked.prog.stopKnobs==[]))=true∧(Tryz.pinned.checked.prog.stopsHeard)=true∧(Tryz.pinned.checked.prog.mayEnter)=true:=by
 have h:((laidOutB Tryz.pinned.checked.prog)&&((mapsRowed Tryz.pinned.checked.prog)&&(((Tryz.pinned.checked.prog.stops==[]))&&(((Tryz.pinned.checked.prog.stopKnobs==[]))&&((Tryz.pinned.checked.prog.stopsHeard)&&((Tryz.pinned.checked.prog.mayEnter)))))))=true:=by kernel_rfl
 simpa only [kN] using h
theorem Tt:Tryz.pinned.checked.prog.mainIs=some (true,("85db28590683e9d5afa1430223a94669cccdc8a71b628dceb05087e847db95a3" :String).toList):=by kernel_rfl
theorem QT:false=Tryz.pinned.checked.prog.looks []:=by kernel_rfl
def Ke:List (String×DataW Unit):=[("bowsprit/value.truths",Rows.laid_bowsprit_value_truths)]
theorem ab6:Tryz.prog.globalNamed "bowsprit/value.truths" =some 2:=by kernel_rfl
theorem ab4:(Tryz.prog.globals[2]?).map (·.type)=some 344:=by kernel_rfl
set_option maxRecDepth 100000 in
theorem ab5(W:World):YM aO W false 344 Rows.laid_bowsprit_value_truths [.int .i64 (1),.int .i64 (0),.int .u64 (0),.string ⟨([]:List UInt8).toArray⟩,.int .i64 (0),.int .i64 (0),.int .u64 (0),.string ⟨([]:List UInt8).toArray⟩,.int .i64 (1),.int .i64 (1),.int .u64 (0),.string ⟨([]:List UInt8).toArray⟩]:=Tb Tryz.underlying344 (by kernel_rfl) (by rw [show Tryz.prog.cellsOf 46=4 from by kernel_rfl];exact(show FC _ _ _ 0 [(46,0),(46,4),(46,8)] _ _ from mD (zk (l:=[(3,0),(2,1),(44,2),(9,3)]) (by kernel_rfl) (by kernel_rfl) (mD (rU kW (by kernel_rfl)) rfl (mD (rU Ae (by kernel_rfl)) rfl (mD (rU Ag (by kernel_rfl)) rfl (mD (Hx Cr (by kernel_rfl)) rfl (Il)))))) rfl (mD (zk (l:=[(3,0),(2,1),(44,2),(9,3)]) (by kernel_rfl) (by kernel_rfl) (mD (rU kW (by kernel_rfl)) rfl (mD (rU Ae (by kernel_rfl)) rfl (mD (rU Ag (by kernel_rfl)) rfl (mD (Hx Cr (by kernel_rfl)) rfl (Il)))))) rfl (mD (zk (l:=[(3,0),(2,1),(44,2),(9,3)]) (by kernel_rfl) (by kernel_rfl) (mD (rU kW (by kernel_rfl)) rfl (mD (rU Ae (by kernel_rfl)) rfl (mD (rU Ag (by kernel_rfl)) rfl (mD (Hx Cr (by kernel_rfl)) rfl (Il)))))) rfl (Il)))))
set_option maxRecDepth 100000 in
theorem Sa(os:Os)(args:Array Value):laidMetH aO Ke ((World.doorLaid aO 400 os).forCall (fun _ _=>0) ⟨#[],args,[]⟩).memory:=
 laidMetH_of_parts3 (fuel:=8) (laidMet_of_run' 8 (by kernel_rfl) (by kernel_rfl)) (by kernel_rfl) (by kernel_rfl)
theorem Pz{W:World}(h:laidMetH aO Ke W): ∀p∈glob,∃c T fr,W.heap[p.1]? =some (.cells c T fr)∧c.toList.take p.2.length=p.2:=by
 rw [MakeChecks.laidMetH_plain _ _ _ (by kernel_rfl)]at h
 intro p hp
 simp only [glob,fc,Gd,or_false]at hp
 rcases hp with rfl
 ·exact Id h (kJ ..) ab6 ab4 (ab5 W)
end Go.Proofs.YtfhhakidodmdfaaGreatDoor

