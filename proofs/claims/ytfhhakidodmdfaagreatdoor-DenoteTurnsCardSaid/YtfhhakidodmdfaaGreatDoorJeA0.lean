/- cT of this claim: A0. -/
import Derived.Test.YtfhhakidodmdfaaGreatDoorRows
import Derived.Test.YtfhhakidodmdfaaGreatDoorJeT
import Derived.Test.YtfhhakidodmdfaaGreatDoorJeV3
import Derived.ProofKit
import Derived.SevenTiedAt
set_option linter.all false
namespace Go.Proofs.YtfhhakidodmdfaaGreatDoor
open Go Go.ChangeShapes Go.WideShapes Go.ChangeAt Go.RowKit

theorem Xs:ownKnob Tryz.prog.godebug=none:=by kernel_rfl
theorem TU:laidOutB aR=true:=by kernel_rfl
theorem Ao{H:Type}(enc:TypeId×Value→H)(W:World):xG enc aR W 3 (AC (rI .i64) (wm .i64)):=DX kC (by kernel_rfl)
theorem VZ{H:Type}(enc:TypeId×Value→H)(W:World):xG enc aR W 39 (fH (AC (rI .i64) (wm .i64))):=oh gF (by kernel_rfl) rfl (Ao enc W)
theorem Y6{H:Type}(enc:TypeId×Value→H)(W:World):xG enc aR W 4 (AC rB YO):=Pf Nu (by kernel_rfl)
theorem abP{H:Type}(enc:TypeId×Value→H)(W:World):xG enc aR W 2 (AC (rI .i64) (wm .i64)):=DX Ab (by kernel_rfl)
theorem Y4{H:Type}(enc:TypeId×Value→H)(W:World):xG enc aR W 44 (AC (rI .u64) (wm .u64)):=DX Ad (by kernel_rfl)
theorem abO{H:Type}(enc:TypeId×Value→H)(W:World):xG enc aR W 9 (AC rS inS):=QD Cr (by kernel_rfl)
def u6(x:ac):Prop:=(wm .i64) x.Kind∧(wm .i64) x.N∧(wm .u64) x.U∧inS x.S
def sQ:Rp ac:=px (cQ (AC (rI .i64) (wm .i64)) (cQ (AC (rI .i64) (wm .i64)) (cQ (AC (rI .u64) (wm .u64)) (AC rS inS)))) (fun x=>(x.Kind,x.N,x.U,x.S))
theorem GF:IR sQ af u6:=tR (gO lH (gO lH (gO lH lH)))
theorem VY{H:Type}(enc:TypeId×Value→H)(W:World):xG enc aR W 46 sQ:=nH (l:=[(3,0),(2,1),(44,2),(9,3)]) (by kernel_rfl) (by kernel_rfl) (fun y=>⟨⟨y.1,y.2.1,y.2.2.1,y.2.2.2⟩,rfl⟩) (fI (Ao enc W) rfl (fI (abP enc W) rfl (fI (Y4 enc W) rfl (re (abO enc W)))))
def EF(x:bm):Prop:=(wm .i64) x.Tag∧(wm .i64) x.L∧(wm .i64) x.R∧(wm .i64) x.Col∧u6 x.Value
def Az:Rp bm:=px (cQ (AC (rI .i64) (wm .i64)) (cQ (AC (rI .i64) (wm .i64)) (cQ (AC (rI .i64) (wm .i64)) (cQ (AC (rI .i64) (wm .i64)) sQ)))) (fun x=>(x.Tag,x.L,x.R,x.Col,x.Value))
theorem Pp:IR Az bN EF:=tR (gO lH (gO lH (gO lH (gO lH GF))))
theorem YW{H:Type}(enc:TypeId×Value→H)(W:World):xG enc aR W 80 Az:=nH (l:=[(3,0),(3,1),(3,2),(3,3),(46,4)]) (by kernel_rfl) (by kernel_rfl) (fun y=>⟨⟨y.1,y.2.1,y.2.2.1,y.2.2.2.1,y.2.2.2.2⟩,rfl⟩) (fI (Ao enc W) rfl (fI (Ao enc W) rfl (fI (Ao enc W) rfl (fI (Ao enc W) rfl (re (VY enc W))))))
theorem Y3{H:Type}(enc:TypeId×Value→H)(W:World):xG enc aR W 47 (fH Az):=oh wy (by kernel_rfl) rfl (YW enc W)
def AJ(x:bK):Prop:=(IX EF) x.Nodes
def xX:Rp bK:=px (fH Az) (fun x=>(x.Nodes))
theorem Em:IR xX cm AJ:=tR (uu Pp)
theorem QF{H:Type}(enc:TypeId×Value→H)(W:World):xG enc aR W 49 xX:=nH (l:=[(47,0)]) (by kernel_rfl) (by kernel_rfl) (fun y=>⟨⟨y⟩,rfl⟩) (re (Y3 enc W))
def Rb(x:gM):Prop:=(wm .i64) x.Tag∧AJ x.Arg
def HR:Rp gM:=px (cQ (AC (rI .i64) (wm .i64)) xX) (fun x=>(x.Tag,x.Arg))
theorem Tt:IR HR fi Rb:=tR (gO lH Em)
theorem Y2{H:Type}(enc:TypeId×Value→H)(W:World):xG enc aR W 51 HR:=nH (l:=[(3,0),(49,1)]) (by kernel_rfl) (by kernel_rfl) (fun y=>⟨⟨y.1,y.2⟩,rfl⟩) (fI (Ao enc W) rfl (re (QF enc W)))
theorem YZ{H:Type}(enc:TypeId×Value→H)(W:World):xG enc aR W 68 (fH HR):=oh wx (by kernel_rfl) rfl (Y2 enc W)
theorem YY{H:Type}(enc:TypeId×Value→H)(W:World):xG enc aR W 69 (fH xX):=oh wJ (by kernel_rfl) rfl (QF enc W)
def Ra(x:gE):Prop:=(wm .i64) x.Col∧YO x.Desc
def HQ:Rp gE:=px (cQ (AC (rI .i64) (wm .i64)) (AC rB YO)) (fun x=>(x.Col,x.Desc))
theorem Ts:IR HQ gA Ra:=tR (gO lH lH)
theorem Y0{H:Type}(enc:TypeId×Value→H)(W:World):xG enc aR W 60 HQ:=nH (l:=[(3,0),(4,1)]) (by kernel_rfl) (by kernel_rfl) (fun y=>⟨⟨y.1,y.2⟩,rfl⟩) (fI (Ao enc W) rfl (re (Y6 enc W)))
theorem Y1{H:Type}(enc:TypeId×Value→H)(W:World):xG enc aR W 57 (fH HQ):=oh Dz (by kernel_rfl) rfl (Y0 enc W)
def AI(x:ak):Prop:=(wm .i64) x.Op∧(wm .i64) x.A∧(wm .i64) x.B∧(wm .i64) x.Table∧(IX (wm .i64)) x.Kinds∧YO x.Left∧AJ x.Cond∧(IX (wm .i64)) x.Keys∧(IX Rb) x.Aggs∧(IX AJ) x.Items∧(IX Ra) x.Order∧(wm .i64) x.Limit
def Ay:Rp ak:=px (cQ (AC (rI .i64) (wm .i64)) (cQ (AC (rI .i64) (wm .i64)) (cQ (AC (rI .i64) (wm .i64)) (cQ (AC (rI .i64) (wm .i64)) (cQ (fH (AC (rI .i64) (wm .i64))) (cQ (AC rB YO) (cQ xX (cQ (fH (AC (rI .i64) (wm .i64))) (cQ (fH HR) (cQ (fH xX) (cQ (fH HQ) (AC (rI .i64) (wm .i64))))))))))))) (fun x=>(x.Op,x.A,x.B,x.Table,x.Kinds,x.Left,x.Cond,x.Keys,x.Aggs,x.Items,x.Order,x.Limit))
theorem Po:IR Ay aI AI:=tR (gO lH (gO lH (gO lH (gO lH (gO (uu lH) (gO lH (gO Em (gO (uu lH) (gO (uu Tt) (gO (uu Em) (gO (uu Ts) lH)))))))))))
theorem YX{H:Type}(enc:TypeId×Value→H)(W:World):xG enc aR W 71 Ay:=nH (l:=[(3,0),(3,1),(3,2),(3,3),(39,4),(4,5),(49,6),(39,7),(68,8),(69,9),(57,10),(3,11)]) (by kernel_rfl) (by kernel_rfl) (fun y=>⟨⟨y.1,y.2.1,y.2.2.1,y.2.2.2.1,y.2.2.2.2.1,y.2.2.2.2.2.1,y.2.2.2.2.2.2.1,y.2.2.2.2.2.2.2.1,y.2.2.2.2.2.2.2.2.1,y.2.2.2.2.2.2.2.2.2.1,y.2.2.2.2.2.2.2.2.2.2.1,y.2.2.2.2.2.2.2.2.2.2.2⟩,rfl⟩) (fI (Ao enc W) rfl (fI (Ao enc W) rfl (fI (Ao enc W) rfl (fI (Ao enc W) rfl (fI (VZ enc W) rfl (fI (Y6 enc W) rfl (fI (QF enc W) rfl (fI (VZ enc W) rfl (fI (YZ enc W) rfl (fI (YY enc W) rfl (fI (Y1 enc W) rfl (re (Ao enc W)))))))))))))
theorem Zb{H:Type}(enc:TypeId×Value→H)(W:World):xG enc aR W 22 (fH Ay):=oh uF (by kernel_rfl) rfl (YX enc W)
def EE(x:bE):Prop:=(IX AI) x.Nodes
def JH:Rp bE:=px (fH Ay) (fun x=>(x.Nodes))
theorem Pn:IR JH cD EE:=tR (uu Po)
theorem Za{H:Type}(enc:TypeId×Value→H)(W:World):xG enc aR W 24 JH:=nH (l:=[(22,0)]) (by kernel_rfl) (by kernel_rfl) (fun y=>⟨⟨y⟩,rfl⟩) (re (Zb enc W))
theorem Y5{H:Type}(enc:TypeId×Value→H)(W:World):xG enc aR W 43 (fH sQ):=oh iX (by kernel_rfl) rfl (VY enc W)
theorem Y7{H:Type}(enc:TypeId×Value→H)(W:World):xG enc aR W 32 (fH (fH sQ)):=oh ja (by kernel_rfl) rfl (Y5 enc W)
theorem Y9{H:Type}(enc:TypeId×Value→H)(W:World):xG enc aR W 25 (fH (fH (fH sQ))):=oh mj (by kernel_rfl) rfl (Y7 enc W)
def Id(x:cB):Prop:=(IX (IX (IX u6))) x.Tables
def NJ:Rp cB:=px (fH (fH (fH sQ))) (fun x=>(x.Tables))
theorem QV:IR NJ i6 Id:=tR (uu (uu (uu GF)))
theorem Y8{H:Type}(enc:TypeId×Value→H)(W:World):xG enc aR W 27 NJ:=nH (l:=[(25,0)]) (by kernel_rfl) (by kernel_rfl) (fun y=>⟨⟨y⟩,rfl⟩) (re (Y9 enc W))
theorem eU{a b:Bool}(h:a=true)(k:b=true):(a&&b)=true:=by rw [h,k];rfl
theorem yb:(laidOutB Tryz.pinned.checked.prog)=true∧(mapsRowed Tryz.pinned.checked.prog)=true∧((Tryz.pinned.checked.prog.stops==[]))=true∧((Tryz.pinned.checked.prog.stopKnobs==[]))=true∧(Tryz.pinned.checked.prog.stopsHeard)=true∧(Tryz.pinned.checked.prog.mayEnter)=true:=by
 have h:((laidOutB Tryz.pinned.checked.prog)&&((mapsRowed Tryz.pinned.checked.prog)&&(((Tryz.pinned.checked.prog.stops==[]))&&(((Tryz.pinned.checked.prog.stopKnobs==[]))&&((Tryz.pinned.checked.prog.stopsHeard)&&((Tryz.pinned.checked.prog.mayEnter)))))))=true:=by kernel_rfl
 simpa only [lX] using h
theorem Tv:Tryz.pinned.checked.prog.mainIs=some (true,("85db28590683e9d5afa1430223a94669cccdc8a71b628dceb05087e847db95a3" :String).toList):=by kernel_rfl
theorem QZ:false=Tryz.pinned.checked.prog.looks []:=by kernel_rfl
def Kp:List (String×DataW Unit):=[("bowsprit/value.truths",Rows.laid_bowsprit_value_truths)]
theorem abX:Tryz.prog.globalNamed "bowsprit/value.truths" =some 2:=by kernel_rfl
theorem abV:(Tryz.prog.globals[2]?).map (·.type)=some 344:=by kernel_rfl
set_option maxRecDepth 100000 in
theorem abW(W:World):YJ aR W false 344 Rows.laid_bowsprit_value_truths [.int .i64 (1),.int .i64 (0),.int .u64 (0),.string ⟨([]:List UInt8).toArray⟩,.int .i64 (0),.int .i64 (0),.int .u64 (0),.string ⟨([]:List UInt8).toArray⟩,.int .i64 (1),.int .i64 (1),.int .u64 (0),.string ⟨([]:List UInt8).toArray⟩]:=Tb Tryz.underlying344 (by kernel_rfl) (by rw [show Tryz.prog.cellsOf 46=4 from by kernel_rfl];exact(show FC _ _ _ 0 [(46,0),(46,4),(46,8)] _ _ from mE (zq (l:=[(3,0),(2,1),(44,2),(9,3)]) (by kernel_rfl) (by kernel_rfl) (mE (rL kC (by kernel_rfl)) rfl (mE (rL Ab (by kernel_rfl)) rfl (mE (rL Ad (by kernel_rfl)) rfl (mE (HE Cr (by kernel_rfl)) rfl (Iu)))))) rfl (mE (zq (l:=[(3,0),(2,1),(44,2),(9,3)]) (by kernel_rfl) (by kernel_rfl) (mE (rL kC (by kernel_rfl)) rfl (mE (rL Ab (by kernel_rfl)) rfl (mE (rL Ad (by kernel_rfl)) rfl (mE (HE Cr (by kernel_rfl)) rfl (Iu)))))) rfl (mE (zq (l:=[(3,0),(2,1),(44,2),(9,3)]) (by kernel_rfl) (by kernel_rfl) (mE (rL kC (by kernel_rfl)) rfl (mE (rL Ab (by kernel_rfl)) rfl (mE (rL Ad (by kernel_rfl)) rfl (mE (HE Cr (by kernel_rfl)) rfl (Iu)))))) rfl (Iu)))))
set_option maxRecDepth 100000 in
theorem R8(os:Os)(args:Array Value):laidMetH aR Kp ((World.doorLaid aR 400 os).forCall (fun _ _=>0) ⟨#[],args,[]⟩).memory:=
 laidMetH_of_parts3 (fuel:=8) (laidMet_of_run' 8 (by kernel_rfl) (by kernel_rfl)) (by kernel_rfl) (by kernel_rfl)
theorem PF{W:World}(h:laidMetH aR Kp W): ∀p∈glob,∃c T fr,W.heap[p.1]? =some (.cells c T fr)∧c.toList.take p.2.length=p.2:=by
 rw [MakeChecks.laidMetH_plain _ _ _ (by kernel_rfl)]at h
 intro p hp
 simp only [glob,fh,Gg,or_false]at hp
 rcases hp with rfl
 ·exact Ik h (kE ..) abX abV (abW W)
end Go.Proofs.YtfhhakidodmdfaaGreatDoor

