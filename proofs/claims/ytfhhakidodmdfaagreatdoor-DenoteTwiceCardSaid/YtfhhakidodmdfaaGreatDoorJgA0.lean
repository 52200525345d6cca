/- cP of this claim: A0. -/
import Derived.Test.YtfhhakidodmdfaaGreatDoorRows
import Derived.Test.YtfhhakidodmdfaaGreatDoorJgT
import Derived.Test.YtfhhakidodmdfaaGreatDoorJgV3
import Derived.ProofKit
import Derived.SevenTiedAt
set_option linter.all false
namespace Go.Proofs.YtfhhakidodmdfaaGreatDoor
open Go Go.ChangeShapes Go.WideShapes Go.ChangeAt Go.RowKit

theorem XX:ownKnob Tryz.prog.godebug=none:=by kernel_rfl
theorem Ul:laidOutB aQ=true:=by kernel_rfl
theorem B3{H:Type}(enc:TypeId×Value→H)(W:World):zd enc aQ W 3 (A9 (rI .i64) (wL .i64)):=Ei kY (by kernel_rfl)
theorem Wq{H:Type}(enc:TypeId×Value→H)(W:World):zd enc aQ W 39 (fV (A9 (rI .i64) (wL .i64))):=oD gT (by kernel_rfl) rfl (B3 enc W)
theorem Zy{H:Type}(enc:TypeId×Value→H)(W:World):zd enc aQ W 4 (A9 rB Zi):=Pz NP (by kernel_rfl)
theorem ach{H:Type}(enc:TypeId×Value→H)(W:World):zd enc aQ W 2 (A9 (rI .i64) (wL .i64)):=Ei AD (by kernel_rfl)
theorem Zw{H:Type}(enc:TypeId×Value→H)(W:World):zd enc aQ W 44 (A9 (rI .u64) (wL .u64)):=Ei AF (by kernel_rfl)
theorem acg{H:Type}(enc:TypeId×Value→H)(W:World):zd enc aQ W 9 (A9 rS inS):=QT CR (by kernel_rfl)
def vo(x:ac):Prop:=(wL .i64) x.Kind∧(wL .i64) x.N∧(wL .u64) x.U∧inS x.S
def tk:Rp ac:=qc (cO (A9 (rI .i64) (wL .i64)) (cO (A9 (rI .i64) (wL .i64)) (cO (A9 (rI .u64) (wL .u64)) (A9 rS inS)))) (fun x=>(x.Kind,x.N,x.U,x.S))
theorem G2:Jp tk af vo:=um (gW mH (gW mH (gW mH mH)))
theorem Wp{H:Type}(enc:TypeId×Value→H)(W:World):zd enc aQ W 46 tk:=nU (l:=[(3,0),(2,1),(44,2),(9,3)]) (by kernel_rfl) (by kernel_rfl) (fun y=>⟨⟨y.1,y.2.1,y.2.2.1,y.2.2.2⟩,rfl⟩) (fJ (B3 enc W) rfl (fJ (ach enc W) rfl (fJ (Zw enc W) rfl (rG (acg enc W)))))
def E0(x:bo):Prop:=(wL .i64) x.Tag∧(wL .i64) x.L∧(wL .i64) x.R∧(wL .i64) x.Col∧vo x.Value
def A5:Rp bo:=qc (cO (A9 (rI .i64) (wL .i64)) (cO (A9 (rI .i64) (wL .i64)) (cO (A9 (rI .i64) (wL .i64)) (cO (A9 (rI .i64) (wL .i64)) tk)))) (fun x=>(x.Tag,x.L,x.R,x.Col,x.Value))
theorem PI:Jp A5 bJ E0:=um (gW mH (gW mH (gW mH (gW mH G2))))
theorem Zo{H:Type}(enc:TypeId×Value→H)(W:World):zd enc aQ W 80 A5:=nU (l:=[(3,0),(3,1),(3,2),(3,3),(46,4)]) (by kernel_rfl) (by kernel_rfl) (fun y=>⟨⟨y.1,y.2.1,y.2.2.1,y.2.2.2.1,y.2.2.2.2⟩,rfl⟩) (fJ (B3 enc W) rfl (fJ (B3 enc W) rfl (fJ (B3 enc W) rfl (fJ (B3 enc W) rfl (rG (Wp enc W))))))
theorem Zv{H:Type}(enc:TypeId×Value→H)(W:World):zd enc aQ W 47 (fV A5):=oD vP (by kernel_rfl) rfl (Zo enc W)
def Bg(x:bG):Prop:=(Jm E0) x.Nodes
def yx:Rp bG:=qc (fV A5) (fun x=>(x.Nodes))
theorem EM:Jp yx cj Bg:=um (uQ PI)
theorem QV{H:Type}(enc:TypeId×Value→H)(W:World):zd enc aQ W 49 yx:=nU (l:=[(47,0)]) (by kernel_rfl) (by kernel_rfl) (fun y=>⟨⟨y⟩,rfl⟩) (rG (Zv enc W))
def Rs(x:gS):Prop:=(wL .i64) x.Tag∧Bg x.Arg
def Ie:Rp gS:=qc (cO (A9 (rI .i64) (wL .i64)) yx) (fun x=>(x.Tag,x.Arg))
theorem TW:Jp Ie fm Rs:=um (gW mH EM)
theorem Zu{H:Type}(enc:TypeId×Value→H)(W:World):zd enc aQ W 51 Ie:=nU (l:=[(3,0),(49,1)]) (by kernel_rfl) (by kernel_rfl) (fun y=>⟨⟨y.1,y.2⟩,rfl⟩) (fJ (B3 enc W) rfl (rG (QV enc W)))
theorem Zr{H:Type}(enc:TypeId×Value→H)(W:World):zd enc aQ W 68 (fV Ie):=oD wT (by kernel_rfl) rfl (Zu enc W)
theorem Zq{H:Type}(enc:TypeId×Value→H)(W:World):zd enc aQ W 69 (fV yx):=oD xf (by kernel_rfl) rfl (QV enc W)
def Rr(x:gG):Prop:=(wL .i64) x.Col∧Zi x.Desc
def Id:Rp gG:=qc (cO (A9 (rI .i64) (wL .i64)) (A9 rB Zi)) (fun x=>(x.Col,x.Desc))
theorem TV:Jp Id gI Rr:=um (gW mH mH)
theorem Zs{H:Type}(enc:TypeId×Value→H)(W:World):zd enc aQ W 60 Id:=nU (l:=[(3,0),(4,1)]) (by kernel_rfl) (by kernel_rfl) (fun y=>⟨⟨y.1,y.2⟩,rfl⟩) (fJ (B3 enc W) rfl (rG (Zy enc W)))
theorem Zt{H:Type}(enc:TypeId×Value→H)(W:World):zd enc aQ W 57 (fV Id):=oD DW (by kernel_rfl) rfl (Zs enc W)
def Bf(x:aj):Prop:=(wL .i64) x.Op∧(wL .i64) x.A∧(wL .i64) x.B∧(wL .i64) x.Table∧(Jm (wL .i64)) x.Kinds∧Zi x.Left∧Bg x.Cond∧(Jm (wL .i64)) x.Keys∧(Jm Rs) x.Aggs∧(Jm Bg) x.Items∧(Jm Rr) x.Order∧(wL .i64) x.Limit
def A4:Rp aj:=qc (cO (A9 (rI .i64) (wL .i64)) (cO (A9 (rI .i64) (wL .i64)) (cO (A9 (rI .i64) (wL .i64)) (cO (A9 (rI .i64) (wL .i64)) (cO (fV (A9 (rI .i64) (wL .i64))) (cO (A9 rB Zi) (cO yx (cO (fV (A9 (rI .i64) (wL .i64))) (cO (fV Ie) (cO (fV yx) (cO (fV Id) (A9 (rI .i64) (wL .i64))))))))))))) (fun x=>(x.Op,x.A,x.B,x.Table,x.Kinds,x.Left,x.Cond,x.Keys,x.Aggs,x.Items,x.Order,x.Limit))
theorem PH:Jp A4 aF Bf:=um (gW mH (gW mH (gW mH (gW mH (gW (uQ mH) (gW mH (gW EM (gW (uQ mH) (gW (uQ TW) (gW (uQ EM) (gW (uQ TV) mH)))))))))))
theorem Zp{H:Type}(enc:TypeId×Value→H)(W:World):zd enc aQ W 71 A4:=nU (l:=[(3,0),(3,1),(3,2),(3,3),(39,4),(4,5),(49,6),(39,7),(68,8),(69,9),(57,10),(3,11)]) (by kernel_rfl) (by kernel_rfl) (fun y=>⟨⟨y.1,y.2.1,y.2.2.1,y.2.2.2.1,y.2.2.2.2.1,y.2.2.2.2.2.1,y.2.2.2.2.2.2.1,y.2.2.2.2.2.2.2.1,y.2.2.2.2.2.2.2.2.1,y.2.2.2.2.2.2.2.2.2.1,y.2.2.2.2.2.2.2.2.2.2.1,y.2.2.2.2.2.2.2.2.2.2.2⟩,rfl⟩) (fJ (B3 enc W) rfl (fJ (B3 enc W) rfl (fJ (B3 enc W) rfl (fJ (B3 enc W) rfl (fJ (Wq enc W) rfl (fJ (Zy enc W) rfl (fJ (QV enc W) rfl (fJ (Wq enc W) rfl (fJ (Zr enc W) rfl (fJ (Zq enc W) rfl (fJ (Zt enc W) rfl (rG (B3 enc W)))))))))))))
theorem ZD{H:Type}(enc:TypeId×Value→H)(W:World):zd enc aQ W 22 (fV A4):=oD qE (by kernel_rfl) rfl (Zp enc W)
def EZ(x:bc):Prop:=(Jm Bf) x.Nodes
def JW:Rp bc:=qc (fV A4) (fun x=>(x.Nodes))
theorem PG:Jp JW bP EZ:=um (uQ PH)
theorem ZC{H:Type}(enc:TypeId×Value→H)(W:World):zd enc aQ W 24 JW:=nU (l:=[(22,0)]) (by kernel_rfl) (by kernel_rfl) (fun y=>⟨⟨y⟩,rfl⟩) (rG (ZD enc W))
theorem Zx{H:Type}(enc:TypeId×Value→H)(W:World):zd enc aQ W 43 (fV tk):=oD jh (by kernel_rfl) rfl (Wp enc W)
theorem Zz{H:Type}(enc:TypeId×Value→H)(W:World):zd enc aQ W 32 (fV (fV tk)):=oD jF (by kernel_rfl) rfl (Zx enc W)
theorem ZB{H:Type}(enc:TypeId×Value→H)(W:World):zd enc aQ W 25 (fV (fV (fV tk))):=oD oA (by kernel_rfl) rfl (Zz enc W)
def IA(x:dx):Prop:=(Jm (Jm (Jm vo))) x.Tables
def N2:Rp dx:=qc (fV (fV (fV tk))) (fun x=>(x.Tables))
theorem Re:Jp N2 iS IA:=um (uQ (uQ (uQ G2)))
theorem ZA{H:Type}(enc:TypeId×Value→H)(W:World):zd enc aQ W 27 N2:=nU (l:=[(25,0)]) (by kernel_rfl) (by kernel_rfl) (fun y=>⟨⟨y⟩,rfl⟩) (rG (ZB enc W))
theorem eX{a b:Bool}(h:a=true)(k:b=true):(a&&b)=true:=by rw [h,k];rfl
theorem yB:(laidOutB Tryz.pinned.checked.prog)=true∧(mapsRowed Tryz.pinned.checked.prog)=true∧((Tryz.pinned.checked.prog.stops==[]))=true∧((Tryz.pinned.checked.prog.stopKnobs==[]))=true∧(Tryz.pinned.checked.prog.stopsHeard)=true∧(Tryz.pinned.checked.prog.mayEnter)=true:=by
 have h:((laidOutB Tryz.pinned.checked.prog)&&((mapsRowed Tryz.pinned.checked.prog)&&(((Tryz.pinned.checked.prog.stops==[]))&&(((Tryz.pinned.checked.prog.stopKnobs==[]))&&((Tryz.pinned.checked.prog.stopsHeard)&&((Tryz.pinned.checked.prog.mayEnter)))))))=true:=by kernel_rfl
 simpa only [mi] using h
theorem TX:Tryz.pinned.checked.prog.mainIs=some (true,("85db28590683e9d5afa1430223a94669cccdc8a71b628dceb05087e847db95a3" :String).toList):=by kernel_rfl
theorem Ri:false=Tryz.pinned.checked.prog.looks []:=by kernel_rfl
def KG:List (String×DataW Unit):=[("bowsprit/value.truths",Rows.laid_bowsprit_value_truths)]
theorem acq:Tryz.prog.globalNamed "bowsprit/value.truths" =some 2:=by kernel_rfl
theorem aco:(Tryz.prog.globals[2]?).map (·.type)=some 344:=by kernel_rfl
set_option maxRecDepth 100000 in
theorem acp(W:World):Zd aQ W false 344 Rows.laid_bowsprit_value_truths [.int .i64 (1),.int .i64 (0),.int .u64 (0),.string ⟨([]:List UInt8).toArray⟩,.int .i64 (0),.int .i64 (0),.int .u64 (0),.string ⟨([]:List UInt8).toArray⟩,.int .i64 (1),.int .i64 (1),.int .u64 (0),.string ⟨([]:List UInt8).toArray⟩]:=TD Tryz.underlying344 (by kernel_rfl) (by rw [show Tryz.prog.cellsOf 46=4 from by kernel_rfl];exact(show FC _ _ _ 0 [(46,0),(46,4),(46,8)] _ _ from mS (zT (l:=[(3,0),(2,1),(44,2),(9,3)]) (by kernel_rfl) (by kernel_rfl) (mS (sl kY (by kernel_rfl)) rfl (mS (sl AD (by kernel_rfl)) rfl (mS (sl AF (by kernel_rfl)) rfl (mS (H1 CR (by kernel_rfl)) rfl (IQ)))))) rfl (mS (zT (l:=[(3,0),(2,1),(44,2),(9,3)]) (by kernel_rfl) (by kernel_rfl) (mS (sl kY (by kernel_rfl)) rfl (mS (sl AD (by kernel_rfl)) rfl (mS (sl AF (by kernel_rfl)) rfl (mS (H1 CR (by kernel_rfl)) rfl (IQ)))))) rfl (mS (zT (l:=[(3,0),(2,1),(44,2),(9,3)]) (by kernel_rfl) (by kernel_rfl) (mS (sl kY (by kernel_rfl)) rfl (mS (sl AD (by kernel_rfl)) rfl (mS (sl AF (by kernel_rfl)) rfl (mS (H1 CR (by kernel_rfl)) rfl (IQ)))))) rfl (IQ)))))
set_option maxRecDepth 100000 in
theorem Sv(os:Os)(args:Array Value):laidMetH aQ KG ((World.doorLaid aQ 400 os).forCall (fun _ _=>0) ⟨#[],args,[]⟩).memory:=
 laidMetH_of_parts3 (fuel:=8) (laidMet_of_run' 8 (by kernel_rfl) (by kernel_rfl)) (by kernel_rfl) (by kernel_rfl)
theorem Qa{W:World}(h:laidMetH aQ KG W): ∀p∈glob,∃c T fr,W.heap[p.1]? =some (.cells c T fr)∧c.toList.take p.2.length=p.2:=by
 rw [MakeChecks.laidMetH_plain _ _ _ (by kernel_rfl)]at h
 intro p hp
 simp only [glob,fk,GA,or_false]at hp
 rcases hp with rfl
 ·exact IH h (kO ..) acq aco (acp W)
end Go.Proofs.YtfhhakidodmdfaaGreatDoor

