/- eJ of this claim: A0. -/
import Derived.Test.YtpgjgkdpeagjbaaGreatDoorRows
import Derived.Test.YtpgjgkdpeagjbaaGreatDoorJaT
import Derived.Test.YtpgjgkdpeagjbaaGreatDoorJaV3
import Derived.ProofKit
import Derived.SevenTiedAt
set_option linter.all false
namespace Go.Proofs.YtpgjgkdpeagjbaaGreatDoor
open Go Go.ChangeShapes Go.WideShapes Go.ChangeAt Go.RowKit

def abt:ownKnob Tryz.prog.godebug=none:=by kernel_rfl
def XP:laidOutB aU=true:=by kernel_rfl
def EK{hg:Type}(enc:TypeId×Value->hg)(W:World):BW enc aU W 3 (DH (rI .i64) (zJ .i64)):=G9 mK (by kernel_rfl)
def Z6{hg:Type}(enc:TypeId×Value->hg)(W:World):BW enc aU W 39 (f9 (DH (rI .i64) (zJ .i64))):=qF fz (by kernel_rfl) rfl (EK enc W)
def adc{hg:Type}(enc:TypeId×Value->hg)(W:World):BW enc aU W 4 (DH rB inT):=Tl Do (by kernel_rfl)
def afY{hg:Type}(enc:TypeId×Value->hg)(W:World):BW enc aU W 2 (DH (rI .i64) (zJ .i64)):=G9 xO (by kernel_rfl)
def ac4{hg:Type}(enc:TypeId×Value->hg)(W:World):BW enc aU W 55 (DH (rI .u64) (zJ .u64)):=G9 xv (by kernel_rfl)
def afX{hg:Type}(enc:TypeId×Value->hg)(W:World):BW enc aU W 9 (DH rS inS):=UL yJ (by kernel_rfl)
def yj(x:ac):Prop:=(zJ .i64) x.Kind/\(zJ .i64) x.N/\(zJ .u64) x.U/\inS x.S
def wk:Rp ac:=rW (dP (DH (rI .i64) (zJ .i64)) (dP (DH (rI .i64) (zJ .i64)) (dP (DH (rI .u64) (zJ .u64)) (DH rS inS)))) (fun x=>(x.Kind,x.N,x.U,x.S))
def Kf:Na wk ae yj:=wZ (jw oH (jw oH (jw oH oH)))
def Z5{hg:Type}(enc:TypeId×Value->hg)(W:World):BW enc aU W 57 wk:=qi (l:=[(3,0),(2,1),(55,2),(9,3)]) (by kernel_rfl) (by kernel_rfl) (fun y=>⟨⟨y.1,y.2.1,y.2.2.1,y.2.2.2⟩,rfl⟩) (ip (EK enc W) rfl (ip (afY enc W) rfl (ip (ac4 enc W) rfl (uR (afX enc W)))))
def HV(x:bZ):Prop:=(zJ .i64) x.Tag/\(zJ .i64) x.L/\(zJ .i64) x.R/\(zJ .i64) x.Col/\yj x.Value
def DC:Rp bZ:=rW (dP (DH (rI .i64) (zJ .i64)) (dP (DH (rI .i64) (zJ .i64)) (dP (DH (rI .i64) (zJ .i64)) (dP (DH (rI .i64) (zJ .i64)) wk)))) (fun x=>(x.Tag,x.L,x.R,x.Col,x.Value))
def TA:Na DC cx HV:=wZ (jw oH (jw oH (jw oH (jw oH Kf))))
def ac3{hg:Type}(enc:TypeId×Value->hg)(W:World):BW enc aU W 81 DC:=qi (l:=[(3,0),(3,1),(3,2),(3,3),(57,4)]) (by kernel_rfl) (by kernel_rfl) (fun y=>⟨⟨y.1,y.2.1,y.2.2.1,y.2.2.2.1,y.2.2.2.2⟩,rfl⟩) (ip (EK enc W) rfl (ip (EK enc W) rfl (ip (EK enc W) rfl (ip (EK enc W) rfl (uR (Z5 enc W))))))
def adb{hg:Type}(enc:TypeId×Value->hg)(W:World):BW enc aU W 40 (f9 DC):=qF qC (by kernel_rfl) rfl (ac3 enc W)
def DQ(x:cy):Prop:=(MZ HV) x.Nodes
def Bg:Rp cy:=rW (f9 DC) (fun x=>(x.Nodes))
def HF:Na Bg cm DQ:=wZ (xA TA)
def UN{hg:Type}(enc:TypeId×Value->hg)(W:World):BW enc aU W 42 Bg:=qi (l:=[(40,0)]) (by kernel_rfl) (by kernel_rfl) (fun y=>⟨⟨y⟩,rfl⟩) (uR (adb enc W))
def Vi(x:jt):Prop:=(zJ .i64) x.Tag/\DQ x.Arg
def Lv:Rp jt:=rW (dP (DH (rI .i64) (zJ .i64)) Bg) (fun x=>(x.Tag,x.Arg))
def Xy:Na Lv eM Vi:=wZ (jw oH HF)
def ac6{hg:Type}(enc:TypeId×Value->hg)(W:World):BW enc aU W 50 Lv:=qi (l:=[(3,0),(42,1)]) (by kernel_rfl) (by kernel_rfl) (fun y=>⟨⟨y.1,y.2⟩,rfl⟩) (ip (EK enc W) rfl (uR (UN enc W)))
def ada{hg:Type}(enc:TypeId×Value->hg)(W:World):BW enc aU W 43 (f9 Lv):=qF uz (by kernel_rfl) rfl (ac6 enc W)
def ac9{hg:Type}(enc:TypeId×Value->hg)(W:World):BW enc aU W 44 (f9 Bg):=qF vk (by kernel_rfl) rfl (UN enc W)
def Vh(x:jG):Prop:=(zJ .i64) x.Col/\inT x.Desc
def Lu:Rp jG:=rW (dP (DH (rI .i64) (zJ .i64)) (DH rB inT)) (fun x=>(x.Col,x.Desc))
def Xx:Na Lu gU Vh:=wZ (jw oH oH)
def abm{hg:Type}(enc:TypeId×Value->hg)(W:World):BW enc aU W 154 Lu:=qi (l:=[(3,0),(4,1)]) (by kernel_rfl) (by kernel_rfl) (fun y=>⟨⟨y.1,y.2⟩,rfl⟩) (ip (EK enc W) rfl (uR (adc enc W)))
def ac8{hg:Type}(enc:TypeId×Value->hg)(W:World):BW enc aU W 45 (f9 Lu):=qF xu (by kernel_rfl) rfl (abm enc W)
def DP(x:aq):Prop:=(zJ .i64) x.Op/\(zJ .i64) x.A/\(zJ .i64) x.B/\(zJ .i64) x.Table/\(MZ (zJ .i64)) x.Kinds/\inT x.Left/\DQ x.Cond/\(MZ (zJ .i64)) x.Keys/\(MZ Vi) x.Aggs/\(MZ DQ) x.Items/\(MZ Vh) x.Order/\(zJ .i64) x.Limit
def DB:Rp aq:=rW (dP (DH (rI .i64) (zJ .i64)) (dP (DH (rI .i64) (zJ .i64)) (dP (DH (rI .i64) (zJ .i64)) (dP (DH (rI .i64) (zJ .i64)) (dP (f9 (DH (rI .i64) (zJ .i64))) (dP (DH rB inT) (dP Bg (dP (f9 (DH (rI .i64) (zJ .i64))) (dP (f9 Lv) (dP (f9 Bg) (dP (f9 Lu) (DH (rI .i64) (zJ .i64))))))))))))) (fun x=>(x.Op,x.A,x.B,x.Table,x.Kinds,x.Left,x.Cond,x.Keys,x.Aggs,x.Items,x.Order,x.Limit))
def Tz:Na DB aW DP:=wZ (jw oH (jw oH (jw oH (jw oH (jw (xA oH) (jw oH (jw HF (jw (xA oH) (jw (xA Xy) (jw (xA HF) (jw (xA Xx) oH)))))))))))
def ac7{hg:Type}(enc:TypeId×Value->hg)(W:World):BW enc aU W 47 DB:=qi (l:=[(3,0),(3,1),(3,2),(3,3),(39,4),(4,5),(42,6),(39,7),(43,8),(44,9),(45,10),(3,11)]) (by kernel_rfl) (by kernel_rfl) (fun y=>⟨⟨y.1,y.2.1,y.2.2.1,y.2.2.2.1,y.2.2.2.2.1,y.2.2.2.2.2.1,y.2.2.2.2.2.2.1,y.2.2.2.2.2.2.2.1,y.2.2.2.2.2.2.2.2.1,y.2.2.2.2.2.2.2.2.2.1,y.2.2.2.2.2.2.2.2.2.2.1,y.2.2.2.2.2.2.2.2.2.2.2⟩,rfl⟩) (ip (EK enc W) rfl (ip (EK enc W) rfl (ip (EK enc W) rfl (ip (EK enc W) rfl (ip (Z6 enc W) rfl (ip (adc enc W) rfl (ip (UN enc W) rfl (ip (Z6 enc W) rfl (ip (ada enc W) rfl (ip (ac9 enc W) rfl (ip (ac8 enc W) rfl (uR (EK enc W)))))))))))))
def adi{hg:Type}(enc:TypeId×Value->hg)(W:World):BW enc aU W 22 (f9 DB):=qF tm (by kernel_rfl) rfl (ac7 enc W)
def HU(x:cC):Prop:=(MZ DP) x.Nodes
def NR:Rp cC:=rW (f9 DB) (fun x=>(x.Nodes))
def Tx:Na NR cX HU:=wZ (xA Tz)
def adh{hg:Type}(enc:TypeId×Value->hg)(W:World):BW enc aU W 24 NR:=qi (l:=[(22,0)]) (by kernel_rfl) (by kernel_rfl) (fun y=>⟨⟨y⟩,rfl⟩) (uR (adi enc W))
def ac5{hg:Type}(enc:TypeId×Value->hg)(W:World):BW enc aU W 54 (f9 wk):=qF nD (by kernel_rfl) rfl (Z5 enc W)
def ade{hg:Type}(enc:TypeId×Value->hg)(W:World):BW enc aU W 32 (f9 (f9 wk)):=qF eK (by kernel_rfl) rfl (ac5 enc W)
def adg{hg:Type}(enc:TypeId×Value->hg)(W:World):BW enc aU W 25 (f9 (f9 (f9 wk))):=qF lr (by kernel_rfl) rfl (ade enc W)
def LV(x:dg):Prop:=(MZ (MZ (MZ yj))) x.Tables
def Ry:Rp dg:=rW (f9 (f9 (f9 wk))) (fun x=>(x.Tables))
def U4:Na Ry fX LV:=wZ (xA (xA (xA Kf)))
def adf{hg:Type}(enc:TypeId×Value->hg)(W:World):BW enc aU W 27 Ry:=qi (l:=[(25,0)]) (by kernel_rfl) (by kernel_rfl) (fun y=>⟨⟨y⟩,rfl⟩) (uR (adg enc W))
def gK{a b:Bool}(h:a=true)(k:b=true):(a&&b)=true:=by rw [h,k];rfl
def Bj:(laidOutB Tryz.pinned.checked.prog)=true/\(mapsRowed Tryz.pinned.checked.prog)=true/\((Tryz.pinned.checked.prog.stops==[]))=true/\((Tryz.pinned.checked.prog.stopKnobs==[]))=true/\(Tryz.pinned.checked.prog.stopsHeard)=true/\(Tryz.pinned.checked.prog.mayEnter)=true:=by
 have h:((laidOutB Tryz.pinned.checked.prog)&&((mapsRowed Tryz.pinned.checked.prog)&&(((Tryz.pinned.checked.prog.stops==[]))&&(((Tryz.pinned.checked.prog.stopKnobs==[]))&&((Tryz.pinned.checked.prog.stopsHeard)&&((Tryz.pinned.checked.prog.mayEnter)))))))=true:=by kernel_rfl
 simpa only [gN] using h
def Xz:Tryz.pinned.checked.prog.mainIs=some (true,("1fb035841268c28f8649a0e131a854546444998a94027221d94d03281b9c9cd6" :String).toList):=by kernel_rfl
def U9:false=Tryz.pinned.checked.prog.looks []:=by kernel_rfl
def Ov:List (String×DataW Unit):=[("bowsprit/value.truths",Rows.laid_bowsprit_value_truths)]
def af4:Tryz.prog.globalNamed "bowsprit/value.truths" =some 0:=by kernel_rfl
def af2:(Tryz.prog.globals[0]?).map (·.type)=some 260:=by kernel_rfl
set_option maxRecDepth 100000 in
def af3(W:World):ToC aU W false 260 Rows.laid_bowsprit_value_truths [.int .i64 (1),.int .i64 (0),.int .u64 (0),.string ⟨([]:List UInt8).toArray⟩,.int .i64 (0),.int .i64 (0),.int .u64 (0),.string ⟨([]:List UInt8).toArray⟩,.int .i64 (1),.int .i64 (1),.int .u64 (0),.string ⟨([]:List UInt8).toArray⟩]:=Xl Tryz.underlying260 (by kernel_rfl) (by rw [show Tryz.prog.cellsOf 57=4 from by kernel_rfl];exact(show FC _ _ _ 0 [(57,0),(57,4),(57,8)] _ _ from oQ (Cx (l:=[(3,0),(2,1),(55,2),(9,3)]) (by kernel_rfl) (by kernel_rfl) (oQ (vt mK (by kernel_rfl)) rfl (oQ (vt xO (by kernel_rfl)) rfl (oQ (vt xv (by kernel_rfl)) rfl (oQ (Lm yJ (by kernel_rfl)) rfl (Mm)))))) rfl (oQ (Cx (l:=[(3,0),(2,1),(55,2),(9,3)]) (by kernel_rfl) (by kernel_rfl) (oQ (vt mK (by kernel_rfl)) rfl (oQ (vt xO (by kernel_rfl)) rfl (oQ (vt xv (by kernel_rfl)) rfl (oQ (Lm yJ (by kernel_rfl)) rfl (Mm)))))) rfl (oQ (Cx (l:=[(3,0),(2,1),(55,2),(9,3)]) (by kernel_rfl) (by kernel_rfl) (oQ (vt mK (by kernel_rfl)) rfl (oQ (vt xO (by kernel_rfl)) rfl (oQ (vt xv (by kernel_rfl)) rfl (oQ (Lm yJ (by kernel_rfl)) rfl (Mm)))))) rfl (Mm)))))
set_option maxRecDepth 100000 in
def V6(os:Os)(args:Array Value):laidMetH aU Ov ((World.doorLaid aU 400 os).forCall (fun _ _=>0) ⟨#[],args,[]⟩).memory:=
 laidMetH_of_parts3 (fuel:=8) (laidMet_of_run' 8 (by kernel_rfl) (by kernel_rfl)) (by kernel_rfl) (by kernel_rfl)
def TV{W:World}(h:laidMetH aU Ov W): ∀p∈glob,∃c ak fr,W.heap[p.1]? =some (.cells c ak fr)/\c.toList.take p.2.length=p.2:=by
 rw [MakeChecks.laidMetH_plain _ _ _ (by kernel_rfl)]at h
 intro p hp
 simp only [glob,gW,JI,or_false]at hp
 rcases hp with rfl
 ·exact Mf h (mp ..) af4 af2 (af3 W)
end Go.Proofs.YtpgjgkdpeagjbaaGreatDoor

