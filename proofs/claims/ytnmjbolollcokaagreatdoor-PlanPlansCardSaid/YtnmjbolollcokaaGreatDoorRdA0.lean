/- dr of this claim: A0. -/
import Derived.Test.YtnmjbolollcokaaGreatDoorRows
import Derived.Test.YtnmjbolollcokaaGreatDoorRdT
import Derived.Test.YtnmjbolollcokaaGreatDoorRdV4
import Derived.Lay
import Derived.Lib.LaidU8T
import Derived.PinnedBridge
import Derived.ProofKit
import Derived.SevenTiedAt
set_option linter.all false
namespace Go.Proofs.YtnmjbolollcokaaGreatDoor
open Go Go.Lib Go.Shelf Go.Proofs Go.ChangeShapes Go.WideShapes Go.ChangeAt Go.RowKit

theorem TP:ownKnob Tryz.prog.godebug=none:=by kernel_rfl
theorem QX:laidOutB bl=true:=by kernel_rfl
theorem Ae{H:Type}(enc:TypeId×Value→H)(W:World):yB enc bl W 3 (yO (rI .i64) (vE .i64)):=Dt qo (by kernel_rfl)
theorem Ok{H:Type}(enc:TypeId×Value→H)(W:World):yB enc bl W 42 (fH (yO (rI .i64) (vE .i64))):=qc dc (by kernel_rfl) rfl (Ae enc W)
theorem VE{H:Type}(enc:TypeId×Value→H)(W:World):yB enc bl W 4 (yO rB Vq):=MC K9 (by kernel_rfl)
theorem X1{H:Type}(enc:TypeId×Value→H)(W:World):yB enc bl W 2 (yO (rI .i64) (vE .i64)):=Dt Tryz.underlying2 (by kernel_rfl)
theorem TL{H:Type}(enc:TypeId×Value→H)(W:World):yB enc bl W 126 (yO (rI .u64) (vE .u64)):=Dt Tryz.underlying126 (by kernel_rfl)
theorem TG{H:Type}(enc:TypeId×Value→H)(W:World):yB enc bl W 9 (yO rS SL):=Og kf (by kernel_rfl)
def IB(x:df):Prop:=(vE .i64) x.Kind∧(vE .i64) x.N∧(vE .u64) x.U∧SL x.S
def DI:Rp df:=nd (cN (yO (rI .i64) (vE .i64)) (cN (yO (rI .i64) (vE .i64)) (cN (yO (rI .u64) (vE .u64)) (yO rS SL)))) (fun x=>(x.Kind,x.N,x.U,x.S))
theorem MI:Gg DI eG IB:=rD (gx lb (gx lb (gx lb lb)))
theorem TK{H:Type}(enc:TypeId×Value→H)(W:World):yB enc bl W 128 DI:=md (l:=[(3,0),(2,1),(126,2),(9,3)]) (by kernel_rfl) (by kernel_rfl) (fun y=>⟨⟨y.1,y.2.1,y.2.2.1,y.2.2.2⟩,rfl⟩) (fk (Ae enc W) rfl (fk (X1 enc W) rfl (fk (TL enc W) rfl (pL (TG enc W)))))
def IE(x:bq):Prop:=(vE .i64) x.Tag∧(vE .i64) x.L∧(vE .i64) x.R∧(vE .i64) x.Col∧IB x.Value
def Ap:Rp bq:=nd (cN (yO (rI .i64) (vE .i64)) (cN (yO (rI .i64) (vE .i64)) (cN (yO (rI .i64) (vE .i64)) (cN (yO (rI .i64) (vE .i64)) DI)))) (fun x=>(x.Tag,x.L,x.R,x.Col,x.Value))
theorem MM:Gg Ap bc IE:=rD (gx lb (gx lb (gx lb (gx lb MI))))
theorem TJ{H:Type}(enc:TypeId×Value→H)(W:World):yB enc bl W 130 Ap:=md (l:=[(3,0),(3,1),(3,2),(3,3),(128,4)]) (by kernel_rfl) (by kernel_rfl) (fun y=>⟨⟨y.1,y.2.1,y.2.2.1,y.2.2.2.1,y.2.2.2.2⟩,rfl⟩) (fk (Ae enc W) rfl (fk (Ae enc W) rfl (fk (Ae enc W) rfl (fk (Ae enc W) rfl (pL (TK enc W))))))
theorem VD{H:Type}(enc:TypeId×Value→H)(W:World):yB enc bl W 65 (fH Ap):=qc oo (by kernel_rfl) rfl (TJ enc W)
def C3(x:bf):Prop:=(Pb IE) x.Nodes
def yk:Rp bf:=nd (fH Ap) (fun x=>(x.Nodes))
theorem DM:Gg yk bn C3:=rD (vf MM)
theorem Oj{H:Type}(enc:TypeId×Value→H)(W:World):yB enc bl W 67 yk:=md (l:=[(65,0)]) (by kernel_rfl) (by kernel_rfl) (fun y=>⟨⟨y⟩,rfl⟩) (pL (VD enc W))
def OQ(x:ip):Prop:=(vE .i64) x.Tag∧C3 x.Arg
def GK:Rp ip:=nd (cN (yO (rI .i64) (vE .i64)) yk) (fun x=>(x.Tag,x.Arg))
theorem QK:Gg GK dP OQ:=rD (gx lb DM)
theorem Vy{H:Type}(enc:TypeId×Value→H)(W:World):yB enc bl W 78 GK:=md (l:=[(3,0),(67,1)]) (by kernel_rfl) (by kernel_rfl) (fun y=>⟨⟨y.1,y.2⟩,rfl⟩) (fk (Ae enc W) rfl (pL (Oj enc W)))
theorem VC{H:Type}(enc:TypeId×Value→H)(W:World):yB enc bl W 68 (fH GK):=qc nC (by kernel_rfl) rfl (Vy enc W)
theorem VB{H:Type}(enc:TypeId×Value→H)(W:World):yB enc bl W 69 (fH yk):=qc nc (by kernel_rfl) rfl (Oj enc W)
def OO(x:mB):Prop:=(vE .i64) x.Col∧Vq x.Desc
def GJ:Rp mB:=nd (cN (yO (rI .i64) (vE .i64)) (yO rB Vq)) (fun x=>(x.Col,x.Desc))
theorem QJ:Gg GJ kJ OO:=rD (gx lb lb)
theorem TH{H:Type}(enc:TypeId×Value→H)(W:World):yB enc bl W 173 GJ:=md (l:=[(3,0),(4,1)]) (by kernel_rfl) (by kernel_rfl) (fun y=>⟨⟨y.1,y.2⟩,rfl⟩) (fk (Ae enc W) rfl (pL (VE enc W)))
theorem VA{H:Type}(enc:TypeId×Value→H)(W:World):yB enc bl W 70 (fH GJ):=qc vS (by kernel_rfl) rfl (TH enc W)
def ID(x:af):Prop:=(vE .i64) x.Op∧(vE .i64) x.A∧(vE .i64) x.B∧(vE .i64) x.Table∧(Pb (vE .i64)) x.Kinds∧Vq x.Left∧C3 x.Cond∧(Pb (vE .i64)) x.Keys∧(Pb OQ) x.Aggs∧(Pb C3) x.Items∧(Pb OO) x.Order∧(vE .i64) x.Limit
def Ao:Rp af:=nd (cN (yO (rI .i64) (vE .i64)) (cN (yO (rI .i64) (vE .i64)) (cN (yO (rI .i64) (vE .i64)) (cN (yO (rI .i64) (vE .i64)) (cN (fH (yO (rI .i64) (vE .i64))) (cN (yO rB Vq) (cN yk (cN (fH (yO (rI .i64) (vE .i64))) (cN (fH GK) (cN (fH yk) (cN (fH GJ) (yO (rI .i64) (vE .i64))))))))))))) (fun x=>(x.Op,x.A,x.B,x.Table,x.Kinds,x.Left,x.Cond,x.Keys,x.Aggs,x.Items,x.Order,x.Limit))
theorem ML:Gg Ao ah ID:=rD (gx lb (gx lb (gx lb (gx lb (gx (vf lb) (gx lb (gx DM (gx (vf lb) (gx (vf QK) (gx (vf DM) (gx (vf QJ) lb)))))))))))
theorem Vz{H:Type}(enc:TypeId×Value→H)(W:World):yB enc bl W 72 Ao:=md (l:=[(3,0),(3,1),(3,2),(3,3),(42,4),(4,5),(67,6),(42,7),(68,8),(69,9),(70,10),(3,11)]) (by kernel_rfl) (by kernel_rfl) (fun y=>⟨⟨y.1,y.2.1,y.2.2.1,y.2.2.2.1,y.2.2.2.2.1,y.2.2.2.2.2.1,y.2.2.2.2.2.2.1,y.2.2.2.2.2.2.2.1,y.2.2.2.2.2.2.2.2.1,y.2.2.2.2.2.2.2.2.2.1,y.2.2.2.2.2.2.2.2.2.2.1,y.2.2.2.2.2.2.2.2.2.2.2⟩,rfl⟩) (fk (Ae enc W) rfl (fk (Ae enc W) rfl (fk (Ae enc W) rfl (fk (Ae enc W) rfl (fk (Ok enc W) rfl (fk (VE enc W) rfl (fk (Oj enc W) rfl (fk (Ok enc W) rfl (fk (VC enc W) rfl (fk (VB enc W) rfl (fk (VA enc W) rfl (pL (Ae enc W)))))))))))))
theorem VI{H:Type}(enc:TypeId×Value→H)(W:World):yB enc bl W 22 (fH Ao):=qc om (by kernel_rfl) rfl (Vz enc W)
def OP(x:bR):Prop:=(Pb ID) x.Nodes
def Ie:Rp bR:=nd (fH Ao) (fun x=>(x.Nodes))
theorem MK:Gg Ie ck OP:=rD (vf ML)
theorem VH{H:Type}(enc:TypeId×Value→H)(W:World):yB enc bl W 24 Ie:=md (l:=[(22,0)]) (by kernel_rfl) (by kernel_rfl) (fun y=>⟨⟨y⟩,rfl⟩) (pL (VI enc W))
def FP(x:bT):Prop:=SL x.Name∧(vE .i64) x.Kind
def yl:Rp bT:=nd (cN (yO rS SL) (yO (rI .i64) (vE .i64))) (fun x=>(x.Name,x.Kind))
theorem J7:Gg yl dR FP:=rD (gx lb lb)
theorem Vv{H:Type}(enc:TypeId×Value→H)(W:World):yB enc bl W 85 yl:=md (l:=[(9,0),(3,1)]) (by kernel_rfl) (by kernel_rfl) (fun y=>⟨⟨y.1,y.2⟩,rfl⟩) (fk (TG enc W) rfl (pL (Ae enc W)))
theorem Vx{H:Type}(enc:TypeId×Value→H)(W:World):yB enc bl W 81 (fH yl):=qc sO (by kernel_rfl) rfl (Vv enc W)
def IC(x:ca):Prop:=SL x.Name∧(Pb FP) x.Columns∧(Pb (vE .i64)) x.Keys
def An:Rp ca:=nd (cN (yO rS SL) (cN (fH yl) (fH (yO (rI .i64) (vE .i64))))) (fun x=>(x.Name,x.Columns,x.Keys))
theorem MJ:Gg An di IC:=rD (gx lb (gx (vf J7) (vf lb)))
theorem Vw{H:Type}(enc:TypeId×Value→H)(W:World):yB enc bl W 83 An:=md (l:=[(9,0),(81,1),(42,2)]) (by kernel_rfl) (by kernel_rfl) (fun y=>⟨⟨y.1,y.2.1,y.2.2⟩,rfl⟩) (fk (TG enc W) rfl (fk (Vx enc W) rfl (pL (Ok enc W))))
theorem VG{H:Type}(enc:TypeId×Value→H)(W:World):yB enc bl W 25 (fH An):=qc ux (by kernel_rfl) rfl (Vw enc W)
def Kl(x:ce):Prop:=(Pb IC) x.Tables
def DK:Rp ce:=nd (fH An) (fun x=>(x.Tables))
theorem Ik:Gg DK da Kl:=rD (vf MJ)
theorem VF{H:Type}(enc:TypeId×Value→H)(W:World):yB enc bl W 27 DK:=md (l:=[(25,0)]) (by kernel_rfl) (by kernel_rfl) (fun y=>⟨⟨y⟩,rfl⟩) (pL (VG enc W))
theorem fP{a b:Bool}(h:a=true)(k:b=true):(a&&b)=true:=by rw [h,k];rfl
theorem yo:(laidOutB Tryz.pinned.checked.prog)=true∧(mapsRowed Tryz.pinned.checked.prog)=true∧((Tryz.pinned.checked.prog.stops==[]))=true∧((Tryz.pinned.checked.prog.stopKnobs==[]))=true∧(Tryz.pinned.checked.prog.stopsHeard)=true∧(Tryz.pinned.checked.prog.mayEnter)=true:=by
 have h:((laidOutB Tryz.pinned.checked.prog)&&((mapsRowed Tryz.pinned.checked.prog)&&(((Tryz.pinned.checked.prog.stops==[]))&&(((Tryz.pinned.checked.prog.stopKnobs==[]))&&((Tryz.pinned.checked.prog.stopsHeard)&&((Tryz.pinned.checked.prog.mayEnter)))))))=true:=by kernel_rfl
 simpa only [lH] using h
theorem QL:Tryz.pinned.checked.prog.mainIs=some (true,("2279216227f6392ae59b4ac39390836c23730c69cea3a1571a4ea39c3eac179e" :String).toList):=by kernel_rfl
theorem OD:false=Tryz.pinned.checked.prog.looks []:=by kernel_rfl
def AC:List (String×DataW Unit):=[("unicode/utf8.acceptRanges",Rows.laid_unicode_utf8_acceptRanges),("bowsprit/lex.words",Rows.laid_bowsprit_lex_words),("bowsprit/catalog.kinds",Rows.laid_bowsprit_catalog_kinds),("unicode.CaseRanges",Rows.laid_unicode_CaseRanges),("unicode/utf8.first",Rows.laid_unicode_utf8_first)]
theorem Yg:Tryz.prog.globalNamed "bowsprit/lex.words" =some 1:=by kernel_rfl
theorem Yc:(Tryz.prog.globals[1]?).map (·.type)=some 255:=by kernel_rfl
set_option maxRecDepth 100000 in
theorem Ye(W:World):S3 bl W false 255 Rows.laid_bowsprit_lex_words [.string ⟨([83,69,76,69,67,84]:List UInt8).toArray⟩,.string ⟨([68,73,83,84,73,78,67,84]:List UInt8).toArray⟩,.string ⟨([70,82,79,77]:List UInt8).toArray⟩,.string ⟨([76,69,70,84]:List UInt8).toArray⟩,.string ⟨([74,79,73,78]:List UInt8).toArray⟩,.string ⟨([79,78]:List UInt8).toArray⟩,.string ⟨([87,72,69,82,69]:List UInt8).toArray⟩,.string ⟨([71,82,79,85,80]:List UInt8).toArray⟩,.string ⟨([66,89]:List UInt8).toArray⟩,.string ⟨([72,65,86,73,78,71]:List UInt8).toArray⟩,.string ⟨([85,78,73,79,78]:List UInt8).toArray⟩,.string ⟨([65,76,76]:List UInt8).toArray⟩,.string ⟨([79,82,68,69,82]:List UInt8).toArray⟩,.string ⟨([76,73,77,73,84]:List UInt8).toArray⟩,.string ⟨([65,83,67]:List UInt8).toArray⟩,.string ⟨([68,69,83,67]:List UInt8).toArray⟩,.string ⟨([65,83]:List UInt8).toArray⟩,.string ⟨([65,78,68]:List UInt8).toArray⟩,.string ⟨([79,82]:List UInt8).toArray⟩,.string ⟨([78,79,84]:List UInt8).toArray⟩,.string ⟨([73,83]:List UInt8).toArray⟩,.string ⟨([78,85,76,76]:List UInt8).toArray⟩,.string ⟨([84,82,85,69]:List UInt8).toArray⟩,.string ⟨([70,65,76,83,69]:List UInt8).toArray⟩,.string ⟨([67,79,85,78,84]:List UInt8).toArray⟩,.string ⟨([83,85,77]:List UInt8).toArray⟩,.string ⟨([77,73,78]:List UInt8).toArray⟩,.string ⟨([77,65,88]:List UInt8).toArray⟩]:=Lc Tryz.underlying255 (by kernel_rfl) (by rw [show Tryz.prog.cellsOf 9=1 from by kernel_rfl];exact(show FC _ _ _ 0 [(9,0),(9,1),(9,2),(9,3),(9,4),(9,5),(9,6),(9,7),(9,8),(9,9),(9,10),(9,11),(9,12),(9,13),(9,14),(9,15),(9,16),(9,17),(9,18),(9,19),(9,20),(9,21),(9,22),(9,23),(9,24),(9,25),(9,26),(9,27)] _ _ from eo (fJ kf (by kernel_rfl)) rfl (eo (fJ kf (by kernel_rfl)) rfl (eo (fJ kf (by kernel_rfl)) rfl (eo (fJ kf (by kernel_rfl)) rfl (eo (fJ kf (by kernel_rfl)) rfl (eo (fJ kf (by kernel_rfl)) rfl (eo (fJ kf (by kernel_rfl)) rfl (eo (fJ kf (by kernel_rfl)) rfl (eo (fJ kf (by kernel_rfl)) rfl (eo (fJ kf (by kernel_rfl)) rfl (eo (fJ kf (by kernel_rfl)) rfl (eo (fJ kf (by kernel_rfl)) rfl (eo (fJ kf (by kernel_rfl)) rfl (eo (fJ kf (by kernel_rfl)) rfl (eo (fJ kf (by kernel_rfl)) rfl (eo (fJ kf (by kernel_rfl)) rfl (eo (fJ kf (by kernel_rfl)) rfl (eo (fJ kf (by kernel_rfl)) rfl (eo (fJ kf (by kernel_rfl)) rfl (eo (fJ kf (by kernel_rfl)) rfl (eo (fJ kf (by kernel_rfl)) rfl (eo (fJ kf (by kernel_rfl)) rfl (eo (fJ kf (by kernel_rfl)) rfl (eo (fJ kf (by kernel_rfl)) rfl (eo (fJ kf (by kernel_rfl)) rfl (eo (fJ kf (by kernel_rfl)) rfl (eo (fJ kf (by kernel_rfl)) rfl (eo (fJ kf (by kernel_rfl)) rfl (Eh))))))))))))))))))))))))))))))
theorem Yh:Tryz.prog.globalNamed "bowsprit/catalog.kinds" =some 0:=by kernel_rfl
theorem Yd:(Tryz.prog.globals[0]?).map (·.type)=some 233:=by kernel_rfl
set_option maxRecDepth 100000 in
theorem Yf(W:World):S3 bl W false 233 Rows.laid_bowsprit_catalog_kinds [.string ⟨([98,111,111,108]:List UInt8).toArray⟩,.int .i64 (1),.string ⟨([105,110,116]:List UInt8).toArray⟩,.int .i64 (2),.string ⟨([116,101,120,116]:List UInt8).toArray⟩,.int .i64 (3)]:=Lc Tryz.underlying233 (by kernel_rfl) (by rw [show Tryz.prog.cellsOf 232=2 from by kernel_rfl];exact(show FC _ _ _ 0 [(232,0),(232,2),(232,4)] _ _ from eo (zq (l:=[(9,0),(3,1)]) (by kernel_rfl) (by kernel_rfl) (eo (fJ kf (by kernel_rfl)) rfl (eo (Gz qo (by kernel_rfl)) rfl (Eh)))) rfl (eo (zq (l:=[(9,0),(3,1)]) (by kernel_rfl) (by kernel_rfl) (eo (fJ kf (by kernel_rfl)) rfl (eo (Gz qo (by kernel_rfl)) rfl (Eh)))) rfl (eo (zq (l:=[(9,0),(3,1)]) (by kernel_rfl) (by kernel_rfl) (eo (fJ kf (by kernel_rfl)) rfl (eo (Gz qo (by kernel_rfl)) rfl (Eh)))) rfl (Eh)))))
set_option maxRecDepth 100000 in
theorem PP(os:Os)(args:Array Value):laidMetH bl AC ((World.laidAll bl os AC).forCall (fun _ _=>0) ⟨#[],args,[]⟩).memory:=by
 rw [MakeChecks.laidMetH_plain _ _ _ (by kernel_rfl)]
 exact laidMet_laidAll _ (by kernel_rfl) (by kernel_rfl)
theorem Nl{W:World}(h:laidMetH bl AC W): ∀p∈glob,∃c T fr,W.heap[p.1]? =some (.cells c T fr)∧c.toList.take p.2.length=p.2:=by
 rw [MakeChecks.laidMetH_plain _ _ _ (by kernel_rfl)]at h
 intro p hp
 simp only [glob,jl,List.not_mem_nil,or_false]at hp
 rcases hp with rfl|rfl
 ·exact AK h (pS _ (pS _ (iA ..))) Yh Yd (Yf W)
 ·exact AK h (pS _ (iA ..)) Yg Yc (Ye W)
theorem XR:Go.Proofs.CaseExtra bl oe:=⟨by kernel_rfl,by kernel_rfl,by kernel_rfl,by kernel_rfl,by kernel_rfl,by kernel_rfl⟩
theorem u8X:Go.Proofs.U8Extra bl oe:=⟨by kernel_rfl,by kernel_rfl,by kernel_rfl,by kernel_rfl,by kernel_rfl,by kernel_rfl,by kernel_rfl⟩
theorem NL:(Rows.laid_unicode_utf8_acceptRanges:DataW Unit)=acceptData:=by kernel_rfl
theorem Ou{W:World}(h:laidMetH bl AC W):MD W:=by
 rw [MakeChecks.laidMetH_plain _ _ _ (by kernel_rfl)]at h
 have h1:VarReads bl W "unicode.CaseRanges" caseData:=Pinned.caseRanges_eq▸Lib.laidMet.reads h (pS _ (pS _ (pS _ (iA ..))))
 have h2:VarReads bl W "unicode/utf8.first" firstData:=Pinned.utf8First_eq▸Lib.laidMet.reads h (pS _ (pS _ (pS _ (pS _ (iA ..)))))
 have h3:VarReads bl W "unicode/utf8.acceptRanges" acceptData:=NL▸Lib.laidMet.reads h (iA ..)
 exact⟨caseVar_of_reads {vq with} (by kernel_rfl) XR h1,utf8Tabs_of_readsT {vq with} u8X h2 h3⟩
theorem Ot{W:World}(h:laidMetH bl AC W): ∀w' :World,(∀(b:Nat) (o:Obj),W.heap[b]? =some o→ ∃o',w'.heap[b]? =some o' ∧ES o o')→MD w' :=fun _ hle=>⟨Jy hle (Ou h).1,Hu hle (Ou h).2⟩
end Go.Proofs.YtnmjbolollcokaaGreatDoor

