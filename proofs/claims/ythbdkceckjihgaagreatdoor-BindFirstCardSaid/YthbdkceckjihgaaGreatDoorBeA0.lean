/- cu of this claim: A0. -/
import Derived.Test.YthbdkceckjihgaaGreatDoorRows
import Derived.Test.YthbdkceckjihgaaGreatDoorBeT
import Derived.Test.YthbdkceckjihgaaGreatDoorBeV3
import Derived.Lay
import Derived.Lib.LaidU8T
import Derived.PinnedBridge
import Derived.Test.YthbdkceckjihgaaGreatDoorBeV4
import Derived.ProofKit
import Derived.SevenTiedAt
set_option linter.all false
namespace Go.Proofs.YthbdkceckjihgaaGreatDoor
open Go Go.Lib Go.Shelf Go.Proofs Go.ChangeShapes Go.WideShapes Go.ChangeAt Go.RowKit

def UT:ownKnob Tryz.prog.godebug=none:=by kernel_rfl
def Sn:laidOutB aO=true:=by kernel_rfl
def Dp{hb:Type}(enc:TypeId×Value->hb)(W:World):vz enc aO W 9 (wn rS CY):=PM ik (by kernel_rfl)
def Is{hb:Type}(enc:TypeId×Value->hb)(W:World):vz enc aO W 3 (wn (rI .i64) (CE .i64)):=Do vQ (by kernel_rfl)
def Gg(x:bl):Prop:=CY x.Name/\(CE .i64) x.Kind
def xc:Rp bl:=iM (bA (wn rS CY) (wn (rI .i64) (CE .i64))) (fun x=>(x.Name,x.Kind))
def KG:E2 xc cr Gg:=mZ (ec i8 i8)
def UG{hb:Type}(enc:TypeId×Value->hb)(W:World):vz enc aO W 113 xc:=hY (l:=[(9,0),(3,1)]) (by kernel_rfl) (by kernel_rfl) (fun y=>⟨⟨y.1,y.2⟩,rfl⟩) (dx (Dp enc W) rfl (kP (Is enc W)))
def UI{hb:Type}(enc:TypeId×Value->hb)(W:World):vz enc aO W 108 (ek xc):=mX tW (by kernel_rfl) rfl (UG enc W)
def Wc{hb:Type}(enc:TypeId×Value->hb)(W:World):vz enc aO W 35 (ek (wn (rI .i64) (CE .i64))):=mX iO (by kernel_rfl) rfl (Is enc W)
def I5(x:bp):Prop:=CY x.Name/\(RS Gg) x.Columns/\(RS (CE .i64)) x.Keys
def zZ:Rp bp:=iM (bA (wn rS CY) (bA (ek xc) (ek (wn (rI .i64) (CE .i64))))) (fun x=>(x.Name,x.Columns,x.Keys))
def Oi:E2 zZ cD I5:=mZ (ec i8 (ec (uz KG) (uz i8)))
def UH{hb:Type}(enc:TypeId×Value->hb)(W:World):vz enc aO W 110 zZ:=hY (l:=[(9,0),(108,1),(35,2)]) (by kernel_rfl) (by kernel_rfl) (fun y=>⟨⟨y.1,y.2.1,y.2.2⟩,rfl⟩) (dx (Dp enc W) rfl (dx (UI enc W) rfl (kP (Wc enc W))))
def Wh{hb:Type}(enc:TypeId×Value->hb)(W:World):vz enc aO W 22 (ek zZ):=mX vP (by kernel_rfl) rfl (UH enc W)
def KU(x:aq):Prop:=(RS I5) x.Tables
def DL:Rp aq:=iM (ek zZ) (fun x=>(x.Tables))
def IT:E2 DL bX KU:=mZ (uz Oi)
def Wg{hb:Type}(enc:TypeId×Value->hb)(W:World):vz enc aO W 24 DL:=hY (l:=[(22,0)]) (by kernel_rfl) (by kernel_rfl) (fun y=>⟨⟨y⟩,rfl⟩) (kP (Wh enc W))
def R2{hb:Type}(enc:TypeId×Value->hb)(W:World):vz enc aO W 4 (wn rB RR):=NY TM (by kernel_rfl)
def Yh{hb:Type}(enc:TypeId×Value->hb)(W:World):vz enc aO W 2 (wn (rI .i64) (CE .i64)):=Do Tryz.underlying2 (by kernel_rfl)
def UK{hb:Type}(enc:TypeId×Value->hb)(W:World):vz enc aO W 102 (wn (rI .u64) (CE .u64)):=Do Tryz.underlying102 (by kernel_rfl)
def I4(x:bO):Prop:=(CE .i64) x.Kind/\(CE .i64) x.N/\(CE .u64) x.U/\CY x.S
def DK:Rp bO:=iM (bA (wn (rI .i64) (CE .i64)) (bA (wn (rI .i64) (CE .i64)) (bA (wn (rI .u64) (CE .u64)) (wn rS CY)))) (fun x=>(x.Kind,x.N,x.U,x.S))
def Oh:E2 DK dF I4:=mZ (ec i8 (ec i8 (ec i8 i8)))
def UJ{hb:Type}(enc:TypeId×Value->hb)(W:World):vz enc aO W 104 DK:=hY (l:=[(3,0),(2,1),(102,2),(9,3)]) (by kernel_rfl) (by kernel_rfl) (fun y=>⟨⟨y.1,y.2.1,y.2.2.1,y.2.2.2⟩,rfl⟩) (dx (Is enc W) rfl (dx (Yh enc W) rfl (dx (UK enc W) rfl (kP (Dp enc W)))))
def MB(x:cj):Prop:=(CE .i64) x.Tag/\(CE .i64) x.L/\(CE .i64) x.R/\I4 x.Value/\CY x.Table/\CY x.Name
def CR:Rp cj:=iM (bA (wn (rI .i64) (CE .i64)) (bA (wn (rI .i64) (CE .i64)) (bA (wn (rI .i64) (CE .i64)) (bA DK (bA (wn rS CY) (wn rS CY)))))) (fun x=>(x.Tag,x.L,x.R,x.Value,x.Table,x.Name))
def Qi:E2 CR cB MB:=mZ (ec i8 (ec i8 (ec i8 (ec Oh (ec i8 i8)))))
def UF{hb:Type}(enc:TypeId×Value->hb)(W:World):vz enc aO W 162 CR:=hY (l:=[(3,0),(3,1),(3,2),(104,3),(9,7),(9,8)]) (by kernel_rfl) (by kernel_rfl) (fun y=>⟨⟨y.1,y.2.1,y.2.2.1,y.2.2.2.1,y.2.2.2.2.1,y.2.2.2.2.2⟩,rfl⟩) (dx (Is enc W) rfl (dx (Is enc W) rfl (dx (Is enc W) rfl (dx (UJ enc W) rfl (dx (Dp enc W) rfl (kP (Dp enc W)))))))
def V9{hb:Type}(enc:TypeId×Value->hb)(W:World):vz enc aO W 50 (ek CR):=mX tU (by kernel_rfl) rfl (UF enc W)
def Ac(x:ce):Prop:=(RS MB) x.Nodes
def w9:Rp ce:=iM (ek CR) (fun x=>(x.Nodes))
def z1:E2 w9 aY Ac:=mZ (uz Qi)
def Mh{hb:Type}(enc:TypeId×Value->hb)(W:World):vz enc aO W 52 w9:=hY (l:=[(50,0)]) (by kernel_rfl) (by kernel_rfl) (fun y=>⟨⟨y⟩,rfl⟩) (kP (V9 enc W))
def ME(x:eh):Prop:=Ac x.Tree/\CY x.As
def CU:Rp eh:=iM (bA w9 (wn rS CY)) (fun x=>(x.Tree,x.As))
def Ql:E2 CU cF ME:=mZ (ec z1 i8)
def V5{hb:Type}(enc:TypeId×Value->hb)(W:World):vz enc aO W 88 CU:=hY (l:=[(52,0),(9,1)]) (by kernel_rfl) (by kernel_rfl) (fun y=>⟨⟨y.1,y.2⟩,rfl⟩) (dx (Mh enc W) rfl (kP (Dp enc W)))
def Wb{hb:Type}(enc:TypeId×Value->hb)(W:World):vz enc aO W 46 (ek CU):=mX sE (by kernel_rfl) rfl (V5 enc W)
def Bj(x:da):Prop:=CY x.Table/\CY x.As
def xa:Rp da:=iM (bA (wn rS CY) (wn rS CY)) (fun x=>(x.Table,x.As))
def DP:E2 xa gm Bj:=mZ (ec i8 i8)
def TR{hb:Type}(enc:TypeId×Value->hb)(W:World):vz enc aO W 48 xa:=hY (l:=[(9,0),(9,1)]) (by kernel_rfl) (by kernel_rfl) (fun y=>⟨⟨y.1,y.2⟩,rfl⟩) (dx (Dp enc W) rfl (kP (Dp enc W)))
def MD(x:kw):Prop:=RR x.Left/\Bj x.Source/\Ac x.On
def CT:Rp kw:=iM (bA (wn rB RR) (bA xa w9)) (fun x=>(x.Left,x.Source,x.On))
def Qk:E2 CT dm MD:=mZ (ec i8 (ec DP z1))
def V6{hb:Type}(enc:TypeId×Value->hb)(W:World):vz enc aO W 86 CT:=hY (l:=[(4,0),(48,1),(52,3)]) (by kernel_rfl) (by kernel_rfl) (fun y=>⟨⟨y.1,y.2.1,y.2.2⟩,rfl⟩) (dx (R2 enc W) rfl (dx (TR enc W) rfl (kP (Mh enc W))))
def Wa{hb:Type}(enc:TypeId×Value->hb)(W:World):vz enc aO W 49 (ek CT):=mX xM (by kernel_rfl) rfl (V6 enc W)
def MC(x:ig):Prop:=CY x.Table/\CY x.Name
def CS:Rp ig:=iM (bA (wn rS CY) (wn rS CY)) (fun x=>(x.Table,x.Name))
def Qj:E2 CS d8 MC:=mZ (ec i8 i8)
def V4{hb:Type}(enc:TypeId×Value->hb)(W:World):vz enc aO W 91 CS:=hY (l:=[(9,0),(9,1)]) (by kernel_rfl) (by kernel_rfl) (fun y=>⟨⟨y.1,y.2⟩,rfl⟩) (dx (Dp enc W) rfl (kP (Dp enc W)))
def V8{hb:Type}(enc:TypeId×Value->hb)(W:World):vz enc aO W 53 (ek CS):=mX C8 (by kernel_rfl) rfl (V4 enc W)
def Ge(x:al):Prop:=RR x.Distinct/\RR x.Star/\(RS ME) x.Items/\Bj x.From/\(RS MD) x.Joins/\Ac x.Where/\Ac x.Having/\(RS MC) x.Group
def xb:Rp al:=iM (bA (wn rB RR) (bA (wn rB RR) (bA (ek CU) (bA xa (bA (ek CT) (bA w9 (bA w9 (ek CS)))))))) (fun x=>(x.Distinct,x.Star,x.Items,x.From,x.Joins,x.Where,x.Having,x.Group))
def DQ:E2 xb aB Ge:=mZ (ec i8 (ec i8 (ec (uz Ql) (ec DP (ec (uz Qk) (ec z1 (ec z1 (uz Qj))))))))
def TQ{hb:Type}(enc:TypeId×Value->hb)(W:World):vz enc aO W 55 xb:=hY (l:=[(4,0),(4,1),(46,2),(48,3),(49,5),(52,6),(52,7),(53,8)]) (by kernel_rfl) (by kernel_rfl) (fun y=>⟨⟨y.1,y.2.1,y.2.2.1,y.2.2.2.1,y.2.2.2.2.1,y.2.2.2.2.2.1,y.2.2.2.2.2.2.1,y.2.2.2.2.2.2.2⟩,rfl⟩) (dx (R2 enc W) rfl (dx (R2 enc W) rfl (dx (Wb enc W) rfl (dx (TR enc W) rfl (dx (Wa enc W) rfl (dx (Mh enc W) rfl (dx (Mh enc W) rfl (kP (V8 enc W)))))))))
def Wf{hb:Type}(enc:TypeId×Value->hb)(W:World):vz enc aO W 28 (ek xb):=mX sF (by kernel_rfl) rfl (TQ enc W)
def Qx(x:lT):Prop:=CY x.Name/\(CE .i64) x.Number/\RR x.Desc
def Hp:Rp lT:=iM (bA (wn rS CY) (bA (wn (rI .i64) (CE .i64)) (wn rB RR))) (fun x=>(x.Name,x.Number,x.Desc))
def Se:E2 Hp d5 Qx:=mZ (ec i8 (ec i8 i8))
def V7{hb:Type}(enc:TypeId×Value->hb)(W:World):vz enc aO W 57 Hp:=hY (l:=[(9,0),(3,1),(4,2)]) (by kernel_rfl) (by kernel_rfl) (fun y=>⟨⟨y.1,y.2.1,y.2.2⟩,rfl⟩) (dx (Dp enc W) rfl (dx (Is enc W) rfl (kP (R2 enc W))))
def We{hb:Type}(enc:TypeId×Value->hb)(W:World):vz enc aO W 29 (ek Hp):=mX AQ (by kernel_rfl) rfl (V7 enc W)
def Qw(x:aN):Prop:=(RS Ge) x.Selects/\(RS Qx) x.Keys/\(CE .i64) x.Limit
def IQ:Rp aN:=iM (bA (ek xb) (bA (ek Hp) (wn (rI .i64) (CE .i64)))) (fun x=>(x.Selects,x.Keys,x.Limit))
def Oj:E2 IQ bd Qw:=mZ (ec (uz DQ) (ec (uz Se) i8))
def Wd{hb:Type}(enc:TypeId×Value->hb)(W:World):vz enc aO W 31 IQ:=hY (l:=[(28,0),(29,1),(3,2)]) (by kernel_rfl) (by kernel_rfl) (fun y=>⟨⟨y.1,y.2.1,y.2.2⟩,rfl⟩) (dx (Wf enc W) rfl (dx (We enc W) rfl (kP (Is enc W))))
def ez{a b:Bool}(h:a=true)(k:b=true):(a&&b)=true:=by rw [h,k];rfl
def xg:(laidOutB Tryz.pinned.checked.prog)=true/\(mapsRowed Tryz.pinned.checked.prog)=true/\((Tryz.pinned.checked.prog.stops==[]))=true/\((Tryz.pinned.checked.prog.stopKnobs==[]))=true/\(Tryz.pinned.checked.prog.stopsHeard)=true/\(Tryz.pinned.checked.prog.mayEnter)=true:=by
 have h:((laidOutB Tryz.pinned.checked.prog)&&((mapsRowed Tryz.pinned.checked.prog)&&(((Tryz.pinned.checked.prog.stops==[]))&&(((Tryz.pinned.checked.prog.stopKnobs==[]))&&((Tryz.pinned.checked.prog.stopsHeard)&&((Tryz.pinned.checked.prog.mayEnter)))))))=true:=by kernel_rfl
 simpa only [gU] using h
def Sf:Tryz.pinned.checked.prog.mainIs=some (true,("994ba46e7a82f8141f915d9f3da3b6056a2eae399341bbf3229131cb61b0b052" :String).toList):=by kernel_rfl
def Qm:false=Tryz.pinned.checked.prog.looks []:=by kernel_rfl
def Af:List (String×DataW Unit):=[("unicode/utf8.acceptRanges",Rows.laid_unicode_utf8_acceptRanges),("bowsprit/lex.words",Rows.laid_bowsprit_lex_words),("bowsprit/catalog.kinds",Rows.laid_bowsprit_catalog_kinds),("unicode.CaseRanges",Rows.laid_unicode_CaseRanges),("unicode/utf8.first",Rows.laid_unicode_utf8_first)]
def Yv:Tryz.prog.globalNamed "bowsprit/lex.words" =some 1:=by kernel_rfl
def Yr:(Tryz.prog.globals[1]?).map (·.type)=some 228:=by kernel_rfl
set_option maxRecDepth 100000 in
def Yt(W:World):Un aO W false 228 Rows.laid_bowsprit_lex_words [.string ⟨([83,69,76,69,67,84]:List UInt8).toArray⟩,.string ⟨([68,73,83,84,73,78,67,84]:List UInt8).toArray⟩,.string ⟨([70,82,79,77]:List UInt8).toArray⟩,.string ⟨([76,69,70,84]:List UInt8).toArray⟩,.string ⟨([74,79,73,78]:List UInt8).toArray⟩,.string ⟨([79,78]:List UInt8).toArray⟩,.string ⟨([87,72,69,82,69]:List UInt8).toArray⟩,.string ⟨([71,82,79,85,80]:List UInt8).toArray⟩,.string ⟨([66,89]:List UInt8).toArray⟩,.string ⟨([72,65,86,73,78,71]:List UInt8).toArray⟩,.string ⟨([85,78,73,79,78]:List UInt8).toArray⟩,.string ⟨([65,76,76]:List UInt8).toArray⟩,.string ⟨([79,82,68,69,82]:List UInt8).toArray⟩,.string ⟨([76,73,77,73,84]:List UInt8).toArray⟩,.string ⟨([65,83,67]:List UInt8).toArray⟩,.string ⟨([68,69,83,67]:List UInt8).toArray⟩,.string ⟨([65,83]:List UInt8).toArray⟩,.string ⟨([65,78,68]:List UInt8).toArray⟩,.string ⟨([79,82]:List UInt8).toArray⟩,.string ⟨([78,79,84]:List UInt8).toArray⟩,.string ⟨([73,83]:List UInt8).toArray⟩,.string ⟨([78,85,76,76]:List UInt8).toArray⟩,.string ⟨([84,82,85,69]:List UInt8).toArray⟩,.string ⟨([70,65,76,83,69]:List UInt8).toArray⟩,.string ⟨([67,79,85,78,84]:List UInt8).toArray⟩,.string ⟨([83,85,77]:List UInt8).toArray⟩,.string ⟨([77,73,78]:List UInt8).toArray⟩,.string ⟨([77,65,88]:List UInt8).toArray⟩]:=Mi Tryz.underlying228 (by kernel_rfl) (by rw [show Tryz.prog.cellsOf 9=1 from by kernel_rfl];exact(show FC _ _ _ 0 [(9,0),(9,1),(9,2),(9,3),(9,4),(9,5),(9,6),(9,7),(9,8),(9,9),(9,10),(9,11),(9,12),(9,13),(9,14),(9,15),(9,16),(9,17),(9,18),(9,19),(9,20),(9,21),(9,22),(9,23),(9,24),(9,25),(9,26),(9,27)] _ _ from dD (ev ik (by kernel_rfl)) rfl (dD (ev ik (by kernel_rfl)) rfl (dD (ev ik (by kernel_rfl)) rfl (dD (ev ik (by kernel_rfl)) rfl (dD (ev ik (by kernel_rfl)) rfl (dD (ev ik (by kernel_rfl)) rfl (dD (ev ik (by kernel_rfl)) rfl (dD (ev ik (by kernel_rfl)) rfl (dD (ev ik (by kernel_rfl)) rfl (dD (ev ik (by kernel_rfl)) rfl (dD (ev ik (by kernel_rfl)) rfl (dD (ev ik (by kernel_rfl)) rfl (dD (ev ik (by kernel_rfl)) rfl (dD (ev ik (by kernel_rfl)) rfl (dD (ev ik (by kernel_rfl)) rfl (dD (ev ik (by kernel_rfl)) rfl (dD (ev ik (by kernel_rfl)) rfl (dD (ev ik (by kernel_rfl)) rfl (dD (ev ik (by kernel_rfl)) rfl (dD (ev ik (by kernel_rfl)) rfl (dD (ev ik (by kernel_rfl)) rfl (dD (ev ik (by kernel_rfl)) rfl (dD (ev ik (by kernel_rfl)) rfl (dD (ev ik (by kernel_rfl)) rfl (dD (ev ik (by kernel_rfl)) rfl (dD (ev ik (by kernel_rfl)) rfl (dD (ev ik (by kernel_rfl)) rfl (dD (ev ik (by kernel_rfl)) rfl (EE))))))))))))))))))))))))))))))
def Yw:Tryz.prog.globalNamed "bowsprit/catalog.kinds" =some 0:=by kernel_rfl
def Ys:(Tryz.prog.globals[0]?).map (·.type)=some 227:=by kernel_rfl
set_option maxRecDepth 100000 in
def Yu(W:World):Un aO W false 227 Rows.laid_bowsprit_catalog_kinds [.string ⟨([98,111,111,108]:List UInt8).toArray⟩,.int .i64 (1),.string ⟨([105,110,116]:List UInt8).toArray⟩,.int .i64 (2),.string ⟨([116,101,120,116]:List UInt8).toArray⟩,.int .i64 (3)]:=Mi Tryz.underlying227 (by kernel_rfl) (by rw [show Tryz.prog.cellsOf 226=2 from by kernel_rfl];exact(show FC _ _ _ 0 [(226,0),(226,2),(226,4)] _ _ from dD (yO (l:=[(9,0),(3,1)]) (by kernel_rfl) (by kernel_rfl) (dD (ev ik (by kernel_rfl)) rfl (dD (Ha vQ (by kernel_rfl)) rfl (EE)))) rfl (dD (yO (l:=[(9,0),(3,1)]) (by kernel_rfl) (by kernel_rfl) (dD (ev ik (by kernel_rfl)) rfl (dD (Ha vQ (by kernel_rfl)) rfl (EE)))) rfl (dD (yO (l:=[(9,0),(3,1)]) (by kernel_rfl) (by kernel_rfl) (dD (ev ik (by kernel_rfl)) rfl (dD (Ha vQ (by kernel_rfl)) rfl (EE)))) rfl (EE)))))
set_option maxRecDepth 100000 in
def Rf(os:Os)(args:Array Value):laidMetH aO Af ((World.laidAll aO os Af).forCall (fun _ _=>0) ⟨#[],args,[]⟩).memory:=by
 rw [MakeChecks.laidMetH_plain _ _ _ (by kernel_rfl)]
 exact laidMet_laidAll _ (by kernel_rfl) (by kernel_rfl)
def OP{W:World}(h:laidMetH aO Af W): ∀p∈glob,∃c T fr,W.heap[p.1]? =some (.cells c T fr)/\c.toList.take p.2.length=p.2:=by
 rw [MakeChecks.laidMetH_plain _ _ _ (by kernel_rfl)]at h
 intro p hp
 simp only [glob,eW,List.not_mem_nil,or_false]at hp
 rcases hp with rfl|rfl
 ·exact Al h (ma _ (ma _ (lL ..))) Yw Ys (Yu W)
 ·exact Al h (ma _ (lL ..)) Yv Yr (Yt W)
def X1:Go.Proofs.CaseExtra aO mj:=⟨by kernel_rfl,by kernel_rfl,by kernel_rfl,by kernel_rfl,by kernel_rfl,by kernel_rfl⟩
def u8X:Go.Proofs.U8Extra aO mj:=⟨by kernel_rfl,by kernel_rfl,by kernel_rfl,by kernel_rfl,by kernel_rfl,by kernel_rfl,by kernel_rfl⟩
def Pf:(Rows.laid_unicode_utf8_acceptRanges:DataW Unit)=acceptData:=by kernel_rfl
def PS{W:World}(h:laidMetH aO Af W):N2 W:=by
 rw [MakeChecks.laidMetH_plain _ _ _ (by kernel_rfl)]at h
 have A:VarReads aO W "unicode.CaseRanges" caseData:=Pinned.caseRanges_eq▸Lib.laidMet.reads h (ma _ (ma _ (ma _ (lL ..))))
 have D:VarReads aO W "unicode/utf8.first" firstData:=Pinned.utf8First_eq▸Lib.laidMet.reads h (ma _ (ma _ (ma _ (ma _ (lL ..)))))
 have h3:VarReads aO W "unicode/utf8.acceptRanges" acceptData:=Pf▸Lib.laidMet.reads h (lL ..)
 exact⟨caseVar_of_reads {tP with} (by kernel_rfl) X1 A,utf8Tabs_of_readsT {tP with} u8X D h3⟩
def PR{W:World}(h:laidMetH aO Af W): ∀w' :World,(∀(b:Nat) (o:Obj),W.heap[b]? =some o-> ∃o',w'.heap[b]? =some o' /\Fh o o')->N2 w' :=fun _ hle=>⟨JZ hle (PS h).1,H7 hle (PS h).2⟩
end Go.Proofs.YthbdkceckjihgaaGreatDoor

