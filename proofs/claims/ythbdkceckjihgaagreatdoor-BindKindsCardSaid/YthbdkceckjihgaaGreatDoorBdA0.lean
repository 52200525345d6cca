/- cm of this claim: A0. -/
import Derived.Test.YthbdkceckjihgaaGreatDoorRows
import Derived.Test.YthbdkceckjihgaaGreatDoorBdT
import Derived.Test.YthbdkceckjihgaaGreatDoorBdV3
import Derived.Lay
import Derived.Lib.LaidU8T
import Derived.PinnedBridge
import Derived.Test.YthbdkceckjihgaaGreatDoorBdV4
import Derived.ProofKit
import Derived.SevenTiedAt
set_option linter.all false
namespace Go.Proofs.YthbdkceckjihgaaGreatDoor
open Go Go.Lib Go.Shelf Go.Proofs Go.ChangeShapes Go.WideShapes Go.ChangeAt Go.RowKit

def Tn:ownKnob Tryz.prog.godebug=none:=by kernel_rfl
def QM:laidOutB aQ=true:=by kernel_rfl
def Ce{hb:Type}(enc:TypeId×Value->hb)(W:World):ug enc aQ W 9 (uQ rS BC):=NY hY (by kernel_rfl)
def G6{hb:Type}(enc:TypeId×Value->hb)(W:World):ug enc aQ W 3 (uQ (rI .i64) (Bj .i64)):=Cd uv (by kernel_rfl)
def EM(x:bp):Prop:=BC x.Name/\(Bj .i64) x.Kind
def vD:Rp bp:=iT (bC (uQ rS BC) (uQ (rI .i64) (Bj .i64))) (fun x=>(x.Name,x.Kind))
def Jm:Dx vD cj EM:=mF (ee iR iR)
def Tc{hb:Type}(enc:TypeId×Value->hb)(W:World):ug enc aQ W 113 vD:=gR (l:=[(9,0),(3,1)]) (by kernel_rfl) (by kernel_rfl) (fun y=>⟨⟨y.1,y.2⟩,rfl⟩) (dw (Ce enc W) rfl (kA (G6 enc W)))
def Te{hb:Type}(enc:TypeId×Value->hb)(W:World):ug enc aQ W 108 (eF vD):=mE ra (by kernel_rfl) rfl (Tc enc W)
def UZ{hb:Type}(enc:TypeId×Value->hb)(W:World):ug enc aQ W 35 (eF (uQ (rI .i64) (Bj .i64))):=mE f8 (by kernel_rfl) rfl (G6 enc W)
def HJ(x:bH):Prop:=BC x.Name/\(Qc EM) x.Columns/\(Qc (Bj .i64)) x.Keys
def yj:Rp bH:=iT (bC (uQ rS BC) (bC (eF vD) (eF (uQ (rI .i64) (Bj .i64))))) (fun x=>(x.Name,x.Columns,x.Keys))
def My:Dx yj cA HJ:=mF (ee iR (ee (s0 Jm) (s0 iR)))
def Td{hb:Type}(enc:TypeId×Value->hb)(W:World):ug enc aQ W 110 yj:=gR (l:=[(9,0),(108,1),(35,2)]) (by kernel_rfl) (by kernel_rfl) (fun y=>⟨⟨y.1,y.2.1,y.2.2⟩,rfl⟩) (dw (Ce enc W) rfl (dw (Te enc W) rfl (kA (UZ enc W))))
def U4{hb:Type}(enc:TypeId×Value->hb)(W:World):ug enc aQ W 22 (eF yj):=mE sS (by kernel_rfl) rfl (Td enc W)
def Jz(x:au):Prop:=(Qc HJ) x.Tables
def Cu:Rp au:=iT (eF yj) (fun x=>(x.Tables))
def Hw:Dx Cu bq Jz:=mF (s0 My)
def U3{hb:Type}(enc:TypeId×Value->hb)(W:World):ug enc aQ W 24 Cu:=gR (l:=[(22,0)]) (by kernel_rfl) (by kernel_rfl) (fun y=>⟨⟨y⟩,rfl⟩) (kA (U4 enc W))
def Qp{hb:Type}(enc:TypeId×Value->hb)(W:World):ug enc aQ W 4 (uQ rB Qb):=Md Sg (by kernel_rfl)
def WS{hb:Type}(enc:TypeId×Value->hb)(W:World):ug enc aQ W 2 (uQ (rI .i64) (Bj .i64)):=Cd Tryz.underlying2 (by kernel_rfl)
def Tg{hb:Type}(enc:TypeId×Value->hb)(W:World):ug enc aQ W 102 (uQ (rI .u64) (Bj .u64)):=Cd Tryz.underlying102 (by kernel_rfl)
def HI(x:bZ):Prop:=(Bj .i64) x.Kind/\(Bj .i64) x.N/\(Bj .u64) x.U/\BC x.S
def Ct:Rp bZ:=iT (bC (uQ (rI .i64) (Bj .i64)) (bC (uQ (rI .i64) (Bj .i64)) (bC (uQ (rI .u64) (Bj .u64)) (uQ rS BC)))) (fun x=>(x.Kind,x.N,x.U,x.S))
def Mx:Dx Ct dH HI:=mF (ee iR (ee iR (ee iR iR)))
def Tf{hb:Type}(enc:TypeId×Value->hb)(W:World):ug enc aQ W 104 Ct:=gR (l:=[(3,0),(2,1),(102,2),(9,3)]) (by kernel_rfl) (by kernel_rfl) (fun y=>⟨⟨y.1,y.2.1,y.2.2.1,y.2.2.2⟩,rfl⟩) (dw (G6 enc W) rfl (dw (WS enc W) rfl (dw (Tg enc W) rfl (kA (Ce enc W)))))
def K9(x:cw):Prop:=(Bj .i64) x.Tag/\(Bj .i64) x.L/\(Bj .i64) x.R/\HI x.Value/\BC x.Table/\BC x.Name
def Bv:Rp cw:=iT (bC (uQ (rI .i64) (Bj .i64)) (bC (uQ (rI .i64) (Bj .i64)) (bC (uQ (rI .i64) (Bj .i64)) (bC Ct (bC (uQ rS BC) (uQ rS BC)))))) (fun x=>(x.Tag,x.L,x.R,x.Value,x.Table,x.Name))
def Ot:Dx Bv cz K9:=mF (ee iR (ee iR (ee iR (ee Mx (ee iR iR)))))
def Tb{hb:Type}(enc:TypeId×Value->hb)(W:World):ug enc aQ W 162 Bv:=gR (l:=[(3,0),(3,1),(3,2),(104,3),(9,7),(9,8)]) (by kernel_rfl) (by kernel_rfl) (fun y=>⟨⟨y.1,y.2.1,y.2.2.1,y.2.2.2.1,y.2.2.2.2.1,y.2.2.2.2.2⟩,rfl⟩) (dw (G6 enc W) rfl (dw (G6 enc W) rfl (dw (G6 enc W) rfl (dw (Tf enc W) rfl (dw (Ce enc W) rfl (kA (Ce enc W)))))))
def UW{hb:Type}(enc:TypeId×Value->hb)(W:World):ug enc aQ W 50 (eF Bv):=mE sr (by kernel_rfl) rfl (Tb enc W)
def yp(x:cy):Prop:=(Qc K9) x.Nodes
def vA:Rp cy:=iT (eF Bv) (fun x=>(x.Nodes))
def yk:Dx vA bt yp:=mF (s0 Ot)
def KN{hb:Type}(enc:TypeId×Value->hb)(W:World):ug enc aQ W 52 vA:=gR (l:=[(50,0)]) (by kernel_rfl) (by kernel_rfl) (fun y=>⟨⟨y⟩,rfl⟩) (kA (UW enc W))
def Lc(x:eG):Prop:=yp x.Tree/\BC x.As
def By:Rp eG:=iT (bC vA (uQ rS BC)) (fun x=>(x.Tree,x.As))
def Ow:Dx By dC Lc:=mF (ee yk iR)
def UR{hb:Type}(enc:TypeId×Value->hb)(W:World):ug enc aQ W 88 By:=gR (l:=[(52,0),(9,1)]) (by kernel_rfl) (by kernel_rfl) (fun y=>⟨⟨y.1,y.2⟩,rfl⟩) (dw (KN enc W) rfl (kA (Ce enc W)))
def UY{hb:Type}(enc:TypeId×Value->hb)(W:World):ug enc aQ W 46 (eF By):=mE sU (by kernel_rfl) rfl (UR enc W)
def zO(x:dj):Prop:=BC x.Table/\BC x.As
def vB:Rp dj:=iT (bC (uQ rS BC) (uQ rS BC)) (fun x=>(x.Table,x.As))
def Cy:Dx vB gc zO:=mF (ee iR iR)
def Sk{hb:Type}(enc:TypeId×Value->hb)(W:World):ug enc aQ W 48 vB:=gR (l:=[(9,0),(9,1)]) (by kernel_rfl) (by kernel_rfl) (fun y=>⟨⟨y.1,y.2⟩,rfl⟩) (dw (Ce enc W) rfl (kA (Ce enc W)))
def Lb(x:lT):Prop:=Qb x.Left/\zO x.Source/\yp x.On
def Bx:Rp lT:=iT (bC (uQ rB Qb) (bC vB vA)) (fun x=>(x.Left,x.Source,x.On))
def Ov:Dx Bx eZ Lb:=mF (ee iR (ee Cy yk))
def US{hb:Type}(enc:TypeId×Value->hb)(W:World):ug enc aQ W 86 Bx:=gR (l:=[(4,0),(48,1),(52,3)]) (by kernel_rfl) (by kernel_rfl) (fun y=>⟨⟨y.1,y.2.1,y.2.2⟩,rfl⟩) (dw (Qp enc W) rfl (dw (Sk enc W) rfl (kA (KN enc W))))
def UX{hb:Type}(enc:TypeId×Value->hb)(W:World):ug enc aQ W 49 (eF Bx):=mE zi (by kernel_rfl) rfl (US enc W)
def La(x:iN):Prop:=BC x.Table/\BC x.Name
def Bw:Rp iN:=iT (bC (uQ rS BC) (uQ rS BC)) (fun x=>(x.Table,x.Name))
def Ou:Dx Bw eH La:=mF (ee iR iR)
def UQ{hb:Type}(enc:TypeId×Value->hb)(W:World):ug enc aQ W 91 Bw:=gR (l:=[(9,0),(9,1)]) (by kernel_rfl) (by kernel_rfl) (fun y=>⟨⟨y.1,y.2⟩,rfl⟩) (dw (Ce enc W) rfl (kA (Ce enc W)))
def UV{hb:Type}(enc:TypeId×Value->hb)(W:World):ug enc aQ W 53 (eF Bw):=mE BN (by kernel_rfl) rfl (UQ enc W)
def EL(x:ay):Prop:=Qb x.Distinct/\Qb x.Star/\(Qc Lc) x.Items/\zO x.From/\(Qc Lb) x.Joins/\yp x.Where/\yp x.Having/\(Qc La) x.Group
def vC:Rp ay:=iT (bC (uQ rB Qb) (bC (uQ rB Qb) (bC (eF By) (bC vB (bC (eF Bx) (bC vA (bC vA (eF Bw)))))))) (fun x=>(x.Distinct,x.Star,x.Items,x.From,x.Joins,x.Where,x.Having,x.Group))
def Jl:Dx vC bb EL:=mF (ee iR (ee iR (ee (s0 Ow) (ee Cy (ee (s0 Ov) (ee yk (ee yk (s0 Ou))))))))
def UU{hb:Type}(enc:TypeId×Value->hb)(W:World):ug enc aQ W 55 vC:=gR (l:=[(4,0),(4,1),(46,2),(48,3),(49,5),(52,6),(52,7),(53,8)]) (by kernel_rfl) (by kernel_rfl) (fun y=>⟨⟨y.1,y.2.1,y.2.2.1,y.2.2.2.1,y.2.2.2.2.1,y.2.2.2.2.2.1,y.2.2.2.2.2.2.1,y.2.2.2.2.2.2.2⟩,rfl⟩) (dw (Qp enc W) rfl (dw (Qp enc W) rfl (dw (UY enc W) rfl (dw (Sk enc W) rfl (dw (UX enc W) rfl (dw (KN enc W) rfl (dw (KN enc W) rfl (kA (UV enc W)))))))))
def U2{hb:Type}(enc:TypeId×Value->hb)(W:World):ug enc aQ W 28 (eF vC):=mE wK (by kernel_rfl) rfl (UU enc W)
def OK(x:tW):Prop:=BC x.Name/\(Bj .i64) x.Number/\Qb x.Desc
def FV:Rp tW:=iT (bC (uQ rS BC) (bC (uQ (rI .i64) (Bj .i64)) (uQ rB Qb))) (fun x=>(x.Name,x.Number,x.Desc))
def QC:Dx FV jg OK:=mF (ee iR (ee iR iR))
def UT{hb:Type}(enc:TypeId×Value->hb)(W:World):ug enc aQ W 57 FV:=gR (l:=[(9,0),(3,1),(4,2)]) (by kernel_rfl) (by kernel_rfl) (fun y=>⟨⟨y.1,y.2.1,y.2.2⟩,rfl⟩) (dw (Ce enc W) rfl (dw (G6 enc W) rfl (kA (Qp enc W))))
def U1{hb:Type}(enc:TypeId×Value->hb)(W:World):ug enc aQ W 29 (eF FV):=mE A5 (by kernel_rfl) rfl (UT enc W)
def OJ(x:bD):Prop:=(Qc EL) x.Selects/\(Qc OK) x.Keys/\(Bj .i64) x.Limit
def Hv:Rp bD:=iT (bC (eF vC) (bC (eF FV) (uQ (rI .i64) (Bj .i64)))) (fun x=>(x.Selects,x.Keys,x.Limit))
def Mz:Dx Hv bI OJ:=mF (ee (s0 Jl) (ee (s0 QC) iR))
def U0{hb:Type}(enc:TypeId×Value->hb)(W:World):ug enc aQ W 31 Hv:=gR (l:=[(28,0),(29,1),(3,2)]) (by kernel_rfl) (by kernel_rfl) (fun y=>⟨⟨y.1,y.2.1,y.2.2⟩,rfl⟩) (dw (U2 enc W) rfl (dw (U1 enc W) rfl (kA (G6 enc W))))
def eB{a b:Bool}(h:a=true)(k:b=true):(a&&b)=true:=by rw [h,k];rfl
def vF:(laidOutB Tryz.pinned.checked.prog)=true/\(mapsRowed Tryz.pinned.checked.prog)=true/\((Tryz.pinned.checked.prog.stops==[]))=true/\((Tryz.pinned.checked.prog.stopKnobs==[]))=true/\(Tryz.pinned.checked.prog.stopsHeard)=true/\(Tryz.pinned.checked.prog.mayEnter)=true:=by
 have h:((laidOutB Tryz.pinned.checked.prog)&&((mapsRowed Tryz.pinned.checked.prog)&&(((Tryz.pinned.checked.prog.stops==[]))&&(((Tryz.pinned.checked.prog.stopKnobs==[]))&&((Tryz.pinned.checked.prog.stopsHeard)&&((Tryz.pinned.checked.prog.mayEnter)))))))=true:=by kernel_rfl
 simpa only [gM] using h
def QE:Tryz.pinned.checked.prog.mainIs=some (true,("994ba46e7a82f8141f915d9f3da3b6056a2eae399341bbf3229131cb61b0b052" :String).toList):=by kernel_rfl
def Oy:false=Tryz.pinned.checked.prog.looks []:=by kernel_rfl
def yu:List (String×DataW Unit):=[("unicode/utf8.acceptRanges",Rows.laid_unicode_utf8_acceptRanges),("bowsprit/lex.words",Rows.laid_bowsprit_lex_words),("bowsprit/catalog.kinds",Rows.laid_bowsprit_catalog_kinds),("unicode.CaseRanges",Rows.laid_unicode_CaseRanges),("unicode/utf8.first",Rows.laid_unicode_utf8_first)]
def Xe:Tryz.prog.globalNamed "bowsprit/lex.words" =some 1:=by kernel_rfl
def Xa:(Tryz.prog.globals[1]?).map (·.type)=some 228:=by kernel_rfl
set_option maxRecDepth 100000 in
def Xc(W:World):SP aQ W false 228 Rows.laid_bowsprit_lex_words [.string ⟨([83,69,76,69,67,84]:List UInt8).toArray⟩,.string ⟨([68,73,83,84,73,78,67,84]:List UInt8).toArray⟩,.string ⟨([70,82,79,77]:List UInt8).toArray⟩,.string ⟨([76,69,70,84]:List UInt8).toArray⟩,.string ⟨([74,79,73,78]:List UInt8).toArray⟩,.string ⟨([79,78]:List UInt8).toArray⟩,.string ⟨([87,72,69,82,69]:List UInt8).toArray⟩,.string ⟨([71,82,79,85,80]:List UInt8).toArray⟩,.string ⟨([66,89]:List UInt8).toArray⟩,.string ⟨([72,65,86,73,78,71]:List UInt8).toArray⟩,.string ⟨([85,78,73,79,78]:List UInt8).toArray⟩,.string ⟨([65,76,76]:List UInt8).toArray⟩,.string ⟨([79,82,68,69,82]:List UInt8).toArray⟩,.string ⟨([76,73,77,73,84]:List UInt8).toArray⟩,.string ⟨([65,83,67]:List UInt8).toArray⟩,.string ⟨([68,69,83,67]:List UInt8).toArray⟩,.string ⟨([65,83]:List UInt8).toArray⟩,.string ⟨([65,78,68]:List UInt8).toArray⟩,.string ⟨([79,82]:List UInt8).toArray⟩,.string ⟨([78,79,84]:List UInt8).toArray⟩,.string ⟨([73,83]:List UInt8).toArray⟩,.string ⟨([78,85,76,76]:List UInt8).toArray⟩,.string ⟨([84,82,85,69]:List UInt8).toArray⟩,.string ⟨([70,65,76,83,69]:List UInt8).toArray⟩,.string ⟨([67,79,85,78,84]:List UInt8).toArray⟩,.string ⟨([83,85,77]:List UInt8).toArray⟩,.string ⟨([77,73,78]:List UInt8).toArray⟩,.string ⟨([77,65,88]:List UInt8).toArray⟩]:=KO Tryz.underlying228 (by kernel_rfl) (by rw [show Tryz.prog.cellsOf 9=1 from by kernel_rfl];exact(show FC _ _ _ 0 [(9,0),(9,1),(9,2),(9,3),(9,4),(9,5),(9,6),(9,7),(9,8),(9,9),(9,10),(9,11),(9,12),(9,13),(9,14),(9,15),(9,16),(9,17),(9,18),(9,19),(9,20),(9,21),(9,22),(9,23),(9,24),(9,25),(9,26),(9,27)] _ _ from dD (ez hY (by kernel_rfl)) rfl (dD (ez hY (by kernel_rfl)) rfl (dD (ez hY (by kernel_rfl)) rfl (dD (ez hY (by kernel_rfl)) rfl (dD (ez hY (by kernel_rfl)) rfl (dD (ez hY (by kernel_rfl)) rfl (dD (ez hY (by kernel_rfl)) rfl (dD (ez hY (by kernel_rfl)) rfl (dD (ez hY (by kernel_rfl)) rfl (dD (ez hY (by kernel_rfl)) rfl (dD (ez hY (by kernel_rfl)) rfl (dD (ez hY (by kernel_rfl)) rfl (dD (ez hY (by kernel_rfl)) rfl (dD (ez hY (by kernel_rfl)) rfl (dD (ez hY (by kernel_rfl)) rfl (dD (ez hY (by kernel_rfl)) rfl (dD (ez hY (by kernel_rfl)) rfl (dD (ez hY (by kernel_rfl)) rfl (dD (ez hY (by kernel_rfl)) rfl (dD (ez hY (by kernel_rfl)) rfl (dD (ez hY (by kernel_rfl)) rfl (dD (ez hY (by kernel_rfl)) rfl (dD (ez hY (by kernel_rfl)) rfl (dD (ez hY (by kernel_rfl)) rfl (dD (ez hY (by kernel_rfl)) rfl (dD (ez hY (by kernel_rfl)) rfl (dD (ez hY (by kernel_rfl)) rfl (dD (ez hY (by kernel_rfl)) rfl (Dc))))))))))))))))))))))))))))))
def Xf:Tryz.prog.globalNamed "bowsprit/catalog.kinds" =some 0:=by kernel_rfl
def Xb:(Tryz.prog.globals[0]?).map (·.type)=some 227:=by kernel_rfl
set_option maxRecDepth 100000 in
def Xd(W:World):SP aQ W false 227 Rows.laid_bowsprit_catalog_kinds [.string ⟨([98,111,111,108]:List UInt8).toArray⟩,.int .i64 (1),.string ⟨([105,110,116]:List UInt8).toArray⟩,.int .i64 (2),.string ⟨([116,101,120,116]:List UInt8).toArray⟩,.int .i64 (3)]:=KO Tryz.underlying227 (by kernel_rfl) (by rw [show Tryz.prog.cellsOf 226=2 from by kernel_rfl];exact(show FC _ _ _ 0 [(226,0),(226,2),(226,4)] _ _ from dD (wS (l:=[(9,0),(3,1)]) (by kernel_rfl) (by kernel_rfl) (dD (ez hY (by kernel_rfl)) rfl (dD (FH uv (by kernel_rfl)) rfl (Dc)))) rfl (dD (wS (l:=[(9,0),(3,1)]) (by kernel_rfl) (by kernel_rfl) (dD (ez hY (by kernel_rfl)) rfl (dD (FH uv (by kernel_rfl)) rfl (Dc)))) rfl (dD (wS (l:=[(9,0),(3,1)]) (by kernel_rfl) (by kernel_rfl) (dD (ez hY (by kernel_rfl)) rfl (dD (FH uv (by kernel_rfl)) rfl (Dc)))) rfl (Dc)))))
set_option maxRecDepth 100000 in
def Pu(os:Os)(args:Array Value):laidMetH aQ yu ((World.laidAll aQ os yu).forCall (fun _ _=>0) ⟨#[],args,[]⟩).memory:=by
 rw [MakeChecks.laidMetH_plain _ _ _ (by kernel_rfl)]
 exact laidMet_laidAll _ (by kernel_rfl) (by kernel_rfl)
def MY{W:World}(h:laidMetH aQ yu W): ∀p∈glob,∃c T fr,W.heap[p.1]? =some (.cells c T fr)/\c.toList.take p.2.length=p.2:=by
 rw [MakeChecks.laidMetH_plain _ _ _ (by kernel_rfl)]at h
 intro p hp
 simp only [glob,lK,List.not_mem_nil,or_false]at hp
 rcases hp with rfl|rfl
 ·exact yC h (lH _ (lH _ (ln ..))) Xf Xb (Xd W)
 ·exact yC h (lH _ (ln ..)) Xe Xa (Xc W)
def WC:Go.Proofs.CaseExtra aQ lS:=⟨by kernel_rfl,by kernel_rfl,by kernel_rfl,by kernel_rfl,by kernel_rfl,by kernel_rfl⟩
def u8X:Go.Proofs.U8Extra aQ lS:=⟨by kernel_rfl,by kernel_rfl,by kernel_rfl,by kernel_rfl,by kernel_rfl,by kernel_rfl,by kernel_rfl⟩
def Nt:(Rows.laid_unicode_utf8_acceptRanges:DataW Unit)=acceptData:=by kernel_rfl
def N5{W:World}(h:laidMetH aQ yu W):Mh W:=by
 rw [MakeChecks.laidMetH_plain _ _ _ (by kernel_rfl)]at h
 have A:VarReads aQ W "unicode.CaseRanges" caseData:=Pinned.caseRanges_eq▸Lib.laidMet.reads h (lH _ (lH _ (lH _ (ln ..))))
 have V:VarReads aQ W "unicode/utf8.first" firstData:=Pinned.utf8First_eq▸Lib.laidMet.reads h (lH _ (lH _ (lH _ (lH _ (ln ..)))))
 have h3:VarReads aQ W "unicode/utf8.acceptRanges" acceptData:=Nt▸Lib.laidMet.reads h (ln ..)
 exact⟨caseVar_of_reads {sl with} (by kernel_rfl) WC A,utf8Tabs_of_readsT {sl with} u8X V h3⟩
def N4{W:World}(h:laidMetH aQ yu W): ∀w' :World,(∀(b:Nat) (o:Obj),W.heap[b]? =some o-> ∃o',w'.heap[b]? =some o' /\DO o o')->Mh w' :=fun _ hle=>⟨IK hle (N5 h).1,GG hle (N5 h).2⟩
end Go.Proofs.YthbdkceckjihgaaGreatDoor

