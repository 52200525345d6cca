/- dm of this claim: A0. -/
import Derived.Test.YthbdkceckjihgaaGreatDoorRows
import Derived.Test.YthbdkceckjihgaaGreatDoorBcT
import Derived.Test.YthbdkceckjihgaaGreatDoorBcV3
import Derived.Lay
import Derived.Lib.LaidU8T
import Derived.PinnedBridge
import Derived.Test.YthbdkceckjihgaaGreatDoorBcV4
import Derived.ProofKit
import Derived.SevenTiedAt
set_option linter.all false
namespace Go.Proofs.YthbdkceckjihgaaGreatDoor
open Go Go.Lib Go.Shelf Go.Proofs Go.ChangeShapes Go.WideShapes Go.ChangeAt Go.RowKit

def X9:ownKnob Tryz.prog.godebug=none:=by kernel_rfl
def Vb:laidOutB bd=true:=by kernel_rfl
def Ga{h1:Type}(enc:TypeId×Value->h1)(W:World):xJ enc bd W 9 (zG rS Fz):=Sx nG (by kernel_rfl)
def K7{h1:Type}(enc:TypeId×Value->h1)(W:World):xJ enc bd W 3 (zG (rI .i64) (Fc .i64)):=F9 vy (by kernel_rfl)
def I3(x:cb):Prop:=Fz x.Name/\(Fc .i64) x.Kind
def Ap:Rp cb:=kg (cn (zG rS Fz) (zG (rI .i64) (Fc .i64))) (fun x=>(x.Name,x.Kind))
def NC:FL Ap cQ I3:=pT (fC kS kS)
def XY{h1:Type}(enc:TypeId×Value->h1)(W:World):xJ enc bd W 113 Ap:=j0 (l:=[(9,0),(3,1)]) (by kernel_rfl) (by kernel_rfl) (fun y=>⟨⟨y.1,y.2⟩,rfl⟩) (eE (Ga enc W) rfl (nq (K7 enc W)))
def X0{h1:Type}(enc:TypeId×Value->h1)(W:World):xJ enc bd W 108 (eM Ap):=oE ol (by kernel_rfl) rfl (XY enc W)
def ZO{h1:Type}(enc:TypeId×Value->h1)(W:World):xJ enc bd W 35 (eM (zG (rI .i64) (Fc .i64))):=oE fH (by kernel_rfl) rfl (K7 enc W)
def LQ(x:bU):Prop:=Fz x.Name/\(UG I3) x.Columns/\(UG (Fc .i64)) x.Keys
def CN:Rp bU:=kg (cn (zG rS Fz) (cn (eM Ap) (eM (zG (rI .i64) (Fc .i64))))) (fun x=>(x.Name,x.Columns,x.Keys))
def Rg:FL CN cv LQ:=pT (fC kS (fC (xc NC) (xc kS)))
def XZ{h1:Type}(enc:TypeId×Value->h1)(W:World):xJ enc bd W 110 CN:=j0 (l:=[(9,0),(108,1),(35,2)]) (by kernel_rfl) (by kernel_rfl) (fun y=>⟨⟨y.1,y.2.1,y.2.2⟩,rfl⟩) (eE (Ga enc W) rfl (eE (X0 enc W) rfl (nq (ZO enc W))))
def ZU{h1:Type}(enc:TypeId×Value->h1)(W:World):xJ enc bd W 22 (eM CN):=oE qp (by kernel_rfl) rfl (XZ enc W)
def NT(x:aJ):Prop:=(UG LQ) x.Tables
def Gy:Rp aJ:=kg (eM CN) (fun x=>(x.Tables))
def LD:FL Gy bG NT:=pT (xc Rg)
def ZT{h1:Type}(enc:TypeId×Value->h1)(W:World):xJ enc bd W 24 Gy:=j0 (l:=[(22,0)]) (by kernel_rfl) (by kernel_rfl) (fun y=>⟨⟨y⟩,rfl⟩) (nq (ZU enc W))
def US{h1:Type}(enc:TypeId×Value->h1)(W:World):xJ enc bd W 4 (zG rB UF):=QY FR (by kernel_rfl)
def ab2{h1:Type}(enc:TypeId×Value->h1)(W:World):xJ enc bd W 2 (zG (rI .i64) (Fc .i64)):=F9 Tryz.underlying2 (by kernel_rfl)
def X2{h1:Type}(enc:TypeId×Value->h1)(W:World):xJ enc bd W 102 (zG (rI .u64) (Fc .u64)):=F9 Tryz.underlying102 (by kernel_rfl)
def LP(x:cJ):Prop:=(Fc .i64) x.Kind/\(Fc .i64) x.N/\(Fc .u64) x.U/\Fz x.S
def Gw:Rp cJ:=kg (cn (zG (rI .i64) (Fc .i64)) (cn (zG (rI .i64) (Fc .i64)) (cn (zG (rI .u64) (Fc .u64)) (zG rS Fz)))) (fun x=>(x.Kind,x.N,x.U,x.S))
def Rf:FL Gw ek LP:=pT (fC kS (fC kS (fC kS kS)))
def X1{h1:Type}(enc:TypeId×Value->h1)(W:World):xJ enc bd W 104 Gw:=j0 (l:=[(3,0),(2,1),(102,2),(9,3)]) (by kernel_rfl) (by kernel_rfl) (fun y=>⟨⟨y.1,y.2.1,y.2.2.1,y.2.2.2⟩,rfl⟩) (eE (K7 enc W) rfl (eE (ab2 enc W) rfl (eE (X2 enc W) rfl (nq (Ga enc W)))))
def PC(x:dj):Prop:=(Fc .i64) x.Tag/\(Fc .i64) x.L/\(Fc .i64) x.R/\LP x.Value/\Fz x.Table/\Fz x.Name
def Fs:Rp dj:=kg (cn (zG (rI .i64) (Fc .i64)) (cn (zG (rI .i64) (Fc .i64)) (cn (zG (rI .i64) (Fc .i64)) (cn Gw (cn (zG rS Fz) (zG rS Fz)))))) (fun x=>(x.Tag,x.L,x.R,x.Value,x.Table,x.Name))
def SP:FL Fs dd PC:=pT (fC kS (fC kS (fC kS (fC Rf (fC kS kS)))))
def XX{h1:Type}(enc:TypeId×Value->h1)(W:World):xJ enc bd W 162 Fs:=j0 (l:=[(3,0),(3,1),(3,2),(104,3),(9,7),(9,8)]) (by kernel_rfl) (by kernel_rfl) (fun y=>⟨⟨y.1,y.2.1,y.2.2.1,y.2.2.2.1,y.2.2.2.2.1,y.2.2.2.2.2⟩,rfl⟩) (eE (K7 enc W) rfl (eE (K7 enc W) rfl (eE (K7 enc W) rfl (eE (X1 enc W) rfl (eE (Ga enc W) rfl (nq (Ga enc W)))))))
def ZL{h1:Type}(enc:TypeId×Value->h1)(W:World):xJ enc bd W 50 (eM Fs):=oE nb (by kernel_rfl) rfl (XX enc W)
def CW(x:db):Prop:=(UG PC) x.Nodes
def Am:Rp db:=kg (eM Fs) (fun x=>(x.Nodes))
def CO:FL Am bD CW:=pT (xc SP)
def Pg{h1:Type}(enc:TypeId×Value->h1)(W:World):xJ enc bd W 52 Am:=j0 (l:=[(50,0)]) (by kernel_rfl) (by kernel_rfl) (fun y=>⟨⟨y⟩,rfl⟩) (nq (ZL enc W))
def PF(x:fK):Prop:=CW x.Tree/\Fz x.As
def Fv:Rp fK:=kg (cn Am (zG rS Fz)) (fun x=>(x.Tree,x.As))
def SS:FL Fv d5 PF:=pT (fC CO kS)
def ZG{h1:Type}(enc:TypeId×Value->h1)(W:World):xJ enc bd W 88 Fv:=j0 (l:=[(52,0),(9,1)]) (by kernel_rfl) (by kernel_rfl) (fun y=>⟨⟨y.1,y.2⟩,rfl⟩) (eE (Pg enc W) rfl (nq (Ga enc W)))
def ZN{h1:Type}(enc:TypeId×Value->h1)(W:World):xJ enc bd W 46 (eM Fv):=oE pe (by kernel_rfl) rfl (ZG enc W)
def D4(x:d7):Prop:=Fz x.Table/\Fz x.As
def An:Rp d7:=kg (cn (zG rS Fz) (zG rS Fz)) (fun x=>(x.Table,x.As))
def GC:FL An be D4:=pT (fC kS kS)
def WW{h1:Type}(enc:TypeId×Value->h1)(W:World):xJ enc bd W 48 An:=j0 (l:=[(9,0),(9,1)]) (by kernel_rfl) (by kernel_rfl) (fun y=>⟨⟨y.1,y.2⟩,rfl⟩) (eE (Ga enc W) rfl (nq (Ga enc W)))
def PE(x:mZ):Prop:=UF x.Left/\D4 x.Source/\CW x.On
def Fu:Rp mZ:=kg (cn (zG rB UF) (cn An Am)) (fun x=>(x.Left,x.Source,x.On))
def SR:FL Fu dC PE:=pT (fC kS (fC GC CO))
def ZH{h1:Type}(enc:TypeId×Value->h1)(W:World):xJ enc bd W 86 Fu:=j0 (l:=[(4,0),(48,1),(52,3)]) (by kernel_rfl) (by kernel_rfl) (fun y=>⟨⟨y.1,y.2.1,y.2.2⟩,rfl⟩) (eE (US enc W) rfl (eE (WW enc W) rfl (nq (Pg enc W))))
def ZM{h1:Type}(enc:TypeId×Value->h1)(W:World):xJ enc bd W 49 (eM Fu):=oE rD (by kernel_rfl) rfl (ZH enc W)
def PD(x:jY):Prop:=Fz x.Table/\Fz x.Name
def Ft:Rp jY:=kg (cn (zG rS Fz) (zG rS Fz)) (fun x=>(x.Table,x.Name))
def SQ:FL Ft fI PD:=pT (fC kS kS)
def ZF{h1:Type}(enc:TypeId×Value->h1)(W:World):xJ enc bd W 91 Ft:=j0 (l:=[(9,0),(9,1)]) (by kernel_rfl) (by kernel_rfl) (fun y=>⟨⟨y.1,y.2⟩,rfl⟩) (eE (Ga enc W) rfl (nq (Ga enc W)))
def ZK{h1:Type}(enc:TypeId×Value->h1)(W:World):xJ enc bd W 53 (eM Ft):=oE wj (by kernel_rfl) rfl (ZF enc W)
def I2(x:aK):Prop:=UF x.Distinct/\UF x.Star/\(UG PF) x.Items/\D4 x.From/\(UG PE) x.Joins/\CW x.Where/\CW x.Having/\(UG PD) x.Group
def Ao:Rp aK:=kg (cn (zG rB UF) (cn (zG rB UF) (cn (eM Fv) (cn An (cn (eM Fu) (cn Am (cn Am (eM Ft)))))))) (fun x=>(x.Distinct,x.Star,x.Items,x.From,x.Joins,x.Where,x.Having,x.Group))
def NB:FL Ao aW I2:=pT (fC kS (fC kS (fC (xc SS) (fC GC (fC (xc SR) (fC CO (fC CO (xc SQ))))))))
def ZJ{h1:Type}(enc:TypeId×Value->h1)(W:World):xJ enc bd W 55 Ao:=j0 (l:=[(4,0),(4,1),(46,2),(48,3),(49,5),(52,6),(52,7),(53,8)]) (by kernel_rfl) (by kernel_rfl) (fun y=>⟨⟨y.1,y.2.1,y.2.2.1,y.2.2.2.1,y.2.2.2.2.1,y.2.2.2.2.2.1,y.2.2.2.2.2.2.1,y.2.2.2.2.2.2.2⟩,rfl⟩) (eE (US enc W) rfl (eE (US enc W) rfl (eE (ZN enc W) rfl (eE (WW enc W) rfl (eE (ZM enc W) rfl (eE (Pg enc W) rfl (eE (Pg enc W) rfl (nq (ZK enc W)))))))))
def ZR{h1:Type}(enc:TypeId×Value->h1)(W:World):xJ enc bd W 28 (eM Ao):=oE tL (by kernel_rfl) rfl (ZJ enc W)
def S4(x:sC):Prop:=Fz x.Name/\(Fc .i64) x.Number/\UF x.Desc
def JU:Rp sC:=kg (cn (zG rS Fz) (cn (zG (rI .i64) (Fc .i64)) (zG rB UF))) (fun x=>(x.Name,x.Number,x.Desc))
def U3:FL JU je S4:=pT (fC kS (fC kS kS))
def ZI{h1:Type}(enc:TypeId×Value->h1)(W:World):xJ enc bd W 57 JU:=j0 (l:=[(9,0),(3,1),(4,2)]) (by kernel_rfl) (by kernel_rfl) (fun y=>⟨⟨y.1,y.2.1,y.2.2⟩,rfl⟩) (eE (Ga enc W) rfl (eE (K7 enc W) rfl (nq (US enc W))))
def ZQ{h1:Type}(enc:TypeId×Value->h1)(W:World):xJ enc bd W 29 (eM JU):=oE wZ (by kernel_rfl) rfl (ZI enc W)
def S3(x:ce):Prop:=(UG I2) x.Selects/\(UG S4) x.Keys/\(Fc .i64) x.Limit
def Gx:Rp ce:=kg (cn (eM Ao) (cn (eM JU) (zG (rI .i64) (Fc .i64)))) (fun x=>(x.Selects,x.Keys,x.Limit))
def Rh:FL Gx cw S3:=pT (fC (xc NB) (fC (xc U3) kS))
def ZP{h1:Type}(enc:TypeId×Value->h1)(W:World):xJ enc bd W 31 Gx:=j0 (l:=[(28,0),(29,1),(3,2)]) (by kernel_rfl) (by kernel_rfl) (fun y=>⟨⟨y.1,y.2.1,y.2.2⟩,rfl⟩) (eE (ZR enc W) rfl (eE (ZQ enc W) rfl (nq (K7 enc W))))
def ZS{h1:Type}(enc:TypeId×Value->h1)(W:World):xJ enc bd W 25 (eM Gx):=oE Tryz.underlying25 (by kernel_rfl) rfl (ZP enc W)
def fY{a b:Bool}(h:a=true)(k:b=true):(a&&b)=true:=by rw [h,k];rfl
def Av:(laidOutB Tryz.pinned.checked.prog)=true/\(mapsRowed Tryz.pinned.checked.prog)=true/\((Tryz.pinned.checked.prog.stops==[]))=true/\((Tryz.pinned.checked.prog.stopKnobs==[]))=true/\(Tryz.pinned.checked.prog.stopsHeard)=true/\(Tryz.pinned.checked.prog.mayEnter)=true:=by
 have h:((laidOutB Tryz.pinned.checked.prog)&&((mapsRowed Tryz.pinned.checked.prog)&&(((Tryz.pinned.checked.prog.stops==[]))&&(((Tryz.pinned.checked.prog.stopKnobs==[]))&&((Tryz.pinned.checked.prog.stopsHeard)&&((Tryz.pinned.checked.prog.mayEnter)))))))=true:=by kernel_rfl
 simpa only [jM] using h
def U4:Tryz.pinned.checked.prog.mainIs=some (true,("994ba46e7a82f8141f915d9f3da3b6056a2eae399341bbf3229131cb61b0b052" :String).toList):=by kernel_rfl
def ST:false=Tryz.pinned.checked.prog.looks []:=by kernel_rfl
def CZ:List (String×DataW Unit):=[("unicode/utf8.acceptRanges",Rows.laid_unicode_utf8_acceptRanges),("bowsprit/lex.words",Rows.laid_bowsprit_lex_words),("bowsprit/catalog.kinds",Rows.laid_bowsprit_catalog_kinds),("unicode.CaseRanges",Rows.laid_unicode_CaseRanges),("unicode/utf8.first",Rows.laid_unicode_utf8_first)]
def aca:Tryz.prog.globalNamed "bowsprit/lex.words" =some 1:=by kernel_rfl
def ab6:(Tryz.prog.globals[1]?).map (·.type)=some 228:=by kernel_rfl
set_option maxRecDepth 100000 in
def ab8(W:World):XG bd W false 228 Rows.laid_bowsprit_lex_words [.string ⟨([83,69,76,69,67,84]:List UInt8).toArray⟩,.string ⟨([68,73,83,84,73,78,67,84]:List UInt8).toArray⟩,.string ⟨([70,82,79,77]:List UInt8).toArray⟩,.string ⟨([76,69,70,84]:List UInt8).toArray⟩,.string ⟨([74,79,73,78]:List UInt8).toArray⟩,.string ⟨([79,78]:List UInt8).toArray⟩,.string ⟨([87,72,69,82,69]:List UInt8).toArray⟩,.string ⟨([71,82,79,85,80]:List UInt8).toArray⟩,.string ⟨([66,89]:List UInt8).toArray⟩,.string ⟨([72,65,86,73,78,71]:List UInt8).toArray⟩,.string ⟨([85,78,73,79,78]:List UInt8).toArray⟩,.string ⟨([65,76,76]:List UInt8).toArray⟩,.string ⟨([79,82,68,69,82]:List UInt8).toArray⟩,.string ⟨([76,73,77,73,84]:List UInt8).toArray⟩,.string ⟨([65,83,67]:List UInt8).toArray⟩,.string ⟨([68,69,83,67]:List UInt8).toArray⟩,.string ⟨([65,83]:List UInt8).toArray⟩,.string ⟨([65,78,68]:List UInt8).toArray⟩,.string ⟨([79,82]:List UInt8).toArray⟩,.string ⟨([78,79,84]:List UInt8).toArray⟩,.string ⟨([73,83]:List UInt8).toArray⟩,.string ⟨([78,85,76,76]:List UInt8).toArray⟩,.string ⟨([84,82,85,69]:List UInt8).toArray⟩,.string ⟨([70,65,76,83,69]:List UInt8).toArray⟩,.string ⟨([67,79,85,78,84]:List UInt8).toArray⟩,.string ⟨([83,85,77]:List UInt8).toArray⟩,.string ⟨([77,73,78]:List UInt8).toArray⟩,.string ⟨([77,65,88]:List UInt8).toArray⟩]:=Ph Tryz.underlying228 (by kernel_rfl) (by rw [show Tryz.prog.cellsOf 9=1 from by kernel_rfl];exact(show FC _ _ _ 0 [(9,0),(9,1),(9,2),(9,3),(9,4),(9,5),(9,6),(9,7),(9,8),(9,9),(9,10),(9,11),(9,12),(9,13),(9,14),(9,15),(9,16),(9,17),(9,18),(9,19),(9,20),(9,21),(9,22),(9,23),(9,24),(9,25),(9,26),(9,27)] _ _ from eI (fU nG (by kernel_rfl)) rfl (eI (fU nG (by kernel_rfl)) rfl (eI (fU nG (by kernel_rfl)) rfl (eI (fU nG (by kernel_rfl)) rfl (eI (fU nG (by kernel_rfl)) rfl (eI (fU nG (by kernel_rfl)) rfl (eI (fU nG (by kernel_rfl)) rfl (eI (fU nG (by kernel_rfl)) rfl (eI (fU nG (by kernel_rfl)) rfl (eI (fU nG (by kernel_rfl)) rfl (eI (fU nG (by kernel_rfl)) rfl (eI (fU nG (by kernel_rfl)) rfl (eI (fU nG (by kernel_rfl)) rfl (eI (fU nG (by kernel_rfl)) rfl (eI (fU nG (by kernel_rfl)) rfl (eI (fU nG (by kernel_rfl)) rfl (eI (fU nG (by kernel_rfl)) rfl (eI (fU nG (by kernel_rfl)) rfl (eI (fU nG (by kernel_rfl)) rfl (eI (fU nG (by kernel_rfl)) rfl (eI (fU nG (by kernel_rfl)) rfl (eI (fU nG (by kernel_rfl)) rfl (eI (fU nG (by kernel_rfl)) rfl (eI (fU nG (by kernel_rfl)) rfl (eI (fU nG (by kernel_rfl)) rfl (eI (fU nG (by kernel_rfl)) rfl (eI (fU nG (by kernel_rfl)) rfl (eI (fU nG (by kernel_rfl)) rfl (Hk))))))))))))))))))))))))))))))
def acb:Tryz.prog.globalNamed "bowsprit/catalog.kinds" =some 0:=by kernel_rfl
def ab7:(Tryz.prog.globals[0]?).map (·.type)=some 227:=by kernel_rfl
set_option maxRecDepth 100000 in
def ab9(W:World):XG bd W false 227 Rows.laid_bowsprit_catalog_kinds [.string ⟨([98,111,111,108]:List UInt8).toArray⟩,.int .i64 (1),.string ⟨([105,110,116]:List UInt8).toArray⟩,.int .i64 (2),.string ⟨([116,101,120,116]:List UInt8).toArray⟩,.int .i64 (3)]:=Ph Tryz.underlying227 (by kernel_rfl) (by rw [show Tryz.prog.cellsOf 226=2 from by kernel_rfl];exact(show FC _ _ _ 0 [(226,0),(226,2),(226,4)] _ _ from eI (BD (l:=[(9,0),(3,1)]) (by kernel_rfl) (by kernel_rfl) (eI (fU nG (by kernel_rfl)) rfl (eI (JM vy (by kernel_rfl)) rfl (Hk)))) rfl (eI (BD (l:=[(9,0),(3,1)]) (by kernel_rfl) (by kernel_rfl) (eI (fU nG (by kernel_rfl)) rfl (eI (JM vy (by kernel_rfl)) rfl (Hk)))) rfl (eI (BD (l:=[(9,0),(3,1)]) (by kernel_rfl) (by kernel_rfl) (eI (fU nG (by kernel_rfl)) rfl (eI (JM vy (by kernel_rfl)) rfl (Hk)))) rfl (Hk)))))
set_option maxRecDepth 100000 in
def TT(os:Os)(args:Array Value):laidMetH bd CZ ((World.laidAll bd os CZ).forCall (fun _ _=>0) ⟨#[],args,[]⟩).memory:=by
 rw [MakeChecks.laidMetH_plain _ _ _ (by kernel_rfl)]
 exact laidMet_laidAll _ (by kernel_rfl) (by kernel_rfl)
def RJ{W:World}(h:laidMetH bd CZ W): ∀p∈glob,∃c T fr,W.heap[p.1]? =some (.cells c T fr)/\c.toList.take p.2.length=p.2:=by
 rw [MakeChecks.laidMetH_plain _ _ _ (by kernel_rfl)]at h
 intro p hp
 simp only [glob,gn,List.not_mem_nil,or_false]at hp
 rcases hp with rfl|rfl
 ·exact C6 h (oO _ (oO _ (oh ..))) acb ab7 (ab9 W)
 ·exact C6 h (oO _ (oh ..)) aca ab6 (ab8 W)
def abV:Go.Proofs.CaseExtra bd pc:=⟨by kernel_rfl,by kernel_rfl,by kernel_rfl,by kernel_rfl,by kernel_rfl,by kernel_rfl⟩
def u8X:Go.Proofs.U8Extra bd pc:=⟨by kernel_rfl,by kernel_rfl,by kernel_rfl,by kernel_rfl,by kernel_rfl,by kernel_rfl,by kernel_rfl⟩
def R4:(Rows.laid_unicode_utf8_acceptRanges:DataW Unit)=acceptData:=by kernel_rfl
def SC{W:World}(h:laidMetH bd CZ W):QZ W:=by
 rw [MakeChecks.laidMetH_plain _ _ _ (by kernel_rfl)]at h
 have H:VarReads bd W "unicode.CaseRanges" caseData:=Pinned.caseRanges_eq▸Lib.laidMet.reads h (oO _ (oO _ (oO _ (oh ..))))
 have J:VarReads bd W "unicode/utf8.first" firstData:=Pinned.utf8First_eq▸Lib.laidMet.reads h (oO _ (oO _ (oO _ (oO _ (oh ..)))))
 have h3:VarReads bd W "unicode/utf8.acceptRanges" acceptData:=R4▸Lib.laidMet.reads h (oh ..)
 exact⟨caseVar_of_reads {xj with} (by kernel_rfl) abV H,utf8Tabs_of_readsT {xj with} u8X J h3⟩
def SB{W:World}(h:laidMetH bd CZ W): ∀w' :World,(∀(b:Nat) (o:Obj),W.heap[b]? =some o-> ∃o',w'.heap[b]? =some o' /\HW o o')->QZ w' :=fun _ hle=>⟨MM hle (SC h).1,KG hle (SC h).2⟩
end Go.Proofs.YthbdkceckjihgaaGreatDoor

