/- cH of this claim: A0. -/
import Derived.Test.YthbdkceckjihgaaGreatDoorRows
import Derived.Test.YthbdkceckjihgaaGreatDoorBaT
import Derived.Test.YthbdkceckjihgaaGreatDoorBaV3
import Derived.Lay
import Derived.Lib.LaidU8T
import Derived.PinnedBridge
import Derived.Test.YthbdkceckjihgaaGreatDoorBaV4
import Derived.ProofKit
import Derived.SevenTiedAt
set_option linter.all false
namespace Go.Proofs.YthbdkceckjihgaaGreatDoor
open Go Go.Lib Go.Shelf Go.Proofs Go.ChangeShapes Go.WideShapes Go.ChangeAt Go.RowKit

def Lr:ownKnob Tryz.prog.godebug=none:=by kernel_rfl
def I5:laidOutB aH=true:=by kernel_rfl
def xn{h1:Type}(enc:TypeId×Value->h1)(W:World):pw enc aH W 9 (qP rS wZ):=GZ kx (by kernel_rfl)
def BB{h1:Type}(enc:TypeId×Value->h1)(W:World):pw enc aH W 3 (qP (rI .i64) (wJ .i64)):=xm qz (by kernel_rfl)
def zr(x:bw):Prop:=wZ x.Name/\(wJ .i64) x.Kind
def ry:Rp bw:=f7 (br (qP rS wZ) (qP (rI .i64) (wJ .i64))) (fun x=>(x.Name,x.Kind))
def Dj:w5 ry bO zr:=jR (dy fI fI)
def Lg{h1:Type}(enc:TypeId×Value->h1)(W:World):pw enc aH W 113 ry:=fv (l:=[(9,0),(3,1)]) (by kernel_rfl) (by kernel_rfl) (fun y=>⟨⟨y.1,y.2⟩,rfl⟩) (cT (xn enc W) rfl (iD (BB enc W)))
def Li{h1:Type}(enc:TypeId×Value->h1)(W:World):pw enc aH W 108 (dz ry):=jQ kQ (by kernel_rfl) rfl (Lg enc W)
def Kv{h1:Type}(enc:TypeId×Value->h1)(W:World):pw enc aH W 35 (dz (qP (rI .i64) (wJ .i64))):=jQ eu (by kernel_rfl) rfl (BB enc W)
def B4(x:bv):Prop:=wZ x.Name/\(ID zr) x.Columns/\(ID (wJ .i64)) x.Keys
def ub:Rp bv:=f7 (br (qP rS wZ) (br (dz ry) (dz (qP (rI .i64) (wJ .i64))))) (fun x=>(x.Name,x.Columns,x.Keys))
def FX:w5 ub bW B4:=jR (dy fI (dy (oY Dj) (oY fI)))
def Lh{h1:Type}(enc:TypeId×Value->h1)(W:World):pw enc aH W 110 ub:=fv (l:=[(9,0),(108,1),(35,2)]) (by kernel_rfl) (by kernel_rfl) (fun y=>⟨⟨y.1,y.2.1,y.2.2⟩,rfl⟩) (cT (xn enc W) rfl (cT (Li enc W) rfl (iD (Kv enc W))))
def MQ{h1:Type}(enc:TypeId×Value->h1)(W:World):pw enc aH W 22 (dz ub):=jQ mj (by kernel_rfl) rfl (Lh enc W)
def Dv(x:aY):Prop:=(ID B4) x.Tables
def xF:Rp aY:=f7 (dz ub) (fun x=>(x.Tables))
def BV:w5 xF bc Dv:=jR (oY FX)
def MP{h1:Type}(enc:TypeId×Value->h1)(W:World):pw enc aH W 24 xF:=fv (l:=[(22,0)]) (by kernel_rfl) (by kernel_rfl) (fun y=>⟨⟨y⟩,rfl⟩) (iD (MQ enc W))
def IQ{h1:Type}(enc:TypeId×Value->h1)(W:World):pw enc aH W 4 (qP rB IC):=FE GR (by kernel_rfl)
def OZ{h1:Type}(enc:TypeId×Value->h1)(W:World):pw enc aH W 2 (qP (rI .i64) (wJ .i64)):=xm Tryz.underlying2 (by kernel_rfl)
def Lk{h1:Type}(enc:TypeId×Value->h1)(W:World):pw enc aH W 102 (qP (rI .u64) (wJ .u64)):=xm Tryz.underlying102 (by kernel_rfl)
def B3(x:dl):Prop:=(wJ .i64) x.Kind/\(wJ .i64) x.N/\(wJ .u64) x.U/\wZ x.S
def xE:Rp dl:=f7 (br (qP (rI .i64) (wJ .i64)) (br (qP (rI .i64) (wJ .i64)) (br (qP (rI .u64) (wJ .u64)) (qP rS wZ)))) (fun x=>(x.Kind,x.N,x.U,x.S))
def FW:w5 xE dd B3:=jR (dy fI (dy fI (dy fI fI)))
def Lj{h1:Type}(enc:TypeId×Value->h1)(W:World):pw enc aH W 104 xE:=fv (l:=[(3,0),(2,1),(102,2),(9,3)]) (by kernel_rfl) (by kernel_rfl) (fun y=>⟨⟨y.1,y.2.1,y.2.2.1,y.2.2.2⟩,rfl⟩) (cT (BB enc W) rfl (cT (OZ enc W) rfl (cT (Lk enc W) rfl (iD (xn enc W)))))
def EK(x:dZ):Prop:=(wJ .i64) x.Tag/\(wJ .i64) x.L/\(wJ .i64) x.R/\B3 x.Value/\wZ x.Table/\wZ x.Name
def wS:Rp dZ:=f7 (br (qP (rI .i64) (wJ .i64)) (br (qP (rI .i64) (wJ .i64)) (br (qP (rI .i64) (wJ .i64)) (br xE (br (qP rS wZ) (qP rS wZ)))))) (fun x=>(x.Tag,x.L,x.R,x.Value,x.Table,x.Name))
def Hg:w5 wS cg EK:=jR (dy fI (dy fI (dy fI (dy FW (dy fI fI)))))
def Lf{h1:Type}(enc:TypeId×Value->h1)(W:World):pw enc aH W 162 wS:=fv (l:=[(3,0),(3,1),(3,2),(104,3),(9,7),(9,8)]) (by kernel_rfl) (by kernel_rfl) (fun y=>⟨⟨y.1,y.2.1,y.2.2.1,y.2.2.2.1,y.2.2.2.2.1,y.2.2.2.2.2⟩,rfl⟩) (cT (BB enc W) rfl (cT (BB enc W) rfl (cT (BB enc W) rfl (cT (Lj enc W) rfl (cT (xn enc W) rfl (iD (xn enc W)))))))
def MJ{h1:Type}(enc:TypeId×Value->h1)(W:World):pw enc aH W 50 (dz wS):=jQ nv (by kernel_rfl) rfl (Lf enc W)
def uj(x:cD):Prop:=(ID EK) x.Nodes
def rt:Rp cD:=f7 (dz wS) (fun x=>(x.Nodes))
def uc:w5 rt bh uj:=jR (oY Hg)
def Et{h1:Type}(enc:TypeId×Value->h1)(W:World):pw enc aH W 52 rt:=fv (l:=[(50,0)]) (by kernel_rfl) (by kernel_rfl) (fun y=>⟨⟨y⟩,rfl⟩) (iD (MJ enc W))
def EN(x:er):Prop:=uj x.Tree/\wZ x.As
def wV:Rp er:=f7 (br rt (qP rS wZ)) (fun x=>(x.Tree,x.As))
def Hj:w5 wV cV EN:=jR (dy uc fI)
def ME{h1:Type}(enc:TypeId×Value->h1)(W:World):pw enc aH W 88 wV:=fv (l:=[(52,0),(9,1)]) (by kernel_rfl) (by kernel_rfl) (fun y=>⟨⟨y.1,y.2⟩,rfl⟩) (cT (Et enc W) rfl (iD (xn enc W)))
def ML{h1:Type}(enc:TypeId×Value->h1)(W:World):pw enc aH W 46 (dz wV):=jQ oW (by kernel_rfl) rfl (ME enc W)
def vk(x:fD):Prop:=wZ x.Table/\wZ x.As
def ru:Rp fD:=f7 (br (qP rS wZ) (qP rS wZ)) (fun x=>(x.Table,x.As))
def xJ:w5 ru eT vk:=jR (dy fI fI)
def Ku{h1:Type}(enc:TypeId×Value->h1)(W:World):pw enc aH W 48 ru:=fv (l:=[(9,0),(9,1)]) (by kernel_rfl) (by kernel_rfl) (fun y=>⟨⟨y.1,y.2⟩,rfl⟩) (cT (xn enc W) rfl (iD (xn enc W)))
def EM(x:kN):Prop:=IC x.Left/\vk x.Source/\uj x.On
def wU:Rp kN:=f7 (br (qP rB IC) (br ru rt)) (fun x=>(x.Left,x.Source,x.On))
def Hi:w5 wU d7 EM:=jR (dy fI (dy xJ uc))
def MF{h1:Type}(enc:TypeId×Value->h1)(W:World):pw enc aH W 86 wU:=fv (l:=[(4,0),(48,1),(52,3)]) (by kernel_rfl) (by kernel_rfl) (fun y=>⟨⟨y.1,y.2.1,y.2.2⟩,rfl⟩) (cT (IQ enc W) rfl (cT (Ku enc W) rfl (iD (Et enc W))))
def MK{h1:Type}(enc:TypeId×Value->h1)(W:World):pw enc aH W 49 (dz wU):=jQ uU (by kernel_rfl) rfl (MF enc W)
def EL(x:iK):Prop:=wZ x.Table/\wZ x.Name
def wT:Rp iK:=f7 (br (qP rS wZ) (qP rS wZ)) (fun x=>(x.Table,x.Name))
def Hh:w5 wT dS EL:=jR (dy fI fI)
def MD{h1:Type}(enc:TypeId×Value->h1)(W:World):pw enc aH W 91 wT:=fv (l:=[(9,0),(9,1)]) (by kernel_rfl) (by kernel_rfl) (fun y=>⟨⟨y.1,y.2⟩,rfl⟩) (cT (xn enc W) rfl (iD (xn enc W)))
def MI{h1:Type}(enc:TypeId×Value->h1)(W:World):pw enc aH W 53 (dz wT):=jQ ww (by kernel_rfl) rfl (MD enc W)
def zq(x:aJ):Prop:=IC x.Distinct/\IC x.Star/\(ID EN) x.Items/\vk x.From/\(ID EM) x.Joins/\uj x.Where/\uj x.Having/\(ID EL) x.Group
def rx:Rp aJ:=f7 (br (qP rB IC) (br (qP rB IC) (br (dz wV) (br ru (br (dz wU) (br rt (br rt (dz wT)))))))) (fun x=>(x.Distinct,x.Star,x.Items,x.From,x.Joins,x.Where,x.Having,x.Group))
def Di:w5 rx aV zq:=jR (dy fI (dy fI (dy (oY Hj) (dy xJ (dy (oY Hi) (dy uc (dy uc (oY Hh))))))))
def MH{h1:Type}(enc:TypeId×Value->h1)(W:World):pw enc aH W 55 rx:=fv (l:=[(4,0),(4,1),(46,2),(48,3),(49,5),(52,6),(52,7),(53,8)]) (by kernel_rfl) (by kernel_rfl) (fun y=>⟨⟨y.1,y.2.1,y.2.2.1,y.2.2.2.1,y.2.2.2.2.1,y.2.2.2.2.2.1,y.2.2.2.2.2.2.1,y.2.2.2.2.2.2.2⟩,rfl⟩) (cT (IQ enc W) rfl (cT (IQ enc W) rfl (cT (ML enc W) rfl (cT (Ku enc W) rfl (cT (MK enc W) rfl (cT (Et enc W) rfl (cT (Et enc W) rfl (iD (MI enc W)))))))))
def MO{h1:Type}(enc:TypeId×Value->h1)(W:World):pw enc aH W 28 (dz rx):=jQ qy (by kernel_rfl) rfl (MH enc W)
def Hq(x:tv):Prop:=wZ x.Name/\(wJ .i64) x.Number/\IC x.Desc
def AE:Rp tv:=f7 (br (qP rS wZ) (br (qP (rI .i64) (wJ .i64)) (qP rB IC))) (fun x=>(x.Name,x.Number,x.Desc))
def IW:w5 AE gk Hq:=jR (dy fI (dy fI fI))
def MG{h1:Type}(enc:TypeId×Value->h1)(W:World):pw enc aH W 57 AE:=fv (l:=[(9,0),(3,1),(4,2)]) (by kernel_rfl) (by kernel_rfl) (fun y=>⟨⟨y.1,y.2.1,y.2.2⟩,rfl⟩) (cT (xn enc W) rfl (cT (BB enc W) rfl (iD (IQ enc W))))
def MN{h1:Type}(enc:TypeId×Value->h1)(W:World):pw enc aH W 29 (dz AE):=jQ xb (by kernel_rfl) rfl (MG enc W)
def Hp(x:bD):Prop:=(ID zq) x.Selects/\(ID Hq) x.Keys/\(wJ .i64) x.Limit
def BS:Rp bD:=f7 (br (dz rx) (br (dz AE) (qP (rI .i64) (wJ .i64)))) (fun x=>(x.Selects,x.Keys,x.Limit))
def FY:w5 BS bH Hp:=jR (dy (oY Di) (dy (oY IW) fI))
def MM{h1:Type}(enc:TypeId×Value->h1)(W:World):pw enc aH W 31 BS:=fv (l:=[(28,0),(29,1),(3,2)]) (by kernel_rfl) (by kernel_rfl) (fun y=>⟨⟨y.1,y.2.1,y.2.2⟩,rfl⟩) (cT (MO enc W) rfl (cT (MN enc W) rfl (iD (BB enc W))))
def dM{a b:Bool}(h:a=true)(k:b=true):(a&&b)=true:=by rw [h,k];rfl
def rz:(laidOutB Tryz.pinned.checked.prog)=true/\(mapsRowed Tryz.pinned.checked.prog)=true/\((Tryz.pinned.checked.prog.stops==[]))=true/\((Tryz.pinned.checked.prog.stopKnobs==[]))=true/\(Tryz.pinned.checked.prog.stopsHeard)=true/\(Tryz.pinned.checked.prog.mayEnter)=true:=by
 have h:((laidOutB Tryz.pinned.checked.prog)&&((mapsRowed Tryz.pinned.checked.prog)&&(((Tryz.pinned.checked.prog.stops==[]))&&(((Tryz.pinned.checked.prog.stopKnobs==[]))&&((Tryz.pinned.checked.prog.stopsHeard)&&((Tryz.pinned.checked.prog.mayEnter)))))))=true:=by kernel_rfl
 simpa only [lG] using h
def IX:Tryz.pinned.checked.prog.mainIs=some (true,("994ba46e7a82f8141f915d9f3da3b6056a2eae399341bbf3229131cb61b0b052" :String).toList):=by kernel_rfl
def Hk:false=Tryz.pinned.checked.prog.looks []:=by kernel_rfl
def um:List (String×DataW Unit):=[("unicode/utf8.acceptRanges",Rows.laid_unicode_utf8_acceptRanges),("bowsprit/lex.words",Rows.laid_bowsprit_lex_words),("bowsprit/catalog.kinds",Rows.laid_bowsprit_catalog_kinds),("unicode.CaseRanges",Rows.laid_unicode_CaseRanges),("unicode/utf8.first",Rows.laid_unicode_utf8_first)]
def Pc:Tryz.prog.globalNamed "bowsprit/lex.words" =some 1:=by kernel_rfl
def O8:(Tryz.prog.globals[1]?).map (·.type)=some 228:=by kernel_rfl
set_option maxRecDepth 100000 in
def Pa(W:World):KT aH W false 228 Rows.laid_bowsprit_lex_words [.string ⟨([83,69,76,69,67,84]:List UInt8).toArray⟩,.string ⟨([68,73,83,84,73,78,67,84]:List UInt8).toArray⟩,.string ⟨([70,82,79,77]:List UInt8).toArray⟩,.string ⟨([76,69,70,84]:List UInt8).toArray⟩,.string ⟨([74,79,73,78]:List UInt8).toArray⟩,.string ⟨([79,78]:List UInt8).toArray⟩,.string ⟨([87,72,69,82,69]:List UInt8).toArray⟩,.string ⟨([71,82,79,85,80]:List UInt8).toArray⟩,.string ⟨([66,89]:List UInt8).toArray⟩,.string ⟨([72,65,86,73,78,71]:List UInt8).toArray⟩,.string ⟨([85,78,73,79,78]:List UInt8).toArray⟩,.string ⟨([65,76,76]:List UInt8).toArray⟩,.string ⟨([79,82,68,69,82]:List UInt8).toArray⟩,.string ⟨([76,73,77,73,84]:List UInt8).toArray⟩,.string ⟨([65,83,67]:List UInt8).toArray⟩,.string ⟨([68,69,83,67]:List UInt8).toArray⟩,.string ⟨([65,83]:List UInt8).toArray⟩,.string ⟨([65,78,68]:List UInt8).toArray⟩,.string ⟨([79,82]:List UInt8).toArray⟩,.string ⟨([78,79,84]:List UInt8).toArray⟩,.string ⟨([73,83]:List UInt8).toArray⟩,.string ⟨([78,85,76,76]:List UInt8).toArray⟩,.string ⟨([84,82,85,69]:List UInt8).toArray⟩,.string ⟨([70,65,76,83,69]:List UInt8).toArray⟩,.string ⟨([67,79,85,78,84]:List UInt8).toArray⟩,.string ⟨([83,85,77]:List UInt8).toArray⟩,.string ⟨([77,73,78]:List UInt8).toArray⟩,.string ⟨([77,65,88]:List UInt8).toArray⟩]:=Eu Tryz.underlying228 (by kernel_rfl) (by rw [show Tryz.prog.cellsOf 9=1 from by kernel_rfl];exact(show FC _ _ _ 0 [(9,0),(9,1),(9,2),(9,3),(9,4),(9,5),(9,6),(9,7),(9,8),(9,9),(9,10),(9,11),(9,12),(9,13),(9,14),(9,15),(9,16),(9,17),(9,18),(9,19),(9,20),(9,21),(9,22),(9,23),(9,24),(9,25),(9,26),(9,27)] _ _ from c0 (dJ kx (by kernel_rfl)) rfl (c0 (dJ kx (by kernel_rfl)) rfl (c0 (dJ kx (by kernel_rfl)) rfl (c0 (dJ kx (by kernel_rfl)) rfl (c0 (dJ kx (by kernel_rfl)) rfl (c0 (dJ kx (by kernel_rfl)) rfl (c0 (dJ kx (by kernel_rfl)) rfl (c0 (dJ kx (by kernel_rfl)) rfl (c0 (dJ kx (by kernel_rfl)) rfl (c0 (dJ kx (by kernel_rfl)) rfl (c0 (dJ kx (by kernel_rfl)) rfl (c0 (dJ kx (by kernel_rfl)) rfl (c0 (dJ kx (by kernel_rfl)) rfl (c0 (dJ kx (by kernel_rfl)) rfl (c0 (dJ kx (by kernel_rfl)) rfl (c0 (dJ kx (by kernel_rfl)) rfl (c0 (dJ kx (by kernel_rfl)) rfl (c0 (dJ kx (by kernel_rfl)) rfl (c0 (dJ kx (by kernel_rfl)) rfl (c0 (dJ kx (by kernel_rfl)) rfl (c0 (dJ kx (by kernel_rfl)) rfl (c0 (dJ kx (by kernel_rfl)) rfl (c0 (dJ kx (by kernel_rfl)) rfl (c0 (dJ kx (by kernel_rfl)) rfl (c0 (dJ kx (by kernel_rfl)) rfl (c0 (dJ kx (by kernel_rfl)) rfl (c0 (dJ kx (by kernel_rfl)) rfl (c0 (dJ kx (by kernel_rfl)) rfl (yf))))))))))))))))))))))))))))))
def Pd:Tryz.prog.globalNamed "bowsprit/catalog.kinds" =some 0:=by kernel_rfl
def O9:(Tryz.prog.globals[0]?).map (·.type)=some 227:=by kernel_rfl
set_option maxRecDepth 100000 in
def Pb(W:World):KT aH W false 227 Rows.laid_bowsprit_catalog_kinds [.string ⟨([98,111,111,108]:List UInt8).toArray⟩,.int .i64 (1),.string ⟨([105,110,116]:List UInt8).toArray⟩,.int .i64 (2),.string ⟨([116,101,120,116]:List UInt8).toArray⟩,.int .i64 (3)]:=Eu Tryz.underlying227 (by kernel_rfl) (by rw [show Tryz.prog.cellsOf 226=2 from by kernel_rfl];exact(show FC _ _ _ 0 [(226,0),(226,2),(226,4)] _ _ from c0 (sO (l:=[(9,0),(3,1)]) (by kernel_rfl) (by kernel_rfl) (c0 (dJ kx (by kernel_rfl)) rfl (c0 (Ao qz (by kernel_rfl)) rfl (yf)))) rfl (c0 (sO (l:=[(9,0),(3,1)]) (by kernel_rfl) (by kernel_rfl) (c0 (dJ kx (by kernel_rfl)) rfl (c0 (Ao qz (by kernel_rfl)) rfl (yf)))) rfl (c0 (sO (l:=[(9,0),(3,1)]) (by kernel_rfl) (by kernel_rfl) (c0 (dJ kx (by kernel_rfl)) rfl (c0 (Ao qz (by kernel_rfl)) rfl (yf)))) rfl (yf)))))
set_option maxRecDepth 100000 in
def H7(os:Os)(args:Array Value):laidMetH aH um ((World.laidAll aH os um).forCall (fun _ _=>0) ⟨#[],args,[]⟩).memory:=by
 rw [MakeChecks.laidMetH_plain _ _ _ (by kernel_rfl)]
 exact laidMet_laidAll _ (by kernel_rfl) (by kernel_rfl)
def Ga{W:World}(h:laidMetH aH um W): ∀p∈glob,∃c T fr,W.heap[p.1]? =some (.cells c T fr)/\c.toList.take p.2.length=p.2:=by
 rw [MakeChecks.laidMetH_plain _ _ _ (by kernel_rfl)]at h
 intro p hp
 simp only [glob,mJ,List.not_mem_nil,or_false]at hp
 rcases hp with rfl|rfl
 ·exact uv h (oj _ (oj _ (oh ..))) Pd O9 (Pb W)
 ·exact uv h (oj _ (oh ..)) Pc O8 (Pa W)
def OM:Go.Proofs.CaseExtra aH jo:=⟨by kernel_rfl,by kernel_rfl,by kernel_rfl,by kernel_rfl,by kernel_rfl,by kernel_rfl⟩
def u8X:Go.Proofs.U8Extra aH jo:=⟨by kernel_rfl,by kernel_rfl,by kernel_rfl,by kernel_rfl,by kernel_rfl,by kernel_rfl,by kernel_rfl⟩
def Gt:(Rows.laid_unicode_utf8_acceptRanges:DataW Unit)=acceptData:=by kernel_rfl
def G5{W:World}(h:laidMetH aH um W):FI W:=by
 rw [MakeChecks.laidMetH_plain _ _ _ (by kernel_rfl)]at h
 have H:VarReads aH W "unicode.CaseRanges" caseData:=Pinned.caseRanges_eq▸Lib.laidMet.reads h (oj _ (oj _ (oj _ (oh ..))))
 have J:VarReads aH W "unicode/utf8.first" firstData:=Pinned.utf8First_eq▸Lib.laidMet.reads h (oj _ (oj _ (oj _ (oj _ (oh ..)))))
 have h3:VarReads aH W "unicode/utf8.acceptRanges" acceptData:=Gt▸Lib.laidMet.reads h (oh ..)
 exact⟨caseVar_of_reads {o5 with} (by kernel_rfl) OM H,utf8Tabs_of_readsT {o5 with} u8X J h3⟩
def G4{W:World}(h:laidMetH aH um W): ∀w' :World,(∀(b:Nat) (o:Obj),W.heap[b]? =some o-> ∃o',w'.heap[b]? =some o' /\yD o o')->FI w' :=fun _ hle=>⟨CB hle (G5 h).1,Bh hle (G5 h).2⟩
end Go.Proofs.YthbdkceckjihgaaGreatDoor

