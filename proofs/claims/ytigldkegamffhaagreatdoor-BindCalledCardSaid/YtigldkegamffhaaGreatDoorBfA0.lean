/- de of this claim: A0. -/
import Derived.Test.YtigldkegamffhaaGreatDoorRows
import Derived.Test.YtigldkegamffhaaGreatDoorBfT
import Derived.Test.YtigldkegamffhaaGreatDoorBfV3
import Derived.Lay
import Derived.Lib.LaidU8T
import Derived.PinnedBridge
import Derived.Test.YtigldkegamffhaaGreatDoorBfV4
import Derived.ProofKit
import Derived.SevenTiedAt
set_option linter.all false
namespace Go.Proofs.YtigldkegamffhaaGreatDoor
open Go Go.Lib Go.Shelf Go.Proofs Go.ChangeShapes Go.WideShapes Go.ChangeAt Go.RowKit

def YJ:ownKnob Tryz.prog.godebug=none:=by kernel_rfl
def WE:laidOutB aY=true:=by kernel_rfl
def Gp{hb:Type}(enc:TypeId×Value->hb)(W:World):vU enc aY W 9 (yk rS FZ):=TK i6 (by kernel_rfl)
def Kb{hb:Type}(enc:TypeId×Value->hb)(W:World):vU enc aY W 3 (yk (rI .i64) (Ee .i64)):=Gn tn (by kernel_rfl)
def Jl(x:bJ):Prop:=FZ x.Name/\(Ee .i64) x.Kind
def zR:Rp bJ:=j4 (bS (yk rS FZ) (yk (rI .i64) (Ee .i64))) (fun x=>(x.Name,x.Kind))
def Oq:FO zR cX Jl:=oG (fT jV jV)
def aaj{hb:Type}(enc:TypeId×Value->hb)(W:World):vU enc aY W 88 zR:=jF (l:=[(9,0),(3,1)]) (by kernel_rfl) (by kernel_rfl) (fun y=>⟨⟨y.1,y.2⟩,rfl⟩) (eF (Gp enc W) rfl (mD (Kb enc W)))
def aal{hb:Type}(enc:TypeId×Value->hb)(W:World):vU enc aY W 83 (fJ zR):=oC vY (by kernel_rfl) rfl (aaj enc W)
def aay{hb:Type}(enc:TypeId×Value->hb)(W:World):vU enc aY W 35 (fJ (yk (rI .i64) (Ee .i64))):=oC jL (by kernel_rfl) rfl (Kb enc W)
def Md(x:bR):Prop:=FZ x.Name/\(V1 Jl) x.Columns/\(V1 (Ee .i64)) x.Keys
def CC:Rp bR:=j4 (bS (yk rS FZ) (bS (fJ zR) (fJ (yk (rI .i64) (Ee .i64))))) (fun x=>(x.Name,x.Columns,x.Keys))
def Sc:FO CC di Md:=oG (fT jV (fT (wI Oq) (wI jV)))
def aak{hb:Type}(enc:TypeId×Value->hb)(W:World):vU enc aY W 85 CC:=jF (l:=[(9,0),(83,1),(35,2)]) (by kernel_rfl) (by kernel_rfl) (fun y=>⟨⟨y.1,y.2.1,y.2.2⟩,rfl⟩) (eF (Gp enc W) rfl (eF (aal enc W) rfl (mD (aay enc W))))
def aaE{hb:Type}(enc:TypeId×Value->hb)(W:World):vU enc aY W 22 (fJ CC):=oC yo (by kernel_rfl) rfl (aak enc W)
def OH(x:aw):Prop:=(V1 Md) x.Tables
def GI:Rp aw:=j4 (fJ CC) (fun x=>(x.Tables))
def LX:FO GI cn OH:=oG (wI Sc)
def aaD{hb:Type}(enc:TypeId×Value->hb)(W:World):vU enc aY W 24 GI:=jF (l:=[(22,0)]) (by kernel_rfl) (by kernel_rfl) (fun y=>⟨⟨y⟩,rfl⟩) (mD (aaE enc W))
def Wg{hb:Type}(enc:TypeId×Value->hb)(W:World):vU enc aY W 4 (yk rB V0):=RQ IU (by kernel_rfl)
def acp{hb:Type}(enc:TypeId×Value->hb)(W:World):vU enc aY W 2 (yk (rI .i64) (Ee .i64)):=Gn Tryz.underlying2 (by kernel_rfl)
def aan{hb:Type}(enc:TypeId×Value->hb)(W:World):vU enc aY W 69 (yk (rI .u64) (Ee .u64)):=Gn Tryz.underlying69 (by kernel_rfl)
def Mc(x:cr):Prop:=(Ee .i64) x.Kind/\(Ee .i64) x.N/\(Ee .u64) x.U/\FZ x.S
def GH:Rp cr:=j4 (bS (yk (rI .i64) (Ee .i64)) (bS (yk (rI .i64) (Ee .i64)) (bS (yk (rI .u64) (Ee .u64)) (yk rS FZ)))) (fun x=>(x.Kind,x.N,x.U,x.S))
def Sb:FO GH eY Mc:=oG (fT jV (fT jV (fT jV jV)))
def aam{hb:Type}(enc:TypeId×Value->hb)(W:World):vU enc aY W 71 GH:=jF (l:=[(3,0),(2,1),(69,2),(9,3)]) (by kernel_rfl) (by kernel_rfl) (fun y=>⟨⟨y.1,y.2.1,y.2.2.1,y.2.2.2⟩,rfl⟩) (eF (Kb enc W) rfl (eF (acp enc W) rfl (eF (aan enc W) rfl (mD (Gp enc W)))))
def QI(x:cx):Prop:=(Ee .i64) x.Tag/\(Ee .i64) x.L/\(Ee .i64) x.R/\Mc x.Value/\FZ x.Table/\FZ x.Name
def FS:Rp cx:=j4 (bS (yk (rI .i64) (Ee .i64)) (bS (yk (rI .i64) (Ee .i64)) (bS (yk (rI .i64) (Ee .i64)) (bS GH (bS (yk rS FZ) (yk rS FZ)))))) (fun x=>(x.Tag,x.L,x.R,x.Value,x.Table,x.Name))
def Uh:FO FS cd QI:=oG (fT jV (fT jV (fT jV (fT Sb (fT jV jV)))))
def YB{hb:Type}(enc:TypeId×Value->hb)(W:World):vU enc aY W 113 FS:=jF (l:=[(3,0),(3,1),(3,2),(71,3),(9,7),(9,8)]) (by kernel_rfl) (by kernel_rfl) (fun y=>⟨⟨y.1,y.2.1,y.2.2.1,y.2.2.2.1,y.2.2.2.2.1,y.2.2.2.2.2⟩,rfl⟩) (eF (Kb enc W) rfl (eF (Kb enc W) rfl (eF (Kb enc W) rfl (eF (aam enc W) rfl (eF (Gp enc W) rfl (mD (Gp enc W)))))))
def aav{hb:Type}(enc:TypeId×Value->hb)(W:World):vU enc aY W 48 (fJ FS):=oC sP (by kernel_rfl) rfl (YB enc W)
def CN(x:bT):Prop:=(V1 QI) x.Nodes
def zO:Rp bT:=j4 (fJ FS) (fun x=>(x.Nodes))
def CF:FO zO aX CN:=oG (wI Uh)
def Qo{hb:Type}(enc:TypeId×Value->hb)(W:World):vU enc aY W 50 zO:=jF (l:=[(48,0)]) (by kernel_rfl) (by kernel_rfl) (fun y=>⟨⟨y⟩,rfl⟩) (mD (aav enc W))
def QL(x:ev):Prop:=CN x.Tree/\FZ x.As
def FV:Rp ev:=j4 (bS zO (yk rS FZ)) (fun x=>(x.Tree,x.As))
def Uk:FO FV cv QL:=oG (fT CF jV)
def aaq{hb:Type}(enc:TypeId×Value->hb)(W:World):vU enc aY W 59 FV:=jF (l:=[(50,0),(9,1)]) (by kernel_rfl) (by kernel_rfl) (fun y=>⟨⟨y.1,y.2⟩,rfl⟩) (eF (Qo enc W) rfl (mD (Gp enc W)))
def aax{hb:Type}(enc:TypeId×Value->hb)(W:World):vU enc aY W 44 (fJ FV):=oC sQ (by kernel_rfl) rfl (aaq enc W)
def D8(x:ci):Prop:=FZ x.Table/\FZ x.As
def zP:Rp ci:=j4 (bS (yk rS FZ) (yk rS FZ)) (fun x=>(x.Table,x.As))
def GP:FO zP fS D8:=oG (fT jV jV)
def XV{hb:Type}(enc:TypeId×Value->hb)(W:World):vU enc aY W 46 zP:=jF (l:=[(9,0),(9,1)]) (by kernel_rfl) (by kernel_rfl) (fun y=>⟨⟨y.1,y.2⟩,rfl⟩) (eF (Gp enc W) rfl (mD (Gp enc W)))
def QK(x:g9):Prop:=V0 x.Left/\D8 x.Source/\CN x.On
def FU:Rp g9:=j4 (bS (yk rB V0) (bS zP zO)) (fun x=>(x.Left,x.Source,x.On))
def Uj:FO FU cz QK:=oG (fT jV (fT GP CF))
def aar{hb:Type}(enc:TypeId×Value->hb)(W:World):vU enc aY W 57 FU:=jF (l:=[(4,0),(46,1),(50,3)]) (by kernel_rfl) (by kernel_rfl) (fun y=>⟨⟨y.1,y.2.1,y.2.2⟩,rfl⟩) (eF (Wg enc W) rfl (eF (XV enc W) rfl (mD (Qo enc W))))
def aaw{hb:Type}(enc:TypeId×Value->hb)(W:World):vU enc aY W 47 (fJ FU):=oC vH (by kernel_rfl) rfl (aar enc W)
def QJ(x:gk):Prop:=FZ x.Table/\FZ x.Name
def FT:Rp gk:=j4 (bS (yk rS FZ) (yk rS FZ)) (fun x=>(x.Table,x.Name))
def Ui:FO FT cK QJ:=oG (fT jV jV)
def aap{hb:Type}(enc:TypeId×Value->hb)(W:World):vU enc aY W 62 FT:=jF (l:=[(9,0),(9,1)]) (by kernel_rfl) (by kernel_rfl) (fun y=>⟨⟨y.1,y.2⟩,rfl⟩) (eF (Gp enc W) rfl (mD (Gp enc W)))
def aau{hb:Type}(enc:TypeId×Value->hb)(W:World):vU enc aY W 51 (fJ FT):=oC Cc (by kernel_rfl) rfl (aap enc W)
def Jk(x:ae):Prop:=V0 x.Distinct/\V0 x.Star/\(V1 QL) x.Items/\D8 x.From/\(V1 QK) x.Joins/\CN x.Where/\CN x.Having/\(V1 QJ) x.Group
def zQ:Rp ae:=j4 (bS (yk rB V0) (bS (yk rB V0) (bS (fJ FV) (bS zP (bS (fJ FU) (bS zO (bS zO (fJ FT)))))))) (fun x=>(x.Distinct,x.Star,x.Items,x.From,x.Joins,x.Where,x.Having,x.Group))
def Oo:FO zQ aR Jk:=oG (fT jV (fT jV (fT (wI Uk) (fT GP (fT (wI Uj) (fT CF (fT CF (wI Ui))))))))
def aat{hb:Type}(enc:TypeId×Value->hb)(W:World):vU enc aY W 53 zQ:=jF (l:=[(4,0),(4,1),(44,2),(46,3),(47,5),(50,6),(50,7),(51,8)]) (by kernel_rfl) (by kernel_rfl) (fun y=>⟨⟨y.1,y.2.1,y.2.2.1,y.2.2.2.1,y.2.2.2.2.1,y.2.2.2.2.2.1,y.2.2.2.2.2.2.1,y.2.2.2.2.2.2.2⟩,rfl⟩) (eF (Wg enc W) rfl (eF (Wg enc W) rfl (eF (aax enc W) rfl (eF (XV enc W) rfl (eF (aaw enc W) rfl (eF (Qo enc W) rfl (eF (Qo enc W) rfl (mD (aau enc W)))))))))
def aaC{hb:Type}(enc:TypeId×Value->hb)(W:World):vU enc aY W 25 (fJ zQ):=oC u0 (by kernel_rfl) rfl (aat enc W)
def Uz(x:rQ):Prop:=FZ x.Name/\(Ee .i64) x.Number/\V0 x.Desc
def Kq:Rp rQ:=j4 (bS (yk rS FZ) (bS (yk (rI .i64) (Ee .i64)) (yk rB V0))) (fun x=>(x.Name,x.Number,x.Desc))
def Ww:FO Kq jG Uz:=oG (fT jV (fT jV jV))
def aao{hb:Type}(enc:TypeId×Value->hb)(W:World):vU enc aY W 68 Kq:=jF (l:=[(9,0),(3,1),(4,2)]) (by kernel_rfl) (by kernel_rfl) (fun y=>⟨⟨y.1,y.2.1,y.2.2⟩,rfl⟩) (eF (Gp enc W) rfl (eF (Kb enc W) rfl (mD (Wg enc W))))
def aaB{hb:Type}(enc:TypeId×Value->hb)(W:World):vU enc aY W 26 (fJ Kq):=oC yr (by kernel_rfl) rfl (aao enc W)
def Uy(x:be):Prop:=(V1 Jk) x.Selects/\(V1 Uz) x.Keys/\(Ee .i64) x.Limit
def LT:Rp be:=j4 (bS (fJ zQ) (bS (fJ Kq) (yk (rI .i64) (Ee .i64)))) (fun x=>(x.Selects,x.Keys,x.Limit))
def Sd:FO LT bk Uy:=oG (fT (wI Oo) (fT (wI Ww) jV))
def aaA{hb:Type}(enc:TypeId×Value->hb)(W:World):vU enc aY W 28 LT:=jF (l:=[(25,0),(26,1),(3,2)]) (by kernel_rfl) (by kernel_rfl) (fun y=>⟨⟨y.1,y.2.1,y.2.2⟩,rfl⟩) (eF (aaC enc W) rfl (eF (aaB enc W) rfl (mD (Kb enc W))))
def aaz{hb:Type}(enc:TypeId×Value->hb)(W:World):vU enc aY W 29 (n7 (yk (rI .i64) (Ee .i64)) 2):=Wf Ce (by kernel_rfl) rfl (Kb enc W)
def gi{a b:Bool}(h:a=true)(k:b=true):(a&&b)=true:=by rw [h,k];rfl
def zX:(laidOutB Tryz.pinned.checked.prog)=true/\(mapsRowed Tryz.pinned.checked.prog)=true/\((Tryz.pinned.checked.prog.stops==[]))=true/\((Tryz.pinned.checked.prog.stopKnobs==[]))=true/\(Tryz.pinned.checked.prog.stopsHeard)=true/\(Tryz.pinned.checked.prog.mayEnter)=true:=by
 have h:((laidOutB Tryz.pinned.checked.prog)&&((mapsRowed Tryz.pinned.checked.prog)&&(((Tryz.pinned.checked.prog.stops==[]))&&(((Tryz.pinned.checked.prog.stopKnobs==[]))&&((Tryz.pinned.checked.prog.stopsHeard)&&((Tryz.pinned.checked.prog.mayEnter)))))))=true:=by kernel_rfl
 simpa only [gQ] using h
def Wy:Tryz.pinned.checked.prog.mainIs=some (true,("843ebdf0ee695685be491856894275861c41368d91e482972085eb1289422c0d" :String).toList):=by kernel_rfl
def Un:false=Tryz.pinned.checked.prog.looks []:=by kernel_rfl
def CR:List (String×DataW Unit):=[("unicode/utf8.acceptRanges",Rows.laid_unicode_utf8_acceptRanges),("bowsprit/lex.words",Rows.laid_bowsprit_lex_words),("bowsprit/catalog.kinds",Rows.laid_bowsprit_catalog_kinds),("unicode.CaseRanges",Rows.laid_unicode_CaseRanges),("unicode/utf8.first",Rows.laid_unicode_utf8_first)]
def acy:Tryz.prog.globalNamed "bowsprit/lex.words" =some 1:=by kernel_rfl
def acu:(Tryz.prog.globals[1]?).map (·.type)=some 170:=by kernel_rfl
set_option maxRecDepth 100000 in
def acw(W:World):Yi aY W false 170 Rows.laid_bowsprit_lex_words [.string ⟨([83,69,76,69,67,84]:List UInt8).toArray⟩,.string ⟨([68,73,83,84,73,78,67,84]:List UInt8).toArray⟩,.string ⟨([70,82,79,77]:List UInt8).toArray⟩,.string ⟨([76,69,70,84]:List UInt8).toArray⟩,.string ⟨([74,79,73,78]:List UInt8).toArray⟩,.string ⟨([79,78]:List UInt8).toArray⟩,.string ⟨([87,72,69,82,69]:List UInt8).toArray⟩,.string ⟨([71,82,79,85,80]:List UInt8).toArray⟩,.string ⟨([66,89]:List UInt8).toArray⟩,.string ⟨([72,65,86,73,78,71]:List UInt8).toArray⟩,.string ⟨([85,78,73,79,78]:List UInt8).toArray⟩,.string ⟨([65,76,76]:List UInt8).toArray⟩,.string ⟨([79,82,68,69,82]:List UInt8).toArray⟩,.string ⟨([76,73,77,73,84]:List UInt8).toArray⟩,.string ⟨([65,83,67]:List UInt8).toArray⟩,.string ⟨([68,69,83,67]:List UInt8).toArray⟩,.string ⟨([65,83]:List UInt8).toArray⟩,.string ⟨([65,78,68]:List UInt8).toArray⟩,.string ⟨([79,82]:List UInt8).toArray⟩,.string ⟨([78,79,84]:List UInt8).toArray⟩,.string ⟨([73,83]:List UInt8).toArray⟩,.string ⟨([78,85,76,76]:List UInt8).toArray⟩,.string ⟨([84,82,85,69]:List UInt8).toArray⟩,.string ⟨([70,65,76,83,69]:List UInt8).toArray⟩,.string ⟨([67,79,85,78,84]:List UInt8).toArray⟩,.string ⟨([83,85,77]:List UInt8).toArray⟩,.string ⟨([77,73,78]:List UInt8).toArray⟩,.string ⟨([77,65,88]:List UInt8).toArray⟩]:=Qp Tryz.underlying170 (by kernel_rfl) (by rw [show Tryz.prog.cellsOf 9=1 from by kernel_rfl];exact(show FC _ _ _ 0 [(9,0),(9,1),(9,2),(9,3),(9,4),(9,5),(9,6),(9,7),(9,8),(9,9),(9,10),(9,11),(9,12),(9,13),(9,14),(9,15),(9,16),(9,17),(9,18),(9,19),(9,20),(9,21),(9,22),(9,23),(9,24),(9,25),(9,26),(9,27)] _ _ from eO (ge i6 (by kernel_rfl)) rfl (eO (ge i6 (by kernel_rfl)) rfl (eO (ge i6 (by kernel_rfl)) rfl (eO (ge i6 (by kernel_rfl)) rfl (eO (ge i6 (by kernel_rfl)) rfl (eO (ge i6 (by kernel_rfl)) rfl (eO (ge i6 (by kernel_rfl)) rfl (eO (ge i6 (by kernel_rfl)) rfl (eO (ge i6 (by kernel_rfl)) rfl (eO (ge i6 (by kernel_rfl)) rfl (eO (ge i6 (by kernel_rfl)) rfl (eO (ge i6 (by kernel_rfl)) rfl (eO (ge i6 (by kernel_rfl)) rfl (eO (ge i6 (by kernel_rfl)) rfl (eO (ge i6 (by kernel_rfl)) rfl (eO (ge i6 (by kernel_rfl)) rfl (eO (ge i6 (by kernel_rfl)) rfl (eO (ge i6 (by kernel_rfl)) rfl (eO (ge i6 (by kernel_rfl)) rfl (eO (ge i6 (by kernel_rfl)) rfl (eO (ge i6 (by kernel_rfl)) rfl (eO (ge i6 (by kernel_rfl)) rfl (eO (ge i6 (by kernel_rfl)) rfl (eO (ge i6 (by kernel_rfl)) rfl (eO (ge i6 (by kernel_rfl)) rfl (eO (ge i6 (by kernel_rfl)) rfl (eO (ge i6 (by kernel_rfl)) rfl (eO (ge i6 (by kernel_rfl)) rfl (HK))))))))))))))))))))))))))))))
def acz:Tryz.prog.globalNamed "bowsprit/catalog.kinds" =some 0:=by kernel_rfl
def acv:(Tryz.prog.globals[0]?).map (·.type)=some 169:=by kernel_rfl
set_option maxRecDepth 100000 in
def acx(W:World):Yi aY W false 169 Rows.laid_bowsprit_catalog_kinds [.string ⟨([98,111,111,108]:List UInt8).toArray⟩,.int .i64 (1),.string ⟨([105,110,116]:List UInt8).toArray⟩,.int .i64 (2),.string ⟨([116,101,120,116]:List UInt8).toArray⟩,.int .i64 (3)]:=Qp Tryz.underlying169 (by kernel_rfl) (by rw [show Tryz.prog.cellsOf 168=2 from by kernel_rfl];exact(show FC _ _ _ 0 [(168,0),(168,2),(168,4)] _ _ from eO (Bg (l:=[(9,0),(3,1)]) (by kernel_rfl) (by kernel_rfl) (eO (ge i6 (by kernel_rfl)) rfl (eO (Kc tn (by kernel_rfl)) rfl (HK)))) rfl (eO (Bg (l:=[(9,0),(3,1)]) (by kernel_rfl) (by kernel_rfl) (eO (ge i6 (by kernel_rfl)) rfl (eO (Kc tn (by kernel_rfl)) rfl (HK)))) rfl (eO (Bg (l:=[(9,0),(3,1)]) (by kernel_rfl) (by kernel_rfl) (eO (ge i6 (by kernel_rfl)) rfl (eO (Kc tn (by kernel_rfl)) rfl (HK)))) rfl (HK)))))
set_option maxRecDepth 100000 in
def Vs(os:Os)(args:Array Value):laidMetH aY CR ((World.laidAll aY os CR).forCall (fun _ _=>0) ⟨#[],args,[]⟩).memory:=by
 rw [MakeChecks.laidMetH_plain _ _ _ (by kernel_rfl)]
 exact laidMet_laidAll _ (by kernel_rfl) (by kernel_rfl)
def SF{W:World}(h:laidMetH aY CR W): ∀p∈glob,∃c T fr,W.heap[p.1]? =some (.cells c T fr)/\c.toList.take p.2.length=p.2:=by
 rw [MakeChecks.laidMetH_plain _ _ _ (by kernel_rfl)]at h
 intro p hp
 simp only [glob,f7,List.not_mem_nil,or_false]at hp
 rcases hp with rfl|rfl
 ·exact CY h (li _ (li _ (lg ..))) acz acv (acx W)
 ·exact CY h (li _ (lg ..)) acy acu (acw W)
def acg:Go.Proofs.CaseExtra aY oX:=⟨by kernel_rfl,by kernel_rfl,by kernel_rfl,by kernel_rfl,by kernel_rfl,by kernel_rfl⟩
def u8X:Go.Proofs.U8Extra aY oX:=⟨by kernel_rfl,by kernel_rfl,by kernel_rfl,by kernel_rfl,by kernel_rfl,by kernel_rfl,by kernel_rfl⟩
def S7:(Rows.laid_unicode_utf8_acceptRanges:DataW Unit)=acceptData:=by kernel_rfl
def TU{W:World}(h:laidMetH aY CR W):RU W:=by
 rw [MakeChecks.laidMetH_plain _ _ _ (by kernel_rfl)]at h
 have A:VarReads aY W "unicode.CaseRanges" caseData:=Pinned.caseRanges_eq▸Lib.laidMet.reads h (li _ (li _ (li _ (lg ..))))
 have V:VarReads aY W "unicode/utf8.first" firstData:=Pinned.utf8First_eq▸Lib.laidMet.reads h (li _ (li _ (li _ (li _ (lg ..)))))
 have h3:VarReads aY W "unicode/utf8.acceptRanges" acceptData:=S7▸Lib.laidMet.reads h (lg ..)
 exact⟨caseVar_of_reads {xz with} (by kernel_rfl) acg A,utf8Tabs_of_readsT {xz with} u8X V h3⟩
def TT{W:World}(h:laidMetH aY CR W): ∀w' :World,(∀(b:Nat) (o:Obj),W.heap[b]? =some o-> ∃o',w'.heap[b]? =some o' /\Io o o')->RU w' :=fun _ hle=>⟨Ns hle (TU h).1,Li hle (TU h).2⟩
end Go.Proofs.YtigldkegamffhaaGreatDoor

