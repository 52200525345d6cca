/- cG of this claim: A0. -/
import Derived.Test.YtmogpgcfognefaaGreatDoorRows
import Derived.Test.YtmogpgcfognefaaGreatDoorNaT
import Derived.Test.YtmogpgcfognefaaGreatDoorNaV3
import Derived.Lay
import Derived.Lib.LaidU8T
import Derived.PinnedBridge
import Derived.Test.YtmogpgcfognefaaGreatDoorNaV4
import Derived.ProofKit
import Derived.SevenTiedAt
set_option linter.all false
namespace Go.Proofs.YtmogpgcfognefaaGreatDoor
open Go Go.Lib Go.Shelf Go.Proofs Go.ChangeShapes Go.WideShapes Go.ChangeAt Go.RowKit

theorem Lo:ownKnob Tryz.prog.godebug=none:=by kernel_rfl
theorem IT:laidOutB aP=true:=by kernel_rfl
theorem Le{H:Type}(enc:TypeId×Value→H)(W:World):qI enc aP W 9 (qH rS KA):=GW jQ (by kernel_rfl)
theorem rU{H:Type}(enc:TypeId×Value→H)(W:World):qI enc aP W 3 (qH (rI .i64) (oF .i64)):=wS kL (by kernel_rfl)
def zn(x:aV):Prop:=KA x.Name∧(oF .i64) x.Kind
def rA:Rp aV:=jx (bN (qH rS KA) (qH (rI .i64) (oF .i64))) (fun x=>(x.Name,x.Kind))
theorem De:yZ rA bZ zn:=mB (dI gC gC)
theorem MF{H:Type}(enc:TypeId×Value→H)(W:World):qI enc aP W 42 rA:=im (l:=[(9,0),(3,1)]) (by kernel_rfl) (by kernel_rfl) (fun y=>⟨⟨y.1,y.2⟩,rfl⟩) (db (Le enc W) rfl (k5 (rU enc W)))
theorem MI{H:Type}(enc:TypeId×Value→H)(W:World):qI enc aP W 38 (dE rA):=ld qK (by kernel_rfl) rfl (MF enc W)
theorem Ec{H:Type}(enc:TypeId×Value→H)(W:World):qI enc aP W 29 (dE (qH (rI .i64) (oF .i64))):=ld dr (by kernel_rfl) rfl (rU enc W)
def BS(x:bp):Prop:=KA x.Name∧(F9 zn) x.Columns∧(F9 (oF .i64)) x.Keys
def tu:Rp bp:=jx (bN (qH rS KA) (bN (dE rA) (dE (qH (rI .i64) (oF .i64))))) (fun x=>(x.Name,x.Columns,x.Keys))
theorem FQ:yZ tu ck BS:=mB (dI gC (dI (nL De) (nL gC)))
theorem MG{H:Type}(enc:TypeId×Value→H)(W:World):qI enc aP W 40 tu:=im (l:=[(9,0),(38,1),(29,2)]) (by kernel_rfl) (by kernel_rfl) (fun y=>⟨⟨y.1,y.2.1,y.2.2⟩,rfl⟩) (db (Le enc W) rfl (db (MI enc W) rfl (k5 (Ec enc W))))
theorem MO{H:Type}(enc:TypeId×Value→H)(W:World):qI enc aP W 22 (dE tu):=ld qD (by kernel_rfl) rfl (MG enc W)
def Dm(x:bA):Prop:=(F9 BS) x.Tables
def xi:Rp bA:=jx (dE tu) (fun x=>(x.Tables))
theorem BF:yZ xi bF Dm:=mB (nL FQ)
theorem MN{H:Type}(enc:TypeId×Value→H)(W:World):qI enc aP W 24 xi:=im (l:=[(22,0)]) (by kernel_rfl) (by kernel_rfl) (fun y=>⟨⟨y⟩,rfl⟩) (k5 (MO enc W))
theorem MH{H:Type}(enc:TypeId×Value→H)(W:World):qI enc aP W 4 (qH rB Mr):=Fv Fl (by kernel_rfl)
theorem Pc{H:Type}(enc:TypeId×Value→H)(W:World):qI enc aP W 2 (qH (rI .i64) (oF .i64)):=wS Tryz.underlying2 (by kernel_rfl)
theorem Mz{H:Type}(enc:TypeId×Value→H)(W:World):qI enc aP W 80 (qH (rI .u64) (oF .u64)):=wS Tryz.underlying80 (by kernel_rfl)
def BR(x:cP):Prop:=(oF .i64) x.Kind∧(oF .i64) x.N∧(oF .u64) x.U∧KA x.S
def xh:Rp cP:=jx (bN (qH (rI .i64) (oF .i64)) (bN (qH (rI .i64) (oF .i64)) (bN (qH (rI .u64) (oF .u64)) (qH rS KA)))) (fun x=>(x.Kind,x.N,x.U,x.S))
theorem FP:yZ xh dx BR:=mB (dI gC (dI gC (dI gC gC)))
theorem My{H:Type}(enc:TypeId×Value→H)(W:World):qI enc aP W 82 xh:=im (l:=[(3,0),(2,1),(80,2),(9,3)]) (by kernel_rfl) (by kernel_rfl) (fun y=>⟨⟨y.1,y.2.1,y.2.2.1,y.2.2.2⟩,rfl⟩) (db (rU enc W) rfl (db (Pc enc W) rfl (db (Mz enc W) rfl (k5 (Le enc W)))))
def BU(x:bt):Prop:=(oF .i64) x.Tag∧(oF .i64) x.L∧(oF .i64) x.R∧(oF .i64) x.Col∧BR x.Value
def tw:Rp bt:=jx (bN (qH (rI .i64) (oF .i64)) (bN (qH (rI .i64) (oF .i64)) (bN (qH (rI .i64) (oF .i64)) (bN (qH (rI .i64) (oF .i64)) xh)))) (fun x=>(x.Tag,x.L,x.R,x.Col,x.Value))
theorem FS:yZ tw aR BU:=mB (dI gC (dI gC (dI gC (dI gC FP))))
theorem Lf{H:Type}(enc:TypeId×Value→H)(W:World):qI enc aP W 149 tw:=im (l:=[(3,0),(3,1),(3,2),(3,3),(82,4)]) (by kernel_rfl) (by kernel_rfl) (fun y=>⟨⟨y.1,y.2.1,y.2.2.1,y.2.2.2.1,y.2.2.2.2⟩,rfl⟩) (db (rU enc W) rfl (db (rU enc W) rfl (db (rU enc W) rfl (db (rU enc W) rfl (k5 (My enc W))))))
theorem ME{H:Type}(enc:TypeId×Value→H)(W:World):qI enc aP W 43 (dE tw):=ld ju (by kernel_rfl) rfl (Lf enc W)
def wu(x:bo):Prop:=(F9 BU) x.Nodes
def rz:Rp bo:=jx (dE tw) (fun x=>(x.Nodes))
theorem xk:yZ rz be wu:=mB (nL FS)
theorem GY{H:Type}(enc:TypeId×Value→H)(W:World):qI enc aP W 45 rz:=im (l:=[(43,0)]) (by kernel_rfl) (by kernel_rfl) (fun y=>⟨⟨y⟩,rfl⟩) (k5 (ME enc W))
def Hm(x:gc):Prop:=(oF .i64) x.Tag∧wu x.Arg
def Aw:Rp gc:=jx (bN (qH (rI .i64) (oF .i64)) rz) (fun x=>(x.Tag,x.Arg))
theorem IE:yZ Aw cS Hm:=mB (dI gC xk)
theorem Lh{H:Type}(enc:TypeId×Value→H)(W:World):qI enc aP W 107 Aw:=im (l:=[(3,0),(45,1)]) (by kernel_rfl) (by kernel_rfl) (fun y=>⟨⟨y.1,y.2⟩,rfl⟩) (db (rU enc W) rfl (k5 (GY enc W)))
theorem MD{H:Type}(enc:TypeId×Value→H)(W:World):qI enc aP W 46 (dE Aw):=ld mS (by kernel_rfl) rfl (Lh enc W)
theorem MC{H:Type}(enc:TypeId×Value→H)(W:World):qI enc aP W 47 (dE rz):=ld qL (by kernel_rfl) rfl (GY enc W)
def Hl(x:iC):Prop:=(oF .i64) x.Col∧Mr x.Desc
def Av:Rp iC:=jx (bN (qH (rI .i64) (oF .i64)) (qH rB Mr)) (fun x=>(x.Col,x.Desc))
theorem ID:yZ Av fV Hl:=mB (dI gC gC)
theorem Lg{H:Type}(enc:TypeId×Value→H)(W:World):qI enc aP W 111 Av:=im (l:=[(3,0),(4,1)]) (by kernel_rfl) (by kernel_rfl) (fun y=>⟨⟨y.1,y.2⟩,rfl⟩) (db (rU enc W) rfl (k5 (MH enc W)))
theorem MB{H:Type}(enc:TypeId×Value→H)(W:World):qI enc aP W 48 (dE Av):=ld s8 (by kernel_rfl) rfl (Lg enc W)
def BT(x:aF):Prop:=(oF .i64) x.Op∧(oF .i64) x.A∧(oF .i64) x.B∧(oF .i64) x.Table∧(F9 (oF .i64)) x.Kinds∧Mr x.Left∧wu x.Cond∧(F9 (oF .i64)) x.Keys∧(F9 Hm) x.Aggs∧(F9 wu) x.Items∧(F9 Hl) x.Order∧(oF .i64) x.Limit
def tv:Rp aF:=jx (bN (qH (rI .i64) (oF .i64)) (bN (qH (rI .i64) (oF .i64)) (bN (qH (rI .i64) (oF .i64)) (bN (qH (rI .i64) (oF .i64)) (bN (dE (qH (rI .i64) (oF .i64))) (bN (qH rB Mr) (bN rz (bN (dE (qH (rI .i64) (oF .i64))) (bN (dE Aw) (bN (dE rz) (bN (dE Av) (qH (rI .i64) (oF .i64))))))))))))) (fun x=>(x.Op,x.A,x.B,x.Table,x.Kinds,x.Left,x.Cond,x.Keys,x.Aggs,x.Items,x.Order,x.Limit))
theorem FR:yZ tv aE BT:=mB (dI gC (dI gC (dI gC (dI gC (dI (nL gC) (dI gC (dI xk (dI (nL gC) (dI (nL IE) (dI (nL xk) (dI (nL ID) gC)))))))))))
theorem MA{H:Type}(enc:TypeId×Value→H)(W:World):qI enc aP W 50 tv:=im (l:=[(3,0),(3,1),(3,2),(3,3),(29,4),(4,5),(45,6),(29,7),(46,8),(47,9),(48,10),(3,11)]) (by kernel_rfl) (by kernel_rfl) (fun y=>⟨⟨y.1,y.2.1,y.2.2.1,y.2.2.2.1,y.2.2.2.2.1,y.2.2.2.2.2.1,y.2.2.2.2.2.2.1,y.2.2.2.2.2.2.2.1,y.2.2.2.2.2.2.2.2.1,y.2.2.2.2.2.2.2.2.2.1,y.2.2.2.2.2.2.2.2.2.2.1,y.2.2.2.2.2.2.2.2.2.2.2⟩,rfl⟩) (db (rU enc W) rfl (db (rU enc W) rfl (db (rU enc W) rfl (db (rU enc W) rfl (db (Ec enc W) rfl (db (MH enc W) rfl (db (GY enc W) rfl (db (Ec enc W) rfl (db (MD enc W) rfl (db (MC enc W) rfl (db (MB enc W) rfl (k5 (rU enc W)))))))))))))
theorem MM{H:Type}(enc:TypeId×Value→H)(W:World):qI enc aP W 25 (dE tv):=ld mp (by kernel_rfl) rfl (MA enc W)
def Ey(x:cT):Prop:=(F9 BT) x.Nodes∧(oF .i64) x.At∧(oF .i64) x.Way∧(F9 (oF .i64)) x.Cols
def wo:Rp cT:=jx (bN (dE tv) (bN (qH (rI .i64) (oF .i64)) (bN (qH (rI .i64) (oF .i64)) (dE (qH (rI .i64) (oF .i64)))))) (fun x=>(x.Nodes,x.At,x.Way,x.Cols))
theorem Hc:yZ wo bY Ey:=mB (dI (nL FR) (dI gC (dI gC (nL gC))))
theorem ML{H:Type}(enc:TypeId×Value→H)(W:World):qI enc aP W 31 wo:=im (l:=[(25,0),(3,1),(3,2),(29,3)]) (by kernel_rfl) (by kernel_rfl) (fun y=>⟨⟨y.1,y.2.1,y.2.2.1,y.2.2.2⟩,rfl⟩) (db (MM enc W) rfl (db (rU enc W) rfl (db (rU enc W) rfl (k5 (Ec enc W)))))
theorem MK{H:Type}(enc:TypeId×Value→H)(W:World):qI enc aP W 35 (dE wo):=ld lP (by kernel_rfl) rfl (ML enc W)
def IP(x:cZ):Prop:=(F9 Ey) x.Frags
def Ek:Rp cZ:=jx (dE wo) (fun x=>(x.Frags))
theorem Hb:yZ Ek cb IP:=mB (nL Hc)
theorem MJ{H:Type}(enc:TypeId×Value→H)(W:World):qI enc aP W 37 Ek:=im (l:=[(35,0)]) (by kernel_rfl) (by kernel_rfl) (fun y=>⟨⟨y⟩,rfl⟩) (k5 (MK enc W))
theorem dU{a b:Bool}(h:a=true)(k:b=true):(a&&b)=true:=by rw [h,k];rfl
theorem rC:(laidOutB Tryz.pinned.checked.prog)=true∧(mapsRowed Tryz.pinned.checked.prog)=true∧((Tryz.pinned.checked.prog.stops==[]))=true∧((Tryz.pinned.checked.prog.stopKnobs==[]))=true∧(Tryz.pinned.checked.prog.stopsHeard)=true∧(Tryz.pinned.checked.prog.mayEnter)=true:=by
 have h:((laidOutB Tryz.pinned.checked.prog)&&((mapsRowed Tryz.pinned.checked.prog)&&(((Tryz.pinned.checked.prog.stops==[]))&&(((Tryz.pinned.checked.prog.stopKnobs==[]))&&((Tryz.pinned.checked.prog.stopsHeard)&&((Tryz.pinned.checked.prog.mayEnter)))))))=true:=by kernel_rfl
 simpa only [iP] using h
theorem IH:Tryz.pinned.checked.prog.mainIs=some (true,("bb13d3eb1f937d7c1d6c9112fc0e8d4933c1a8b2b26744fdabef76fe234983bc" :String).toList):=by kernel_rfl
theorem Hf:false=Tryz.pinned.checked.prog.looks []:=by kernel_rfl
def tK:List (String×DataW Unit):=[("unicode/utf8.acceptRanges",Rows.laid_unicode_utf8_acceptRanges),("bowsprit/lex.words",Rows.laid_bowsprit_lex_words),("bowsprit/catalog.kinds",Rows.laid_bowsprit_catalog_kinds),("unicode.CaseRanges",Rows.laid_unicode_CaseRanges),("unicode/utf8.first",Rows.laid_unicode_utf8_first)]
theorem Pq:Tryz.prog.globalNamed "bowsprit/lex.words" =some 2:=by kernel_rfl
theorem Pm:(Tryz.prog.globals[2]?).map (·.type)=some 292:=by kernel_rfl
set_option maxRecDepth 100000 in
theorem Po(W:World):KP aP W false 292 Rows.laid_bowsprit_lex_words [.string ⟨([83,69,76,69,67,84]:List UInt8).toArray⟩,.string ⟨([68,73,83,84,73,78,67,84]:List UInt8).toArray⟩,.string ⟨([70,82,79,77]:List UInt8).toArray⟩,.string ⟨([76,69,70,84]:List UInt8).toArray⟩,.string ⟨([74,79,73,78]:List UInt8).toArray⟩,.string ⟨([79,78]:List UInt8).toArray⟩,.string ⟨([87,72,69,82,69]:List UInt8).toArray⟩,.string ⟨([71,82,79,85,80]:List UInt8).toArray⟩,.string ⟨([66,89]:List UInt8).toArray⟩,.string ⟨([72,65,86,73,78,71]:List UInt8).toArray⟩,.string ⟨([85,78,73,79,78]:List UInt8).toArray⟩,.string ⟨([65,76,76]:List UInt8).toArray⟩,.string ⟨([79,82,68,69,82]:List UInt8).toArray⟩,.string ⟨([76,73,77,73,84]:List UInt8).toArray⟩,.string ⟨([65,83,67]:List UInt8).toArray⟩,.string ⟨([68,69,83,67]:List UInt8).toArray⟩,.string ⟨([65,83]:List UInt8).toArray⟩,.string ⟨([65,78,68]:List UInt8).toArray⟩,.string ⟨([79,82]:List UInt8).toArray⟩,.string ⟨([78,79,84]:List UInt8).toArray⟩,.string ⟨([73,83]:List UInt8).toArray⟩,.string ⟨([78,85,76,76]:List UInt8).toArray⟩,.string ⟨([84,82,85,69]:List UInt8).toArray⟩,.string ⟨([70,65,76,83,69]:List UInt8).toArray⟩,.string ⟨([67,79,85,78,84]:List UInt8).toArray⟩,.string ⟨([83,85,77]:List UInt8).toArray⟩,.string ⟨([77,73,78]:List UInt8).toArray⟩,.string ⟨([77,65,88]:List UInt8).toArray⟩]:=Ed Tryz.underlying292 (by kernel_rfl) (by rw [show Tryz.prog.cellsOf 9=1 from by kernel_rfl];exact(show FC _ _ _ 0 [(9,0),(9,1),(9,2),(9,3),(9,4),(9,5),(9,6),(9,7),(9,8),(9,9),(9,10),(9,11),(9,12),(9,13),(9,14),(9,15),(9,16),(9,17),(9,18),(9,19),(9,20),(9,21),(9,22),(9,23),(9,24),(9,25),(9,26),(9,27)] _ _ from c9 (dO jQ (by kernel_rfl)) rfl (c9 (dO jQ (by kernel_rfl)) rfl (c9 (dO jQ (by kernel_rfl)) rfl (c9 (dO jQ (by kernel_rfl)) rfl (c9 (dO jQ (by kernel_rfl)) rfl (c9 (dO jQ (by kernel_rfl)) rfl (c9 (dO jQ (by kernel_rfl)) rfl (c9 (dO jQ (by kernel_rfl)) rfl (c9 (dO jQ (by kernel_rfl)) rfl (c9 (dO jQ (by kernel_rfl)) rfl (c9 (dO jQ (by kernel_rfl)) rfl (c9 (dO jQ (by kernel_rfl)) rfl (c9 (dO jQ (by kernel_rfl)) rfl (c9 (dO jQ (by kernel_rfl)) rfl (c9 (dO jQ (by kernel_rfl)) rfl (c9 (dO jQ (by kernel_rfl)) rfl (c9 (dO jQ (by kernel_rfl)) rfl (c9 (dO jQ (by kernel_rfl)) rfl (c9 (dO jQ (by kernel_rfl)) rfl (c9 (dO jQ (by kernel_rfl)) rfl (c9 (dO jQ (by kernel_rfl)) rfl (c9 (dO jQ (by kernel_rfl)) rfl (c9 (dO jQ (by kernel_rfl)) rfl (c9 (dO jQ (by kernel_rfl)) rfl (c9 (dO jQ (by kernel_rfl)) rfl (c9 (dO jQ (by kernel_rfl)) rfl (c9 (dO jQ (by kernel_rfl)) rfl (c9 (dO jQ (by kernel_rfl)) rfl (xT))))))))))))))))))))))))))))))
theorem Pr:Tryz.prog.globalNamed "bowsprit/catalog.kinds" =some 0:=by kernel_rfl
theorem Pn:(Tryz.prog.globals[0]?).map (·.type)=some 271:=by kernel_rfl
set_option maxRecDepth 100000 in
theorem Pp(W:World):KP aP W false 271 Rows.laid_bowsprit_catalog_kinds [.string ⟨([98,111,111,108]:List UInt8).toArray⟩,.int .i64 (1),.string ⟨([105,110,116]:List UInt8).toArray⟩,.int .i64 (2),.string ⟨([116,101,120,116]:List UInt8).toArray⟩,.int .i64 (3)]:=Ed Tryz.underlying271 (by kernel_rfl) (by rw [show Tryz.prog.cellsOf 270=2 from by kernel_rfl];exact(show FC _ _ _ 0 [(270,0),(270,2),(270,4)] _ _ from c9 (sF (l:=[(9,0),(3,1)]) (by kernel_rfl) (by kernel_rfl) (c9 (dO jQ (by kernel_rfl)) rfl (c9 (Ao kL (by kernel_rfl)) rfl (xT)))) rfl (c9 (sF (l:=[(9,0),(3,1)]) (by kernel_rfl) (by kernel_rfl) (c9 (dO jQ (by kernel_rfl)) rfl (c9 (Ao kL (by kernel_rfl)) rfl (xT)))) rfl (c9 (sF (l:=[(9,0),(3,1)]) (by kernel_rfl) (by kernel_rfl) (c9 (dO jQ (by kernel_rfl)) rfl (c9 (Ao kL (by kernel_rfl)) rfl (xT)))) rfl (xT)))))
set_option maxRecDepth 100000 in
theorem HP(os:Os)(args:Array Value):laidMetH aP tK ((World.laidAll aP os tK).forCall (fun _ _=>0) ⟨#[],args,[]⟩).memory:=by
 rw [MakeChecks.laidMetH_plain _ _ _ (by kernel_rfl)]
 exact laidMet_laidAll _ (by kernel_rfl) (by kernel_rfl)
theorem Gc{W:World}(h:laidMetH aP tK W): ∀p∈glob,∃c T fr,W.heap[p.1]? =some (.cells c T fr)∧c.toList.take p.2.length=p.2:=by
 rw [MakeChecks.laidMetH_plain _ _ _ (by kernel_rfl)]at h
 intro p hp
 simp only [glob,ia,List.not_mem_nil,or_false]at hp
 rcases hp with rfl|rfl
 ·exact tS h (ly _ (ly _ (lI ..))) Pr Pn (Pp W)
 ·exact tS h (ly _ (lI ..)) Pq Pm (Po W)
theorem OS:Go.Proofs.CaseExtra aP kK:=⟨by kernel_rfl,by kernel_rfl,by kernel_rfl,by kernel_rfl,by kernel_rfl,by kernel_rfl⟩
theorem u8X:Go.Proofs.U8Extra aP kK:=⟨by kernel_rfl,by kernel_rfl,by kernel_rfl,by kernel_rfl,by kernel_rfl,by kernel_rfl,by kernel_rfl⟩
theorem Gv:(Rows.laid_unicode_utf8_acceptRanges:DataW Unit)=acceptData:=by kernel_rfl
theorem G5{W:World}(h:laidMetH aP tK W):Fw W:=by
 rw [MakeChecks.laidMetH_plain _ _ _ (by kernel_rfl)]at h
 have h1:VarReads aP W "unicode.CaseRanges" caseData:=Pinned.caseRanges_eq▸Lib.laidMet.reads h (ly _ (ly _ (ly _ (lI ..))))
 have h2:VarReads aP W "unicode/utf8.first" firstData:=Pinned.utf8First_eq▸Lib.laidMet.reads h (ly _ (ly _ (ly _ (ly _ (lI ..)))))
 have h3:VarReads aP W "unicode/utf8.acceptRanges" acceptData:=Gv▸Lib.laidMet.reads h (lI ..)
 exact⟨caseVar_of_reads {pp with} (by kernel_rfl) OS h1,utf8Tabs_of_readsT {pp with} u8X h2 h3⟩
theorem G3{W:World}(h:laidMetH aP tK W): ∀w' :World,(∀(b:Nat) (o:Obj),W.heap[b]? =some o→ ∃o',w'.heap[b]? =some o' ∧yx o o')→Fw w' :=fun _ hle=>⟨CI hle (G5 h).1,A9 hle (G5 h).2⟩
end Go.Proofs.YtmogpgcfognefaaGreatDoor

