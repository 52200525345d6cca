/- cX of this claim: A0. -/
import Derived.Test.YtfhhakidodmdfaaGreatDoorRows
import Derived.Test.YtfhhakidodmdfaaGreatDoorJhT
import Derived.Test.YtfhhakidodmdfaaGreatDoorJhV4
import Derived.Lay
import Derived.Lib.LaidU8T
import Derived.PinnedBridge
import Derived.ProofKit
import Derived.SevenTiedAt
set_option linter.all false
namespace Go.Proofs.YtfhhakidodmdfaaGreatDoor
open Go Go.Lib Go.Shelf Go.Proofs Go.ChangeShapes Go.WideShapes Go.ChangeAt Go.RowKit

theorem LK:ownKnob Tryz.prog.godebug=none:=by kernel_rfl
theorem Ij:laidOutB aJ=true:=by kernel_rfl
theorem LC{H:Type}(enc:TypeId×Value→H)(W:World):w7 enc aJ W 9 (CL rS KE):=Gh mq (by kernel_rfl)
theorem LD{H:Type}(enc:TypeId×Value→H)(W:World):w7 enc aJ W 3 (CL (rI .i64) (Dw .i64)):=xp nE (by kernel_rfl)
def zq(x:bC):Prop:=KE x.Name∧(Dw .i64) x.Kind
def sh:Rp bC:=kZ (cI (CL rS KE) (CL (rI .i64) (Dw .i64))) (fun x=>(x.Name,x.Kind))
theorem Dj:D0 sh dm zq:=uk (pC rt rt)
theorem LE{H:Type}(enc:TypeId×Value→H)(W:World):w7 enc aJ W 139 sh:=nP (l:=[(9,0),(3,1)]) (by kernel_rfl) (by kernel_rfl) (fun y=>⟨⟨y.1,y.2⟩,rfl⟩) (nC (LC enc W) rfl (rL (LD enc W)))
theorem LH{H:Type}(enc:TypeId×Value→H)(W:World):w7 enc aJ W 135 (ea sh):=nu nH (by kernel_rfl) rfl (LE enc W)
theorem MR{H:Type}(enc:TypeId×Value→H)(W:World):w7 enc aJ W 39 (ea (CL (rI .i64) (Dw .i64))):=nu ed (by kernel_rfl) rfl (LD enc W)
def B3(x:bw):Prop:=KE x.Name∧(LP zq) x.Columns∧(LP (Dw .i64)) x.Keys
def uj:Rp bw:=kZ (cI (CL rS KE) (cI (ea sh) (ea (CL (rI .i64) (Dw .i64))))) (fun x=>(x.Name,x.Columns,x.Keys))
theorem Ft:D0 uj cS B3:=uk (pC rt (pC (vn Dj) (vn rt)))
theorem LF{H:Type}(enc:TypeId×Value→H)(W:World):w7 enc aJ W 137 uj:=nP (l:=[(9,0),(135,1),(39,2)]) (by kernel_rfl) (by kernel_rfl) (fun y=>⟨⟨y.1,y.2.1,y.2.2⟩,rfl⟩) (nC (LC enc W) rfl (nC (LH enc W) rfl (rL (MR enc W))))
theorem MN{H:Type}(enc:TypeId×Value→H)(W:World):w7 enc aJ W 82 (ea uj):=nu o9 (by kernel_rfl) rfl (LF enc W)
def Du(x:cY):Prop:=(LP B3) x.Tables
def xJ:Rp cY:=kZ (ea uj) (fun x=>(x.Tables))
theorem BQ:D0 xJ fU Du:=uk (vn Ft)
theorem MM{H:Type}(enc:TypeId×Value→H)(W:World):w7 enc aJ W 84 xJ:=nP (l:=[(82,0)]) (by kernel_rfl) (by kernel_rfl) (fun y=>⟨⟨y⟩,rfl⟩) (rL (MN enc W))
theorem PX{H:Type}(enc:TypeId×Value→H)(W:World):w7 enc aJ W 2 (CL (rI .i64) (Dw .i64)):=xp tY (by kernel_rfl)
theorem MP{H:Type}(enc:TypeId×Value→H)(W:World):w7 enc aJ W 44 (CL (rI .u64) (Dw .u64)):=xp ua (by kernel_rfl)
def B2(x:M):Prop:=(Dw .i64) x.Kind∧(Dw .i64) x.N∧(Dw .u64) x.U∧KE x.S
def pB:Rp M:=kZ (cI (CL (rI .i64) (Dw .i64)) (cI (CL (rI .i64) (Dw .i64)) (cI (CL (rI .u64) (Dw .u64)) (CL rS KE)))) (fun x=>(x.Kind,x.N,x.U,x.S))
theorem Fs:D0 pB ac B2:=uk (pC rt (pC rt (pC rt rt)))
theorem MO{H:Type}(enc:TypeId×Value→H)(W:World):w7 enc aJ W 46 pB:=nP (l:=[(3,0),(2,1),(44,2),(9,3)]) (by kernel_rfl) (by kernel_rfl) (fun y=>⟨⟨y.1,y.2.1,y.2.2.1,y.2.2.2⟩,rfl⟩) (nC (LD enc W) rfl (nC (PX enc W) rfl (nC (MP enc W) rfl (rL (LC enc W)))))
theorem MQ{H:Type}(enc:TypeId×Value→H)(W:World):w7 enc aJ W 43 (ea pB):=nu lG (by kernel_rfl) rfl (MO enc W)
theorem MS{H:Type}(enc:TypeId×Value→H)(W:World):w7 enc aJ W 32 (ea (ea pB)):=nu ge (by kernel_rfl) rfl (MQ enc W)
theorem MU{H:Type}(enc:TypeId×Value→H)(W:World):w7 enc aJ W 25 (ea (ea (ea pB))):=nu jH (by kernel_rfl) rfl (MS enc W)
def If(x:eU):Prop:=(LP (LP (LP B2))) x.Tables
def Eg:Rp eU:=kZ (ea (ea (ea pB))) (fun x=>(x.Tables))
theorem Gu:D0 Eg fN If:=uk (vn (vn (vn Fs)))
theorem MT{H:Type}(enc:TypeId×Value→H)(W:World):w7 enc aJ W 27 Eg:=nP (l:=[(25,0)]) (by kernel_rfl) (by kernel_rfl) (fun y=>⟨⟨y⟩,rfl⟩) (rL (MU enc W))
theorem dL{a b:Bool}(h:a=true)(k:b=true):(a&&b)=true:=by rw [h,k];rfl
theorem si:(laidOutB Tryz.pinned.checked.prog)=true∧(mapsRowed Tryz.pinned.checked.prog)=true∧((Tryz.pinned.checked.prog.stops==[]))=true∧((Tryz.pinned.checked.prog.stopKnobs==[]))=true∧(Tryz.pinned.checked.prog.stopsHeard)=true∧(Tryz.pinned.checked.prog.mayEnter)=true:=by
 have h:((laidOutB Tryz.pinned.checked.prog)&&((mapsRowed Tryz.pinned.checked.prog)&&(((Tryz.pinned.checked.prog.stops==[]))&&(((Tryz.pinned.checked.prog.stopKnobs==[]))&&((Tryz.pinned.checked.prog.stopsHeard)&&((Tryz.pinned.checked.prog.mayEnter)))))))=true:=by kernel_rfl
 simpa only [km] using h
theorem H5:Tryz.pinned.checked.prog.mainIs=some (true,("85db28590683e9d5afa1430223a94669cccdc8a71b628dceb05087e847db95a3" :String).toList):=by kernel_rfl
theorem Gv:false=Tryz.pinned.checked.prog.looks []:=by kernel_rfl
def uw:List (String×DataW Unit):=[("unicode/utf8.acceptRanges",Rows.laid_unicode_utf8_acceptRanges),("bowsprit/lex.words",Rows.laid_bowsprit_lex_words),("bowsprit/catalog.kinds",Rows.laid_bowsprit_catalog_kinds),("bowsprit/value.truths",Rows.laid_bowsprit_value_truths),("unicode.CaseRanges",Rows.laid_unicode_CaseRanges),("unicode/utf8.first",Rows.laid_unicode_utf8_first)]
theorem Qo:Tryz.prog.globalNamed "bowsprit/lex.words" =some 1:=by kernel_rfl
theorem Qi:(Tryz.prog.globals[1]?).map (·.type)=some 327:=by kernel_rfl
set_option maxRecDepth 100000 in
theorem Ql(W:World):Kq aJ W false 327 Rows.laid_bowsprit_lex_words [.string ⟨([83,69,76,69,67,84]:List UInt8).toArray⟩,.string ⟨([68,73,83,84,73,78,67,84]:List UInt8).toArray⟩,.string ⟨([70,82,79,77]:List UInt8).toArray⟩,.string ⟨([76,69,70,84]:List UInt8).toArray⟩,.string ⟨([74,79,73,78]:List UInt8).toArray⟩,.string ⟨([79,78]:List UInt8).toArray⟩,.string ⟨([87,72,69,82,69]:List UInt8).toArray⟩,.string ⟨([71,82,79,85,80]:List UInt8).toArray⟩,.string ⟨([66,89]:List UInt8).toArray⟩,.string ⟨([72,65,86,73,78,71]:List UInt8).toArray⟩,.string ⟨([85,78,73,79,78]:List UInt8).toArray⟩,.string ⟨([65,76,76]:List UInt8).toArray⟩,.string ⟨([79,82,68,69,82]:List UInt8).toArray⟩,.string ⟨([76,73,77,73,84]:List UInt8).toArray⟩,.string ⟨([65,83,67]:List UInt8).toArray⟩,.string ⟨([68,69,83,67]:List UInt8).toArray⟩,.string ⟨([65,83]:List UInt8).toArray⟩,.string ⟨([65,78,68]:List UInt8).toArray⟩,.string ⟨([79,82]:List UInt8).toArray⟩,.string ⟨([78,79,84]:List UInt8).toArray⟩,.string ⟨([73,83]:List UInt8).toArray⟩,.string ⟨([78,85,76,76]:List UInt8).toArray⟩,.string ⟨([84,82,85,69]:List UInt8).toArray⟩,.string ⟨([70,65,76,83,69]:List UInt8).toArray⟩,.string ⟨([67,79,85,78,84]:List UInt8).toArray⟩,.string ⟨([83,85,77]:List UInt8).toArray⟩,.string ⟨([77,73,78]:List UInt8).toArray⟩,.string ⟨([77,65,88]:List UInt8).toArray⟩]:=Am Tryz.underlying327 (by kernel_rfl) (by rw [show Tryz.prog.cellsOf 9=1 from by kernel_rfl];exact(show FC _ _ _ 0 [(9,0),(9,1),(9,2),(9,3),(9,4),(9,5),(9,6),(9,7),(9,8),(9,9),(9,10),(9,11),(9,12),(9,13),(9,14),(9,15),(9,16),(9,17),(9,18),(9,19),(9,20),(9,21),(9,22),(9,23),(9,24),(9,25),(9,26),(9,27)] _ _ from bT (dh mq (by kernel_rfl)) rfl (bT (dh mq (by kernel_rfl)) rfl (bT (dh mq (by kernel_rfl)) rfl (bT (dh mq (by kernel_rfl)) rfl (bT (dh mq (by kernel_rfl)) rfl (bT (dh mq (by kernel_rfl)) rfl (bT (dh mq (by kernel_rfl)) rfl (bT (dh mq (by kernel_rfl)) rfl (bT (dh mq (by kernel_rfl)) rfl (bT (dh mq (by kernel_rfl)) rfl (bT (dh mq (by kernel_rfl)) rfl (bT (dh mq (by kernel_rfl)) rfl (bT (dh mq (by kernel_rfl)) rfl (bT (dh mq (by kernel_rfl)) rfl (bT (dh mq (by kernel_rfl)) rfl (bT (dh mq (by kernel_rfl)) rfl (bT (dh mq (by kernel_rfl)) rfl (bT (dh mq (by kernel_rfl)) rfl (bT (dh mq (by kernel_rfl)) rfl (bT (dh mq (by kernel_rfl)) rfl (bT (dh mq (by kernel_rfl)) rfl (bT (dh mq (by kernel_rfl)) rfl (bT (dh mq (by kernel_rfl)) rfl (bT (dh mq (by kernel_rfl)) rfl (bT (dh mq (by kernel_rfl)) rfl (bT (dh mq (by kernel_rfl)) rfl (bT (dh mq (by kernel_rfl)) rfl (bT (dh mq (by kernel_rfl)) rfl (qp))))))))))))))))))))))))))))))
theorem Qp:Tryz.prog.globalNamed "bowsprit/catalog.kinds" =some 0:=by kernel_rfl
theorem Qj:(Tryz.prog.globals[0]?).map (·.type)=some 304:=by kernel_rfl
set_option maxRecDepth 100000 in
theorem Qm(W:World):Kq aJ W false 304 Rows.laid_bowsprit_catalog_kinds [.string ⟨([98,111,111,108]:List UInt8).toArray⟩,.int .i64 (1),.string ⟨([105,110,116]:List UInt8).toArray⟩,.int .i64 (2),.string ⟨([116,101,120,116]:List UInt8).toArray⟩,.int .i64 (3)]:=Am Tryz.underlying304 (by kernel_rfl) (by rw [show Tryz.prog.cellsOf 303=2 from by kernel_rfl];exact(show FC _ _ _ 0 [(303,0),(303,2),(303,4)] _ _ from bT (lM (l:=[(9,0),(3,1)]) (by kernel_rfl) (by kernel_rfl) (bT (dh mq (by kernel_rfl)) rfl (bT (kB nE (by kernel_rfl)) rfl (qp)))) rfl (bT (lM (l:=[(9,0),(3,1)]) (by kernel_rfl) (by kernel_rfl) (bT (dh mq (by kernel_rfl)) rfl (bT (kB nE (by kernel_rfl)) rfl (qp)))) rfl (bT (lM (l:=[(9,0),(3,1)]) (by kernel_rfl) (by kernel_rfl) (bT (dh mq (by kernel_rfl)) rfl (bT (kB nE (by kernel_rfl)) rfl (qp)))) rfl (qp)))))
theorem Qn:Tryz.prog.globalNamed "bowsprit/value.truths" =some 2:=by kernel_rfl
theorem Qh:(Tryz.prog.globals[2]?).map (·.type)=some 344:=by kernel_rfl
set_option maxRecDepth 100000 in
theorem Qk(W:World):Kq aJ W false 344 Rows.laid_bowsprit_value_truths [.int .i64 (1),.int .i64 (0),.int .u64 (0),.string ⟨([]:List UInt8).toArray⟩,.int .i64 (0),.int .i64 (0),.int .u64 (0),.string ⟨([]:List UInt8).toArray⟩,.int .i64 (1),.int .i64 (1),.int .u64 (0),.string ⟨([]:List UInt8).toArray⟩]:=Am Tryz.underlying344 (by kernel_rfl) (by rw [show Tryz.prog.cellsOf 46=4 from by kernel_rfl];exact(show FC _ _ _ 0 [(46,0),(46,4),(46,8)] _ _ from bT (lM (l:=[(3,0),(2,1),(44,2),(9,3)]) (by kernel_rfl) (by kernel_rfl) (bT (kB nE (by kernel_rfl)) rfl (bT (kB tY (by kernel_rfl)) rfl (bT (kB ua (by kernel_rfl)) rfl (bT (dh mq (by kernel_rfl)) rfl (qp)))))) rfl (bT (lM (l:=[(3,0),(2,1),(44,2),(9,3)]) (by kernel_rfl) (by kernel_rfl) (bT (kB nE (by kernel_rfl)) rfl (bT (kB tY (by kernel_rfl)) rfl (bT (kB ua (by kernel_rfl)) rfl (bT (dh mq (by kernel_rfl)) rfl (qp)))))) rfl (bT (lM (l:=[(3,0),(2,1),(44,2),(9,3)]) (by kernel_rfl) (by kernel_rfl) (bT (kB nE (by kernel_rfl)) rfl (bT (kB tY (by kernel_rfl)) rfl (bT (kB ua (by kernel_rfl)) rfl (bT (dh mq (by kernel_rfl)) rfl (qp)))))) rfl (qp)))))
set_option maxRecDepth 100000 in
theorem Hj(os:Os)(args:Array Value):laidMetH aJ uw ((World.laidAll aJ os uw).forCall (fun _ _=>0) ⟨#[],args,[]⟩).memory:=by
 rw [MakeChecks.laidMetH_plain _ _ _ (by kernel_rfl)]
 exact laidMet_laidAll _ (by kernel_rfl) (by kernel_rfl)
theorem FD{W:World}(h:laidMetH aJ uw W): ∀p∈glob,∃c T fr,W.heap[p.1]? =some (.cells c T fr)∧c.toList.take p.2.length=p.2:=by
 rw [MakeChecks.laidMetH_plain _ _ _ (by kernel_rfl)]at h
 intro p hp
 simp only [glob,gc,List.not_mem_nil,or_false]at hp
 rcases hp with rfl|rfl|rfl
 ·exact qi h (mS _ (mS _ (gV ..))) Qp Qj (Qm W)
 ·exact qi h (mS _ (gV ..)) Qo Qi (Ql W)
 ·exact qi h (mS _ (mS _ (mS _ (gV ..)))) Qn Qh (Qk W)
theorem PP:Go.Proofs.CaseExtra aJ jD:=⟨by kernel_rfl,by kernel_rfl,by kernel_rfl,by kernel_rfl,by kernel_rfl,by kernel_rfl⟩
theorem u8X:Go.Proofs.U8Extra aJ jD:=⟨by kernel_rfl,by kernel_rfl,by kernel_rfl,by kernel_rfl,by kernel_rfl,by kernel_rfl,by kernel_rfl⟩
theorem FS:(Rows.laid_unicode_utf8_acceptRanges:DataW Unit)=acceptData:=by kernel_rfl
theorem Gm{W:World}(h:laidMetH aJ uw W):Fm W:=by
 rw [MakeChecks.laidMetH_plain _ _ _ (by kernel_rfl)]at h
 have h1:VarReads aJ W "unicode.CaseRanges" caseData:=Pinned.caseRanges_eq▸Lib.laidMet.reads h (mS _ (mS _ (mS _ (mS _ (gV ..)))))
 have h2:VarReads aJ W "unicode/utf8.first" firstData:=Pinned.utf8First_eq▸Lib.laidMet.reads h (mS _ (mS _ (mS _ (mS _ (mS _ (gV ..))))))
 have h3:VarReads aJ W "unicode/utf8.acceptRanges" acceptData:=FS▸Lib.laidMet.reads h (gV ..)
 exact⟨caseVar_of_reads {pr with} (by kernel_rfl) PP h1,utf8Tabs_of_readsT {pr with} u8X h2 h3⟩
theorem Gl{W:World}(h:laidMetH aJ uw W): ∀w' :World,(∀(b:Nat) (o:Obj),W.heap[b]? =some o→ ∃o',w'.heap[b]? =some o' ∧yR o o')→Fm w' :=fun _ hle=>⟨CB hle (Gm h).1,Ba hle (Gm h).2⟩
end Go.Proofs.YtfhhakidodmdfaaGreatDoor

