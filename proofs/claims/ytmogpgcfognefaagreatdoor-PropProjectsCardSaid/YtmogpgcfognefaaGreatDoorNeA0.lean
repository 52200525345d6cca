/- co of this claim: A0. -/
import Derived.Test.YtmogpgcfognefaaGreatDoorRows
import Derived.Test.YtmogpgcfognefaaGreatDoorNeT
import Derived.Test.YtmogpgcfognefaaGreatDoorNeV4
import Derived.Lay
import Derived.Lib.LaidU8T
import Derived.PinnedBridge
import Derived.ProofKit
import Derived.SevenTiedAt
set_option linter.all false
namespace Go.Proofs.YtmogpgcfognefaaGreatDoor
open Go Go.Lib Go.Shelf Go.Proofs Go.ChangeShapes Go.WideShapes Go.ChangeAt Go.RowKit

theorem SM:ownKnob Tryz.prog.godebug=none:=by kernel_rfl
theorem OM:laidOutB aM=true:=by kernel_rfl
theorem Xq{H:Type}(enc:TypeId×Value→H)(W:World):J4 enc aM W 3 (SJ (rI .i64) (OR .i64)):=F3 ou (by kernel_rfl)
theorem Ri{H:Type}(enc:TypeId×Value→H)(W:World):J4 enc aM W 29 (fz (SJ (rI .i64) (OR .i64))):=Dm dm (by kernel_rfl) rfl (Xq enc W)
theorem Xr{H:Type}(enc:TypeId×Value→H)(W:World):J4 enc aM W 2 (SJ (rI .i64) (OR .i64)):=F3 CH (by kernel_rfl)
theorem Ul{H:Type}(enc:TypeId×Value→H)(W:World):J4 enc aM W 94 (iS (SJ (rI .i64) (OR .i64)) 4):=Oh Tryz.underlying94 (by kernel_rfl) rfl (Xr enc W)
theorem Um{H:Type}(enc:TypeId×Value→H)(W:World):J4 enc aM W 89 (fz (iS (SJ (rI .i64) (OR .i64)) 4)):=Dm Tryz.underlying89 (by kernel_rfl) rfl (Ul enc W)
theorem ez{a b:Bool}(h:a=true)(k:b=true):(a&&b)=true:=by rw [h,k];rfl
theorem vH:(laidOutB Tryz.pinned.checked.prog)=true∧(mapsRowed Tryz.pinned.checked.prog)=true∧((Tryz.pinned.checked.prog.stops==[]))=true∧((Tryz.pinned.checked.prog.stopKnobs==[]))=true∧(Tryz.pinned.checked.prog.stopsHeard)=true∧(Tryz.pinned.checked.prog.mayEnter)=true:=by
 have h:((laidOutB Tryz.pinned.checked.prog)&&((mapsRowed Tryz.pinned.checked.prog)&&(((Tryz.pinned.checked.prog.stops==[]))&&(((Tryz.pinned.checked.prog.stopKnobs==[]))&&((Tryz.pinned.checked.prog.stopsHeard)&&((Tryz.pinned.checked.prog.mayEnter)))))))=true:=by kernel_rfl
 simpa only [iP] using h
theorem Oy:Tryz.pinned.checked.prog.mainIs=some (true,("bb13d3eb1f937d7c1d6c9112fc0e8d4933c1a8b2b26744fdabef76fe234983bc" :String).toList):=by kernel_rfl
theorem My:false=Tryz.pinned.checked.prog.looks []:=by kernel_rfl
def xT:List (String×DataW Unit):=[("unicode/utf8.acceptRanges",Rows.laid_unicode_utf8_acceptRanges),("bowsprit/lex.words",Rows.laid_bowsprit_lex_words),("bowsprit/catalog.kinds",Rows.laid_bowsprit_catalog_kinds),("bowsprit/value.truths",Rows.laid_bowsprit_value_truths),("unicode.CaseRanges",Rows.laid_unicode_CaseRanges),("unicode/utf8.first",Rows.laid_unicode_utf8_first)]
theorem XK:Tryz.prog.globalNamed "bowsprit/lex.words" =some 2:=by kernel_rfl
theorem XE:(Tryz.prog.globals[2]?).map (·.type)=some 292:=by kernel_rfl
set_option maxRecDepth 100000 in
theorem XH(W:World):QY aM W false 292 Rows.laid_bowsprit_lex_words [.string ⟨([83,69,76,69,67,84]:List UInt8).toArray⟩,.string ⟨([68,73,83,84,73,78,67,84]:List UInt8).toArray⟩,.string ⟨([70,82,79,77]:List UInt8).toArray⟩,.string ⟨([76,69,70,84]:List UInt8).toArray⟩,.string ⟨([74,79,73,78]:List UInt8).toArray⟩,.string ⟨([79,78]:List UInt8).toArray⟩,.string ⟨([87,72,69,82,69]:List UInt8).toArray⟩,.string ⟨([71,82,79,85,80]:List UInt8).toArray⟩,.string ⟨([66,89]:List UInt8).toArray⟩,.string ⟨([72,65,86,73,78,71]:List UInt8).toArray⟩,.string ⟨([85,78,73,79,78]:List UInt8).toArray⟩,.string ⟨([65,76,76]:List UInt8).toArray⟩,.string ⟨([79,82,68,69,82]:List UInt8).toArray⟩,.string ⟨([76,73,77,73,84]:List UInt8).toArray⟩,.string ⟨([65,83,67]:List UInt8).toArray⟩,.string ⟨([68,69,83,67]:List UInt8).toArray⟩,.string ⟨([65,83]:List UInt8).toArray⟩,.string ⟨([65,78,68]:List UInt8).toArray⟩,.string ⟨([79,82]:List UInt8).toArray⟩,.string ⟨([78,79,84]:List UInt8).toArray⟩,.string ⟨([73,83]:List UInt8).toArray⟩,.string ⟨([78,85,76,76]:List UInt8).toArray⟩,.string ⟨([84,82,85,69]:List UInt8).toArray⟩,.string ⟨([70,65,76,83,69]:List UInt8).toArray⟩,.string ⟨([67,79,85,78,84]:List UInt8).toArray⟩,.string ⟨([83,85,77]:List UInt8).toArray⟩,.string ⟨([77,73,78]:List UInt8).toArray⟩,.string ⟨([77,65,88]:List UInt8).toArray⟩]:=EB Tryz.underlying292 (by kernel_rfl) (by rw [show Tryz.prog.cellsOf 9=1 from by kernel_rfl];exact(show FC _ _ _ 0 [(9,0),(9,1),(9,2),(9,3),(9,4),(9,5),(9,6),(9,7),(9,8),(9,9),(9,10),(9,11),(9,12),(9,13),(9,14),(9,15),(9,16),(9,17),(9,18),(9,19),(9,20),(9,21),(9,22),(9,23),(9,24),(9,25),(9,26),(9,27)] _ _ from cx (dX kc (by kernel_rfl)) rfl (cx (dX kc (by kernel_rfl)) rfl (cx (dX kc (by kernel_rfl)) rfl (cx (dX kc (by kernel_rfl)) rfl (cx (dX kc (by kernel_rfl)) rfl (cx (dX kc (by kernel_rfl)) rfl (cx (dX kc (by kernel_rfl)) rfl (cx (dX kc (by kernel_rfl)) rfl (cx (dX kc (by kernel_rfl)) rfl (cx (dX kc (by kernel_rfl)) rfl (cx (dX kc (by kernel_rfl)) rfl (cx (dX kc (by kernel_rfl)) rfl (cx (dX kc (by kernel_rfl)) rfl (cx (dX kc (by kernel_rfl)) rfl (cx (dX kc (by kernel_rfl)) rfl (cx (dX kc (by kernel_rfl)) rfl (cx (dX kc (by kernel_rfl)) rfl (cx (dX kc (by kernel_rfl)) rfl (cx (dX kc (by kernel_rfl)) rfl (cx (dX kc (by kernel_rfl)) rfl (cx (dX kc (by kernel_rfl)) rfl (cx (dX kc (by kernel_rfl)) rfl (cx (dX kc (by kernel_rfl)) rfl (cx (dX kc (by kernel_rfl)) rfl (cx (dX kc (by kernel_rfl)) rfl (cx (dX kc (by kernel_rfl)) rfl (cx (dX kc (by kernel_rfl)) rfl (cx (dX kc (by kernel_rfl)) rfl (tH))))))))))))))))))))))))))))))
theorem XM:Tryz.prog.globalNamed "bowsprit/catalog.kinds" =some 0:=by kernel_rfl
theorem XG:(Tryz.prog.globals[0]?).map (·.type)=some 271:=by kernel_rfl
set_option maxRecDepth 100000 in
theorem XJ(W:World):QY aM W false 271 Rows.laid_bowsprit_catalog_kinds [.string ⟨([98,111,111,108]:List UInt8).toArray⟩,.int .i64 (1),.string ⟨([105,110,116]:List UInt8).toArray⟩,.int .i64 (2),.string ⟨([116,101,120,116]:List UInt8).toArray⟩,.int .i64 (3)]:=EB Tryz.underlying271 (by kernel_rfl) (by rw [show Tryz.prog.cellsOf 270=2 from by kernel_rfl];exact(show FC _ _ _ 0 [(270,0),(270,2),(270,4)] _ _ from cx (oC (l:=[(9,0),(3,1)]) (by kernel_rfl) (by kernel_rfl) (cx (dX kc (by kernel_rfl)) rfl (cx (mZ ou (by kernel_rfl)) rfl (tH)))) rfl (cx (oC (l:=[(9,0),(3,1)]) (by kernel_rfl) (by kernel_rfl) (cx (dX kc (by kernel_rfl)) rfl (cx (mZ ou (by kernel_rfl)) rfl (tH)))) rfl (cx (oC (l:=[(9,0),(3,1)]) (by kernel_rfl) (by kernel_rfl) (cx (dX kc (by kernel_rfl)) rfl (cx (mZ ou (by kernel_rfl)) rfl (tH)))) rfl (tH)))))
theorem XL:Tryz.prog.globalNamed "bowsprit/value.truths" =some 1:=by kernel_rfl
theorem XF:(Tryz.prog.globals[1]?).map (·.type)=some 286:=by kernel_rfl
set_option maxRecDepth 100000 in
theorem XI(W:World):QY aM W false 286 Rows.laid_bowsprit_value_truths [.int .i64 (1),.int .i64 (0),.int .u64 (0),.string ⟨([]:List UInt8).toArray⟩,.int .i64 (0),.int .i64 (0),.int .u64 (0),.string ⟨([]:List UInt8).toArray⟩,.int .i64 (1),.int .i64 (1),.int .u64 (0),.string ⟨([]:List UInt8).toArray⟩]:=EB Tryz.underlying286 (by kernel_rfl) (by rw [show Tryz.prog.cellsOf 82=4 from by kernel_rfl];exact(show FC _ _ _ 0 [(82,0),(82,4),(82,8)] _ _ from cx (oC (l:=[(3,0),(2,1),(80,2),(9,3)]) (by kernel_rfl) (by kernel_rfl) (cx (mZ ou (by kernel_rfl)) rfl (cx (mZ CH (by kernel_rfl)) rfl (cx (mZ CK (by kernel_rfl)) rfl (cx (dX kc (by kernel_rfl)) rfl (tH)))))) rfl (cx (oC (l:=[(3,0),(2,1),(80,2),(9,3)]) (by kernel_rfl) (by kernel_rfl) (cx (mZ ou (by kernel_rfl)) rfl (cx (mZ CH (by kernel_rfl)) rfl (cx (mZ CK (by kernel_rfl)) rfl (cx (dX kc (by kernel_rfl)) rfl (tH)))))) rfl (cx (oC (l:=[(3,0),(2,1),(80,2),(9,3)]) (by kernel_rfl) (by kernel_rfl) (cx (mZ ou (by kernel_rfl)) rfl (cx (mZ CH (by kernel_rfl)) rfl (cx (mZ CK (by kernel_rfl)) rfl (cx (dX kc (by kernel_rfl)) rfl (tH)))))) rfl (tH)))))
set_option maxRecDepth 100000 in
theorem No(os:Os)(args:Array Value):laidMetH aM xT ((World.laidAll aM os xT).forCall (fun _ _=>0) ⟨#[],args,[]⟩).memory:=by
 rw [MakeChecks.laidMetH_plain _ _ _ (by kernel_rfl)]
 exact laidMet_laidAll _ (by kernel_rfl) (by kernel_rfl)
theorem Lp{W:World}(h:laidMetH aM xT W): ∀p∈glob,∃c T fr,W.heap[p.1]? =some (.cells c T fr)∧c.toList.take p.2.length=p.2:=by
 rw [MakeChecks.laidMetH_plain _ _ _ (by kernel_rfl)]at h
 intro p hp
 simp only [glob,iC,List.not_mem_nil,or_false]at hp
 rcases hp with rfl|rfl|rfl
 ·exact tz h (kG _ (kG _ (lV ..))) XM XG (XJ W)
 ·exact tz h (kG _ (kG _ (kG _ (lV ..)))) XL XF (XI W)
 ·exact tz h (kG _ (lV ..)) XK XE (XH W)
theorem WX:Go.Proofs.CaseExtra aM lT:=⟨by kernel_rfl,by kernel_rfl,by kernel_rfl,by kernel_rfl,by kernel_rfl,by kernel_rfl⟩
theorem u8X:Go.Proofs.U8Extra aM lT:=⟨by kernel_rfl,by kernel_rfl,by kernel_rfl,by kernel_rfl,by kernel_rfl,by kernel_rfl,by kernel_rfl⟩
theorem LF:(Rows.laid_unicode_utf8_acceptRanges:DataW Unit)=acceptData:=by kernel_rfl
theorem Mm{W:World}(h:laidMetH aM xT W):KA W:=by
 rw [MakeChecks.laidMetH_plain _ _ _ (by kernel_rfl)]at h
 have h1:VarReads aM W "unicode.CaseRanges" caseData:=Pinned.caseRanges_eq▸Lib.laidMet.reads h (kG _ (kG _ (kG _ (kG _ (lV ..)))))
 have h2:VarReads aM W "unicode/utf8.first" firstData:=Pinned.utf8First_eq▸Lib.laidMet.reads h (kG _ (kG _ (kG _ (kG _ (kG _ (lV ..))))))
 have h3:VarReads aM W "unicode/utf8.acceptRanges" acceptData:=LF▸Lib.laidMet.reads h (lV ..)
 exact⟨caseVar_of_reads {sn with} (by kernel_rfl) WX h1,utf8Tabs_of_readsT {sn with} u8X h2 h3⟩
theorem Ml{W:World}(h:laidMetH aM xT W): ∀w' :World,(∀(b:Nat) (o:Obj),W.heap[b]? =some o→ ∃o',w'.heap[b]? =some o' ∧CC o o')→KA w' :=fun _ hle=>⟨Ho hle (Mm h).1,Fx hle (Mm h).2⟩
end Go.Proofs.YtmogpgcfognefaaGreatDoor

