/- cd of this claim: A0. -/
import Derived.Test.YtmogpgcfognefaaGreatDoorRows
import Derived.Test.YtmogpgcfognefaaGreatDoorNcT
import Derived.Test.YtmogpgcfognefaaGreatDoorNcV3
import Derived.Lay
import Derived.Lib.LaidU8T
import Derived.PinnedBridge
import Derived.Test.YtmogpgcfognefaaGreatDoorNcV4
import Derived.ProofKit
import Derived.SevenTiedAt
set_option linter.all false
namespace Go.Proofs.YtmogpgcfognefaaGreatDoor
open Go Go.Lib Go.Shelf Go.Proofs Go.ChangeShapes Go.WideShapes Go.ChangeAt Go.RowKit

theorem M1:ownKnob Tryz.prog.godebug=none:=by kernel_rfl
theorem Kb:laidOutB aM=true:=by kernel_rfl
theorem MQ{H:Type}(enc:TypeId×Value→H)(W:World):xc enc aM W 9 (DK rS Mi):=H3 iU (by kernel_rfl)
theorem JQ{H:Type}(enc:TypeId×Value→H)(W:World):xc enc aM W 3 (DK (rI .i64) (Ey .i64)):=xB iF (by kernel_rfl)
def Am(x:aU):Prop:=Mi x.Name∧(Ey .i64) x.Kind
def su:Rp aU:=k7 (da (DK rS Mi) (DK (rI .i64) (Ey .i64))) (fun x=>(x.Name,x.Kind))
theorem Ef:EV su bO Am:=wS (pS qt qt)
theorem OA{H:Type}(enc:TypeId×Value→H)(W:World):xc enc aM W 42 su:=qk (l:=[(9,0),(3,1)]) (by kernel_rfl) (by kernel_rfl) (fun y=>⟨⟨y.1,y.2⟩,rfl⟩) (n6 (MQ enc W) rfl (uI (JQ enc W)))
theorem OC{H:Type}(enc:TypeId×Value→H)(W:World):xc enc aM W 38 (dR su):=pN pw (by kernel_rfl) rfl (OA enc W)
theorem OD{H:Type}(enc:TypeId×Value→H)(W:World):xc enc aM W 29 (dR (DK (rI .i64) (Ey .i64))):=pN dd (by kernel_rfl) rfl (JQ enc W)
def CV(x:bj):Prop:=Mi x.Name∧(Nh Am) x.Columns∧(Nh (Ey .i64)) x.Keys
def uo:Rp bj:=k7 (da (DK rS Mi) (da (dR su) (dR (DK (rI .i64) (Ey .i64))))) (fun x=>(x.Name,x.Columns,x.Keys))
theorem GW:EV uo bU CV:=wS (pS qt (pS (xW Ef) (xW qt)))
theorem OB{H:Type}(enc:TypeId×Value→H)(W:World):xc enc aM W 40 uo:=qk (l:=[(9,0),(38,1),(29,2)]) (by kernel_rfl) (by kernel_rfl) (fun y=>⟨⟨y.1,y.2.1,y.2.2⟩,rfl⟩) (n6 (MQ enc W) rfl (n6 (OC enc W) rfl (uI (OD enc W))))
theorem OG{H:Type}(enc:TypeId×Value→H)(W:World):xc enc aM W 22 (dR uo):=pN mw (by kernel_rfl) rfl (OB enc W)
def Eu(x:aT):Prop:=(Nh CV) x.Tables
def xU:Rp aT:=k7 (dR uo) (fun x=>(x.Tables))
theorem CI:EV xU bP Eu:=wS (xW GW)
theorem OF{H:Type}(enc:TypeId×Value→H)(W:World):xc enc aM W 24 xU:=qk (l:=[(22,0)]) (by kernel_rfl) (by kernel_rfl) (fun y=>⟨⟨y⟩,rfl⟩) (uI (OG enc W))
theorem Rn{H:Type}(enc:TypeId×Value→H)(W:World):xc enc aM W 2 (DK (rI .i64) (Ey .i64)):=xB Tryz.underlying2 (by kernel_rfl)
theorem Ox{H:Type}(enc:TypeId×Value→H)(W:World):xc enc aM W 80 (DK (rI .u64) (Ey .u64)):=xB E7 (by kernel_rfl)
def yn(x:aQ):Prop:=(Ey .i64) x.Kind∧(Ey .i64) x.N∧(Ey .u64) x.U∧Mi x.S
def um:Rp aQ:=k7 (da (DK (rI .i64) (Ey .i64)) (da (DK (rI .i64) (Ey .i64)) (da (DK (rI .u64) (Ey .u64)) (DK rS Mi)))) (fun x=>(x.Kind,x.N,x.U,x.S))
theorem GV:EV um bf yn:=wS (pS qt (pS qt (pS qt qt)))
theorem Ow{H:Type}(enc:TypeId×Value→H)(W:World):xc enc aM W 82 um:=qk (l:=[(3,0),(2,1),(80,2),(9,3)]) (by kernel_rfl) (by kernel_rfl) (fun y=>⟨⟨y.1,y.2.1,y.2.2.1,y.2.2.2⟩,rfl⟩) (n6 (JQ enc W) rfl (n6 (Rn enc W) rfl (n6 (Ox enc W) rfl (uI (MQ enc W)))))
theorem Oy{H:Type}(enc:TypeId×Value→H)(W:World):xc enc aM W 78 (dR um):=pN rn (by kernel_rfl) rfl (Ow enc W)
theorem Oz{H:Type}(enc:TypeId×Value→H)(W:World):xc enc aM W 74 (dR (dR um)):=pN vg (by kernel_rfl) rfl (Oy enc W)
theorem dJ{a b:Bool}(h:a=true)(k:b=true):(a&&b)=true:=by rw [h,k];rfl
theorem sw:(laidOutB Tryz.pinned.checked.prog)=true∧(mapsRowed Tryz.pinned.checked.prog)=true∧((Tryz.pinned.checked.prog.stops==[]))=true∧((Tryz.pinned.checked.prog.stopKnobs==[]))=true∧(Tryz.pinned.checked.prog.stopsHeard)=true∧(Tryz.pinned.checked.prog.mayEnter)=true:=by
 have h:((laidOutB Tryz.pinned.checked.prog)&&((mapsRowed Tryz.pinned.checked.prog)&&(((Tryz.pinned.checked.prog.stops==[]))&&(((Tryz.pinned.checked.prog.stopKnobs==[]))&&((Tryz.pinned.checked.prog.stopsHeard)&&((Tryz.pinned.checked.prog.mayEnter)))))))=true:=by kernel_rfl
 simpa only [mA] using h
theorem JZ:Tryz.pinned.checked.prog.mainIs=some (true,("bb13d3eb1f937d7c1d6c9112fc0e8d4933c1a8b2b26744fdabef76fe234983bc" :String).toList):=by kernel_rfl
theorem Ii:false=Tryz.pinned.checked.prog.looks []:=by kernel_rfl
def uB:List (String×DataW Unit):=[("unicode/utf8.acceptRanges",Rows.laid_unicode_utf8_acceptRanges),("bowsprit/lex.words",Rows.laid_bowsprit_lex_words),("bowsprit/catalog.kinds",Rows.laid_bowsprit_catalog_kinds),("unicode.CaseRanges",Rows.laid_unicode_CaseRanges),("unicode/utf8.first",Rows.laid_unicode_utf8_first)]
theorem RC:Tryz.prog.globalNamed "bowsprit/lex.words" =some 2:=by kernel_rfl
theorem Ry:(Tryz.prog.globals[2]?).map (·.type)=some 292:=by kernel_rfl
set_option maxRecDepth 100000 in
theorem RA(W:World):My aM W false 292 Rows.laid_bowsprit_lex_words [.string ⟨([83,69,76,69,67,84]:List UInt8).toArray⟩,.string ⟨([68,73,83,84,73,78,67,84]:List UInt8).toArray⟩,.string ⟨([70,82,79,77]:List UInt8).toArray⟩,.string ⟨([76,69,70,84]:List UInt8).toArray⟩,.string ⟨([74,79,73,78]:List UInt8).toArray⟩,.string ⟨([79,78]:List UInt8).toArray⟩,.string ⟨([87,72,69,82,69]:List UInt8).toArray⟩,.string ⟨([71,82,79,85,80]:List UInt8).toArray⟩,.string ⟨([66,89]:List UInt8).toArray⟩,.string ⟨([72,65,86,73,78,71]:List UInt8).toArray⟩,.string ⟨([85,78,73,79,78]:List UInt8).toArray⟩,.string ⟨([65,76,76]:List UInt8).toArray⟩,.string ⟨([79,82,68,69,82]:List UInt8).toArray⟩,.string ⟨([76,73,77,73,84]:List UInt8).toArray⟩,.string ⟨([65,83,67]:List UInt8).toArray⟩,.string ⟨([68,69,83,67]:List UInt8).toArray⟩,.string ⟨([65,83]:List UInt8).toArray⟩,.string ⟨([65,78,68]:List UInt8).toArray⟩,.string ⟨([79,82]:List UInt8).toArray⟩,.string ⟨([78,79,84]:List UInt8).toArray⟩,.string ⟨([73,83]:List UInt8).toArray⟩,.string ⟨([78,85,76,76]:List UInt8).toArray⟩,.string ⟨([84,82,85,69]:List UInt8).toArray⟩,.string ⟨([70,65,76,83,69]:List UInt8).toArray⟩,.string ⟨([67,79,85,78,84]:List UInt8).toArray⟩,.string ⟨([83,85,77]:List UInt8).toArray⟩,.string ⟨([77,73,78]:List UInt8).toArray⟩,.string ⟨([77,65,88]:List UInt8).toArray⟩]:=Fg Tryz.underlying292 (by kernel_rfl) (by rw [show Tryz.prog.cellsOf 9=1 from by kernel_rfl];exact(show FC _ _ _ 0 [(9,0),(9,1),(9,2),(9,3),(9,4),(9,5),(9,6),(9,7),(9,8),(9,9),(9,10),(9,11),(9,12),(9,13),(9,14),(9,15),(9,16),(9,17),(9,18),(9,19),(9,20),(9,21),(9,22),(9,23),(9,24),(9,25),(9,26),(9,27)] _ _ from c9 (dE iU (by kernel_rfl)) rfl (c9 (dE iU (by kernel_rfl)) rfl (c9 (dE iU (by kernel_rfl)) rfl (c9 (dE iU (by kernel_rfl)) rfl (c9 (dE iU (by kernel_rfl)) rfl (c9 (dE iU (by kernel_rfl)) rfl (c9 (dE iU (by kernel_rfl)) rfl (c9 (dE iU (by kernel_rfl)) rfl (c9 (dE iU (by kernel_rfl)) rfl (c9 (dE iU (by kernel_rfl)) rfl (c9 (dE iU (by kernel_rfl)) rfl (c9 (dE iU (by kernel_rfl)) rfl (c9 (dE iU (by kernel_rfl)) rfl (c9 (dE iU (by kernel_rfl)) rfl (c9 (dE iU (by kernel_rfl)) rfl (c9 (dE iU (by kernel_rfl)) rfl (c9 (dE iU (by kernel_rfl)) rfl (c9 (dE iU (by kernel_rfl)) rfl (c9 (dE iU (by kernel_rfl)) rfl (c9 (dE iU (by kernel_rfl)) rfl (c9 (dE iU (by kernel_rfl)) rfl (c9 (dE iU (by kernel_rfl)) rfl (c9 (dE iU (by kernel_rfl)) rfl (c9 (dE iU (by kernel_rfl)) rfl (c9 (dE iU (by kernel_rfl)) rfl (c9 (dE iU (by kernel_rfl)) rfl (c9 (dE iU (by kernel_rfl)) rfl (c9 (dE iU (by kernel_rfl)) rfl (yK))))))))))))))))))))))))))))))
theorem RD:Tryz.prog.globalNamed "bowsprit/catalog.kinds" =some 0:=by kernel_rfl
theorem Rz:(Tryz.prog.globals[0]?).map (·.type)=some 271:=by kernel_rfl
set_option maxRecDepth 100000 in
theorem RB(W:World):My aM W false 271 Rows.laid_bowsprit_catalog_kinds [.string ⟨([98,111,111,108]:List UInt8).toArray⟩,.int .i64 (1),.string ⟨([105,110,116]:List UInt8).toArray⟩,.int .i64 (2),.string ⟨([116,101,120,116]:List UInt8).toArray⟩,.int .i64 (3)]:=Fg Tryz.underlying271 (by kernel_rfl) (by rw [show Tryz.prog.cellsOf 270=2 from by kernel_rfl];exact(show FC _ _ _ 0 [(270,0),(270,2),(270,4)] _ _ from c9 (tq (l:=[(9,0),(3,1)]) (by kernel_rfl) (by kernel_rfl) (c9 (dE iU (by kernel_rfl)) rfl (c9 (Bc iF (by kernel_rfl)) rfl (yK)))) rfl (c9 (tq (l:=[(9,0),(3,1)]) (by kernel_rfl) (by kernel_rfl) (c9 (dE iU (by kernel_rfl)) rfl (c9 (Bc iF (by kernel_rfl)) rfl (yK)))) rfl (c9 (tq (l:=[(9,0),(3,1)]) (by kernel_rfl) (by kernel_rfl) (c9 (dE iU (by kernel_rfl)) rfl (c9 (Bc iF (by kernel_rfl)) rfl (yK)))) rfl (yK)))))
set_option maxRecDepth 100000 in
theorem I3(os:Os)(args:Array Value):laidMetH aM uB ((World.laidAll aM os uB).forCall (fun _ _=>0) ⟨#[],args,[]⟩).memory:=by
 rw [MakeChecks.laidMetH_plain _ _ _ (by kernel_rfl)]
 exact laidMet_laidAll _ (by kernel_rfl) (by kernel_rfl)
theorem Hh{W:World}(h:laidMetH aM uB W): ∀p∈glob,∃c T fr,W.heap[p.1]? =some (.cells c T fr)∧c.toList.take p.2.length=p.2:=by
 rw [MakeChecks.laidMetH_plain _ _ _ (by kernel_rfl)]at h
 intro p hp
 simp only [glob,gz,List.not_mem_nil,or_false]at hp
 rcases hp with rfl|rfl
 ·exact uH h (kR _ (kR _ (kU ..))) RD Rz (RB W)
 ·exact uH h (kR _ (kU ..)) RC Ry (RA W)
theorem QY:Go.Proofs.CaseExtra aM kf:=⟨by kernel_rfl,by kernel_rfl,by kernel_rfl,by kernel_rfl,by kernel_rfl,by kernel_rfl⟩
theorem u8X:Go.Proofs.U8Extra aM kf:=⟨by kernel_rfl,by kernel_rfl,by kernel_rfl,by kernel_rfl,by kernel_rfl,by kernel_rfl,by kernel_rfl⟩
theorem Hx:(Rows.laid_unicode_utf8_acceptRanges:DataW Unit)=acceptData:=by kernel_rfl
theorem Ia{W:World}(h:laidMetH aM uB W):GC W:=by
 rw [MakeChecks.laidMetH_plain _ _ _ (by kernel_rfl)]at h
 have h1:VarReads aM W "unicode.CaseRanges" caseData:=Pinned.caseRanges_eq▸Lib.laidMet.reads h (kR _ (kR _ (kR _ (kU ..))))
 have h2:VarReads aM W "unicode/utf8.first" firstData:=Pinned.utf8First_eq▸Lib.laidMet.reads h (kR _ (kR _ (kR _ (kR _ (kU ..)))))
 have h3:VarReads aM W "unicode/utf8.acceptRanges" acceptData:=Hx▸Lib.laidMet.reads h (kU ..)
 exact⟨caseVar_of_reads {pG with} (by kernel_rfl) QY h1,utf8Tabs_of_readsT {pG with} u8X h2 h3⟩
theorem H9{W:World}(h:laidMetH aM uB W): ∀w' :World,(∀(b:Nat) (o:Obj),W.heap[b]? =some o→ ∃o',w'.heap[b]? =some o' ∧zh o o')→GC w' :=fun _ hle=>⟨DD hle (Ia h).1,BX hle (Ia h).2⟩
end Go.Proofs.YtmogpgcfognefaaGreatDoor

