/- cF of this claim: A0. -/
import Derived.Test.YtmogpgcfognefaaGreatDoorRows
import Derived.Test.YtmogpgcfognefaaGreatDoorNbT
import Derived.Test.YtmogpgcfognefaaGreatDoorNbV4
import Derived.Lay
import Derived.Lib.LaidU8T
import Derived.PinnedBridge
import Derived.ProofKit
import Derived.SevenTiedAt
set_option linter.all false
namespace Go.Proofs.YtmogpgcfognefaaGreatDoor
open Go Go.Lib Go.Shelf Go.Proofs Go.ChangeShapes Go.WideShapes Go.ChangeAt Go.RowKit

theorem K8:ownKnob Tryz.prog.godebug=none:=by kernel_rfl
theorem Iy:laidOutB aP=true:=by kernel_rfl
theorem KT{H:Type}(enc:TypeId×Value→H)(W:World):ro enc aP W 9 (rZ rS Kl):=GB jP (by kernel_rfl)
theorem tf{H:Type}(enc:TypeId×Value→H)(W:World):ro enc aP W 3 (rZ (rI .i64) (pB .i64)):=wC k7 (by kernel_rfl)
def y4(x:aU):Prop:=Kl x.Name∧(pB .i64) x.Kind
def rE:Rp aU:=kb (bQ (rZ rS Kl) (rZ (rI .i64) (pB .i64))) (fun x=>(x.Name,x.Kind))
theorem CY:zz rE bR y4:=nU (er ip ip)
theorem Mo{H:Type}(enc:TypeId×Value→H)(W:World):ro enc aP W 42 rE:=jQ (l:=[(9,0),(3,1)]) (by kernel_rfl) (by kernel_rfl) (fun y=>⟨⟨y.1,y.2⟩,rfl⟩) (dA (KT enc W) rfl (mA (tf enc W)))
theorem Mr{H:Type}(enc:TypeId×Value→H)(W:World):ro enc aP W 38 (dL rE):=lY pN (by kernel_rfl) rfl (Mo enc W)
theorem GE{H:Type}(enc:TypeId×Value→H)(W:World):ro enc aP W 29 (dL (rZ (rI .i64) (pB .i64))):=lY dp (by kernel_rfl) rfl (tf enc W)
def Bx(x:bo):Prop:=Kl x.Name∧(HV y4) x.Columns∧(HV (pB .i64)) x.Keys
def tt:Rp bo:=kb (bQ (rZ rS Kl) (bQ (dL rE) (dL (rZ (rI .i64) (pB .i64))))) (fun x=>(x.Name,x.Columns,x.Keys))
theorem Fv:zz tt cg Bx:=nU (er ip (er (pe CY) (pe ip)))
theorem Mp{H:Type}(enc:TypeId×Value→H)(W:World):ro enc aP W 40 tt:=jQ (l:=[(9,0),(38,1),(29,2)]) (by kernel_rfl) (by kernel_rfl) (fun y=>⟨⟨y.1,y.2.1,y.2.2⟩,rfl⟩) (dA (KT enc W) rfl (dA (Mr enc W) rfl (mA (GE enc W))))
theorem Mu{H:Type}(enc:TypeId×Value→H)(W:World):ro enc aP W 22 (dL tt):=lY pq (by kernel_rfl) rfl (Mp enc W)
def C7(x:bz):Prop:=(HV Bx) x.Tables
def wV:Rp bz:=kb (dL tt) (fun x=>(x.Tables))
theorem Bl:zz wV ck C7:=nU (pe Fv)
theorem Mt{H:Type}(enc:TypeId×Value→H)(W:World):ro enc aP W 24 wV:=jQ (l:=[(22,0)]) (by kernel_rfl) (by kernel_rfl) (fun y=>⟨⟨y⟩,rfl⟩) (mA (Mu enc W))
theorem Mq{H:Type}(enc:TypeId×Value→H)(W:World):ro enc aP W 4 (rZ rB Ma):=Fb DW (by kernel_rfl)
theorem OO{H:Type}(enc:TypeId×Value→H)(W:World):ro enc aP W 2 (rZ (rI .i64) (pB .i64)):=wC Tryz.underlying2 (by kernel_rfl)
theorem Mi{H:Type}(enc:TypeId×Value→H)(W:World):ro enc aP W 80 (rZ (rI .u64) (pB .u64)):=wC Tryz.underlying80 (by kernel_rfl)
def Bw(x:cO):Prop:=(pB .i64) x.Kind∧(pB .i64) x.N∧(pB .u64) x.U∧Kl x.S
def wT:Rp cO:=kb (bQ (rZ (rI .i64) (pB .i64)) (bQ (rZ (rI .i64) (pB .i64)) (bQ (rZ (rI .u64) (pB .u64)) (rZ rS Kl)))) (fun x=>(x.Kind,x.N,x.U,x.S))
theorem Fu:zz wT dr Bw:=nU (er ip (er ip (er ip ip)))
theorem Mh{H:Type}(enc:TypeId×Value→H)(W:World):ro enc aP W 82 wT:=jQ (l:=[(3,0),(2,1),(80,2),(9,3)]) (by kernel_rfl) (by kernel_rfl) (fun y=>⟨⟨y.1,y.2.1,y.2.2.1,y.2.2.2⟩,rfl⟩) (dA (tf enc W) rfl (dA (OO enc W) rfl (dA (Mi enc W) rfl (mA (KT enc W)))))
def By(x:bq):Prop:=(pB .i64) x.Tag∧(pB .i64) x.L∧(pB .i64) x.R∧(pB .i64) x.Col∧Bw x.Value
def tu:Rp bq:=kb (bQ (rZ (rI .i64) (pB .i64)) (bQ (rZ (rI .i64) (pB .i64)) (bQ (rZ (rI .i64) (pB .i64)) (bQ (rZ (rI .i64) (pB .i64)) wT)))) (fun x=>(x.Tag,x.L,x.R,x.Col,x.Value))
theorem Fx:zz tu aQ By:=nU (er ip (er ip (er ip (er ip Fu))))
theorem KU{H:Type}(enc:TypeId×Value→H)(W:World):ro enc aP W 149 tu:=jQ (l:=[(3,0),(3,1),(3,2),(3,3),(82,4)]) (by kernel_rfl) (by kernel_rfl) (fun y=>⟨⟨y.1,y.2.1,y.2.2.1,y.2.2.2.1,y.2.2.2.2⟩,rfl⟩) (dA (tf enc W) rfl (dA (tf enc W) rfl (dA (tf enc W) rfl (dA (tf enc W) rfl (mA (Mh enc W))))))
theorem Mn{H:Type}(enc:TypeId×Value→H)(W:World):ro enc aP W 43 (dL tu):=lY jv (by kernel_rfl) rfl (KU enc W)
def wd(x:bk):Prop:=(HV By) x.Nodes
def rD:Rp bk:=kb (dL tu) (fun x=>(x.Nodes))
theorem wX:zz rD bc wd:=nU (pe Fx)
theorem GD{H:Type}(enc:TypeId×Value→H)(W:World):ro enc aP W 45 rD:=jQ (l:=[(43,0)]) (by kernel_rfl) (by kernel_rfl) (fun y=>⟨⟨y⟩,rfl⟩) (mA (Mn enc W))
def G1(x:fU):Prop:=(pB .i64) x.Tag∧wd x.Arg
def Ab:Rp fU:=kb (bQ (rZ (rI .i64) (pB .i64)) rD) (fun x=>(x.Tag,x.Arg))
theorem Ii:zz Ab cT G1:=nU (er ip wX)
theorem KW{H:Type}(enc:TypeId×Value→H)(W:World):ro enc aP W 107 Ab:=jQ (l:=[(3,0),(45,1)]) (by kernel_rfl) (by kernel_rfl) (fun y=>⟨⟨y.1,y.2⟩,rfl⟩) (dA (tf enc W) rfl (mA (GD enc W)))
theorem Mm{H:Type}(enc:TypeId×Value→H)(W:World):ro enc aP W 46 (dL Ab):=lY mO (by kernel_rfl) rfl (KW enc W)
theorem Ml{H:Type}(enc:TypeId×Value→H)(W:World):ro enc aP W 47 (dL rD):=lY qL (by kernel_rfl) rfl (GD enc W)
def GZ(x:iA):Prop:=(pB .i64) x.Col∧Ma x.Desc
def Aa:Rp iA:=kb (bQ (rZ (rI .i64) (pB .i64)) (rZ rB Ma)) (fun x=>(x.Col,x.Desc))
theorem Ih:zz Aa fT GZ:=nU (er ip ip)
theorem KV{H:Type}(enc:TypeId×Value→H)(W:World):ro enc aP W 111 Aa:=jQ (l:=[(3,0),(4,1)]) (by kernel_rfl) (by kernel_rfl) (fun y=>⟨⟨y.1,y.2⟩,rfl⟩) (dA (tf enc W) rfl (mA (Mq enc W)))
theorem Mk{H:Type}(enc:TypeId×Value→H)(W:World):ro enc aP W 48 (dL Aa):=lY s7 (by kernel_rfl) rfl (KV enc W)
def G0(x:aB):Prop:=(pB .i64) x.Op∧(pB .i64) x.A∧(pB .i64) x.B∧(pB .i64) x.Table∧(HV (pB .i64)) x.Kinds∧Ma x.Left∧wd x.Cond∧(HV (pB .i64)) x.Keys∧(HV G1) x.Aggs∧(HV wd) x.Items∧(HV GZ) x.Order∧(pB .i64) x.Limit
def wU:Rp aB:=kb (bQ (rZ (rI .i64) (pB .i64)) (bQ (rZ (rI .i64) (pB .i64)) (bQ (rZ (rI .i64) (pB .i64)) (bQ (rZ (rI .i64) (pB .i64)) (bQ (dL (rZ (rI .i64) (pB .i64))) (bQ (rZ rB Ma) (bQ rD (bQ (dL (rZ (rI .i64) (pB .i64))) (bQ (dL Ab) (bQ (dL rD) (bQ (dL Aa) (rZ (rI .i64) (pB .i64))))))))))))) (fun x=>(x.Op,x.A,x.B,x.Table,x.Kinds,x.Left,x.Cond,x.Keys,x.Aggs,x.Items,x.Order,x.Limit))
theorem Fw:zz wU aE G0:=nU (er ip (er ip (er ip (er ip (er (pe ip) (er ip (er wX (er (pe ip) (er (pe Ii) (er (pe wX) (er (pe Ih) ip)))))))))))
theorem Mj{H:Type}(enc:TypeId×Value→H)(W:World):ro enc aP W 50 wU:=jQ (l:=[(3,0),(3,1),(3,2),(3,3),(29,4),(4,5),(45,6),(29,7),(46,8),(47,9),(48,10),(3,11)]) (by kernel_rfl) (by kernel_rfl) (fun y=>⟨⟨y.1,y.2.1,y.2.2.1,y.2.2.2.1,y.2.2.2.2.1,y.2.2.2.2.2.1,y.2.2.2.2.2.2.1,y.2.2.2.2.2.2.2.1,y.2.2.2.2.2.2.2.2.1,y.2.2.2.2.2.2.2.2.2.1,y.2.2.2.2.2.2.2.2.2.2.1,y.2.2.2.2.2.2.2.2.2.2.2⟩,rfl⟩) (dA (tf enc W) rfl (dA (tf enc W) rfl (dA (tf enc W) rfl (dA (tf enc W) rfl (dA (GE enc W) rfl (dA (Mq enc W) rfl (dA (GD enc W) rfl (dA (GE enc W) rfl (dA (Mm enc W) rfl (dA (Ml enc W) rfl (dA (Mk enc W) rfl (mA (tf enc W)))))))))))))
theorem Ms{H:Type}(enc:TypeId×Value→H)(W:World):ro enc aP W 25 (dL wU):=lY la (by kernel_rfl) rfl (Mj enc W)
theorem dO{a b:Bool}(h:a=true)(k:b=true):(a&&b)=true:=by rw [h,k];rfl
theorem rF:(laidOutB Tryz.pinned.checked.prog)=true∧(mapsRowed Tryz.pinned.checked.prog)=true∧((Tryz.pinned.checked.prog.stops==[]))=true∧((Tryz.pinned.checked.prog.stopKnobs==[]))=true∧(Tryz.pinned.checked.prog.stopsHeard)=true∧(Tryz.pinned.checked.prog.mayEnter)=true:=by
 have h:((laidOutB Tryz.pinned.checked.prog)&&((mapsRowed Tryz.pinned.checked.prog)&&(((Tryz.pinned.checked.prog.stops==[]))&&(((Tryz.pinned.checked.prog.stopKnobs==[]))&&((Tryz.pinned.checked.prog.stopsHeard)&&((Tryz.pinned.checked.prog.mayEnter)))))))=true:=by kernel_rfl
 simpa only [iN] using h
theorem Il:Tryz.pinned.checked.prog.mainIs=some (true,("bb13d3eb1f937d7c1d6c9112fc0e8d4933c1a8b2b26744fdabef76fe234983bc" :String).toList):=by kernel_rfl
theorem GT:false=Tryz.pinned.checked.prog.looks []:=by kernel_rfl
def tH:List (String×DataW Unit):=[("unicode/utf8.acceptRanges",Rows.laid_unicode_utf8_acceptRanges),("bowsprit/lex.words",Rows.laid_bowsprit_lex_words),("bowsprit/catalog.kinds",Rows.laid_bowsprit_catalog_kinds),("unicode.CaseRanges",Rows.laid_unicode_CaseRanges),("unicode/utf8.first",Rows.laid_unicode_utf8_first)]
theorem O4:Tryz.prog.globalNamed "bowsprit/lex.words" =some 2:=by kernel_rfl
theorem OX:(Tryz.prog.globals[2]?).map (·.type)=some 292:=by kernel_rfl
set_option maxRecDepth 100000 in
theorem OZ(W:World):KA aP W false 292 Rows.laid_bowsprit_lex_words [.string ⟨([83,69,76,69,67,84]:List UInt8).toArray⟩,.string ⟨([68,73,83,84,73,78,67,84]:List UInt8).toArray⟩,.string ⟨([70,82,79,77]:List UInt8).toArray⟩,.string ⟨([76,69,70,84]:List UInt8).toArray⟩,.string ⟨([74,79,73,78]:List UInt8).toArray⟩,.string ⟨([79,78]:List UInt8).toArray⟩,.string ⟨([87,72,69,82,69]:List UInt8).toArray⟩,.string ⟨([71,82,79,85,80]:List UInt8).toArray⟩,.string ⟨([66,89]:List UInt8).toArray⟩,.string ⟨([72,65,86,73,78,71]:List UInt8).toArray⟩,.string ⟨([85,78,73,79,78]:List UInt8).toArray⟩,.string ⟨([65,76,76]:List UInt8).toArray⟩,.string ⟨([79,82,68,69,82]:List UInt8).toArray⟩,.string ⟨([76,73,77,73,84]:List UInt8).toArray⟩,.string ⟨([65,83,67]:List UInt8).toArray⟩,.string ⟨([68,69,83,67]:List UInt8).toArray⟩,.string ⟨([65,83]:List UInt8).toArray⟩,.string ⟨([65,78,68]:List UInt8).toArray⟩,.string ⟨([79,82]:List UInt8).toArray⟩,.string ⟨([78,79,84]:List UInt8).toArray⟩,.string ⟨([73,83]:List UInt8).toArray⟩,.string ⟨([78,85,76,76]:List UInt8).toArray⟩,.string ⟨([84,82,85,69]:List UInt8).toArray⟩,.string ⟨([70,65,76,83,69]:List UInt8).toArray⟩,.string ⟨([67,79,85,78,84]:List UInt8).toArray⟩,.string ⟨([83,85,77]:List UInt8).toArray⟩,.string ⟨([77,73,78]:List UInt8).toArray⟩,.string ⟨([77,65,88]:List UInt8).toArray⟩]:=D0 Tryz.underlying292 (by kernel_rfl) (by rw [show Tryz.prog.cellsOf 9=1 from by kernel_rfl];exact(show FC _ _ _ 0 [(9,0),(9,1),(9,2),(9,3),(9,4),(9,5),(9,6),(9,7),(9,8),(9,9),(9,10),(9,11),(9,12),(9,13),(9,14),(9,15),(9,16),(9,17),(9,18),(9,19),(9,20),(9,21),(9,22),(9,23),(9,24),(9,25),(9,26),(9,27)] _ _ from c0 (dI jP (by kernel_rfl)) rfl (c0 (dI jP (by kernel_rfl)) rfl (c0 (dI jP (by kernel_rfl)) rfl (c0 (dI jP (by kernel_rfl)) rfl (c0 (dI jP (by kernel_rfl)) rfl (c0 (dI jP (by kernel_rfl)) rfl (c0 (dI jP (by kernel_rfl)) rfl (c0 (dI jP (by kernel_rfl)) rfl (c0 (dI jP (by kernel_rfl)) rfl (c0 (dI jP (by kernel_rfl)) rfl (c0 (dI jP (by kernel_rfl)) rfl (c0 (dI jP (by kernel_rfl)) rfl (c0 (dI jP (by kernel_rfl)) rfl (c0 (dI jP (by kernel_rfl)) rfl (c0 (dI jP (by kernel_rfl)) rfl (c0 (dI jP (by kernel_rfl)) rfl (c0 (dI jP (by kernel_rfl)) rfl (c0 (dI jP (by kernel_rfl)) rfl (c0 (dI jP (by kernel_rfl)) rfl (c0 (dI jP (by kernel_rfl)) rfl (c0 (dI jP (by kernel_rfl)) rfl (c0 (dI jP (by kernel_rfl)) rfl (c0 (dI jP (by kernel_rfl)) rfl (c0 (dI jP (by kernel_rfl)) rfl (c0 (dI jP (by kernel_rfl)) rfl (c0 (dI jP (by kernel_rfl)) rfl (c0 (dI jP (by kernel_rfl)) rfl (c0 (dI jP (by kernel_rfl)) rfl (xB))))))))))))))))))))))))))))))
theorem O5:Tryz.prog.globalNamed "bowsprit/catalog.kinds" =some 0:=by kernel_rfl
theorem OY:(Tryz.prog.globals[0]?).map (·.type)=some 271:=by kernel_rfl
set_option maxRecDepth 100000 in
theorem O3(W:World):KA aP W false 271 Rows.laid_bowsprit_catalog_kinds [.string ⟨([98,111,111,108]:List UInt8).toArray⟩,.int .i64 (1),.string ⟨([105,110,116]:List UInt8).toArray⟩,.int .i64 (2),.string ⟨([116,101,120,116]:List UInt8).toArray⟩,.int .i64 (3)]:=D0 Tryz.underlying271 (by kernel_rfl) (by rw [show Tryz.prog.cellsOf 270=2 from by kernel_rfl];exact(show FC _ _ _ 0 [(270,0),(270,2),(270,4)] _ _ from c0 (sG (l:=[(9,0),(3,1)]) (by kernel_rfl) (by kernel_rfl) (c0 (dI jP (by kernel_rfl)) rfl (c0 (zW k7 (by kernel_rfl)) rfl (xB)))) rfl (c0 (sG (l:=[(9,0),(3,1)]) (by kernel_rfl) (by kernel_rfl) (c0 (dI jP (by kernel_rfl)) rfl (c0 (zW k7 (by kernel_rfl)) rfl (xB)))) rfl (c0 (sG (l:=[(9,0),(3,1)]) (by kernel_rfl) (by kernel_rfl) (c0 (dI jP (by kernel_rfl)) rfl (c0 (zW k7 (by kernel_rfl)) rfl (xB)))) rfl (xB)))))
set_option maxRecDepth 100000 in
theorem Hs(os:Os)(args:Array Value):laidMetH aP tH ((World.laidAll aP os tH).forCall (fun _ _=>0) ⟨#[],args,[]⟩).memory:=by
 rw [MakeChecks.laidMetH_plain _ _ _ (by kernel_rfl)]
 exact laidMet_laidAll _ (by kernel_rfl) (by kernel_rfl)
theorem FR{W:World}(h:laidMetH aP tH W): ∀p∈glob,∃c T fr,W.heap[p.1]? =some (.cells c T fr)∧c.toList.take p.2.length=p.2:=by
 rw [MakeChecks.laidMetH_plain _ _ _ (by kernel_rfl)]at h
 intro p hp
 simp only [glob,gW,List.not_mem_nil,or_false]at hp
 rcases hp with rfl|rfl
 ·exact tP h (lC _ (lC _ (lI ..))) O5 OY (O3 W)
 ·exact tP h (lC _ (lI ..)) O4 OX (OZ W)
theorem Ow:Go.Proofs.CaseExtra aP kG:=⟨by kernel_rfl,by kernel_rfl,by kernel_rfl,by kernel_rfl,by kernel_rfl,by kernel_rfl⟩
theorem u8X:Go.Proofs.U8Extra aP kG:=⟨by kernel_rfl,by kernel_rfl,by kernel_rfl,by kernel_rfl,by kernel_rfl,by kernel_rfl,by kernel_rfl⟩
theorem F8:(Rows.laid_unicode_utf8_acceptRanges:DataW Unit)=acceptData:=by kernel_rfl
theorem GL{W:World}(h:laidMetH aP tH W):Fc W:=by
 rw [MakeChecks.laidMetH_plain _ _ _ (by kernel_rfl)]at h
 have h1:VarReads aP W "unicode.CaseRanges" caseData:=Pinned.caseRanges_eq▸Lib.laidMet.reads h (lC _ (lC _ (lC _ (lI ..))))
 have h2:VarReads aP W "unicode/utf8.first" firstData:=Pinned.utf8First_eq▸Lib.laidMet.reads h (lC _ (lC _ (lC _ (lC _ (lI ..)))))
 have h3:VarReads aP W "unicode/utf8.acceptRanges" acceptData:=F8▸Lib.laidMet.reads h (lI ..)
 exact⟨caseVar_of_reads {pl with} (by kernel_rfl) Ow h1,utf8Tabs_of_readsT {pl with} u8X h2 h3⟩
theorem GJ{W:World}(h:laidMetH aP tH W): ∀w' :World,(∀(b:Nat) (o:Obj),W.heap[b]? =some o→ ∃o',w'.heap[b]? =some o' ∧yc o o')→Fc w' :=fun _ hle=>⟨Cr hle (GL h).1,AN hle (GL h).2⟩
end Go.Proofs.YtmogpgcfognefaaGreatDoor

