/- cR of this claim: A0. -/
import Derived.Test.YtnmjbolollcokaaGreatDoorRows
import Derived.Test.YtnmjbolollcokaaGreatDoorRcT
import Derived.Test.YtnmjbolollcokaaGreatDoorRcV4
import Derived.Lay
import Derived.Lib.LaidU8T
import Derived.PinnedBridge
import Derived.ProofKit
import Derived.SevenTiedAt
set_option linter.all false
namespace Go.Proofs.YtnmjbolollcokaaGreatDoor
open Go Go.Lib Go.Shelf Go.Proofs Go.ChangeShapes Go.WideShapes Go.ChangeAt Go.RowKit

theorem RH:ownKnob Tryz.prog.godebug=none:=by kernel_rfl
theorem Pi:laidOutB bc=true:=by kernel_rfl
theorem yq{H:Type}(enc:TypeId×Value→H)(W:World):wJ enc bc W 3 (wS (rI .i64) (tL .i64)):=BX pU (by kernel_rfl)
theorem MD{H:Type}(enc:TypeId×Value→H)(W:World):wJ enc bc W 42 (eU (wS (rI .i64) (tL .i64))):=nH d8 (by kernel_rfl) rfl (yq enc W)
theorem Tj{H:Type}(enc:TypeId×Value→H)(W:World):wJ enc bc W 4 (wS rB S4):=KZ Tryz.underlying4 (by kernel_rfl)
theorem Vs{H:Type}(enc:TypeId×Value→H)(W:World):wJ enc bc W 2 (wS (rI .i64) (tL .i64)):=BX Tryz.underlying2 (by kernel_rfl)
theorem RC{H:Type}(enc:TypeId×Value→H)(W:World):wJ enc bc W 126 (wS (rI .u64) (tL .u64)):=BX Tryz.underlying126 (by kernel_rfl)
theorem Ry{H:Type}(enc:TypeId×Value→H)(W:World):wJ enc bc W 9 (wS rS QK):=MA kV (by kernel_rfl)
def G8(x:cB):Prop:=(tL .i64) x.Kind∧(tL .i64) x.N∧(tL .u64) x.U∧QK x.S
def Cb:Rp cB:=lb (cc (wS (rI .i64) (tL .i64)) (cc (wS (rI .i64) (tL .i64)) (cc (wS (rI .u64) (tL .u64)) (wS rS QK)))) (fun x=>(x.Kind,x.N,x.U,x.S))
theorem Ld:Ez Cb dV G8:=pG (eW jm (eW jm (eW jm jm)))
theorem RB{H:Type}(enc:TypeId×Value→H)(W:World):wJ enc bc W 128 Cb:=j8 (l:=[(3,0),(2,1),(126,2),(9,3)]) (by kernel_rfl) (by kernel_rfl) (fun y=>⟨⟨y.1,y.2.1,y.2.2.1,y.2.2.2⟩,rfl⟩) (dY (yq enc W) rfl (dY (Vs enc W) rfl (dY (RC enc W) rfl (m9 (Ry enc W)))))
def Hb(x:aU):Prop:=(tL .i64) x.Tag∧(tL .i64) x.L∧(tL .i64) x.R∧(tL .i64) x.Col∧G8 x.Value
def yD:Rp aU:=lb (cc (wS (rI .i64) (tL .i64)) (cc (wS (rI .i64) (tL .i64)) (cc (wS (rI .i64) (tL .i64)) (cc (wS (rI .i64) (tL .i64)) Cb)))) (fun x=>(x.Tag,x.L,x.R,x.Col,x.Value))
theorem Lh:Ez yD aY Hb:=pG (eW jm (eW jm (eW jm (eW jm Ld))))
theorem RA{H:Type}(enc:TypeId×Value→H)(W:World):wJ enc bc W 130 yD:=j8 (l:=[(3,0),(3,1),(3,2),(3,3),(128,4)]) (by kernel_rfl) (by kernel_rfl) (fun y=>⟨⟨y.1,y.2.1,y.2.2.1,y.2.2.2.1,y.2.2.2.2⟩,rfl⟩) (dY (yq enc W) rfl (dY (yq enc W) rfl (dY (yq enc W) rfl (dY (yq enc W) rfl (m9 (RB enc W))))))
theorem Ti{H:Type}(enc:TypeId×Value→H)(W:World):wJ enc bc W 65 (eU yD):=nH l8 (by kernel_rfl) rfl (RA enc W)
def Bv(x:aT):Prop:=(NC Hb) x.Nodes
def wp:Rp aT:=lb (eU yD) (fun x=>(x.Nodes))
theorem Ce:Ez wp bz Bv:=pG (sW Lh)
theorem MC{H:Type}(enc:TypeId×Value→H)(W:World):wJ enc bc W 67 wp:=j8 (l:=[(65,0)]) (by kernel_rfl) (by kernel_rfl) (fun y=>⟨⟨y⟩,rfl⟩) (m9 (Ti enc W))
def Nj(x:gF):Prop:=(tL .i64) x.Tag∧Bv x.Arg
def E7:Rp gF:=lb (cc (wS (rI .i64) (tL .i64)) wp) (fun x=>(x.Tag,x.Arg))
theorem OZ:Ez E7 dW Nj:=pG (eW jm Ce)
theorem Td{H:Type}(enc:TypeId×Value→H)(W:World):wJ enc bc W 78 E7:=j8 (l:=[(3,0),(67,1)]) (by kernel_rfl) (by kernel_rfl) (fun y=>⟨⟨y.1,y.2⟩,rfl⟩) (dY (yq enc W) rfl (m9 (MC enc W)))
theorem Th{H:Type}(enc:TypeId×Value→H)(W:World):wJ enc bc W 68 (eU E7):=nH rX (by kernel_rfl) rfl (Td enc W)
theorem Tg{H:Type}(enc:TypeId×Value→H)(W:World):wJ enc bc W 69 (eU wp):=nH rY (by kernel_rfl) rfl (MC enc W)
def Nh(x:kT):Prop:=(tL .i64) x.Col∧S4 x.Desc
def E6:Rp kT:=lb (cc (wS (rI .i64) (tL .i64)) (wS rB S4)) (fun x=>(x.Col,x.Desc))
theorem OY:Ez E6 ke Nh:=pG (eW jm jm)
theorem Rz{H:Type}(enc:TypeId×Value→H)(W:World):wJ enc bc W 173 E6:=j8 (l:=[(3,0),(4,1)]) (by kernel_rfl) (by kernel_rfl) (fun y=>⟨⟨y.1,y.2⟩,rfl⟩) (dY (yq enc W) rfl (m9 (Tj enc W)))
theorem Tf{H:Type}(enc:TypeId×Value→H)(W:World):wJ enc bc W 70 (eU E6):=nH yl (by kernel_rfl) rfl (Rz enc W)
def Ha(x:M):Prop:=(tL .i64) x.Op∧(tL .i64) x.A∧(tL .i64) x.B∧(tL .i64) x.Table∧(NC (tL .i64)) x.Kinds∧S4 x.Left∧Bv x.Cond∧(NC (tL .i64)) x.Keys∧(NC Nj) x.Aggs∧(NC Bv) x.Items∧(NC Nh) x.Order∧(tL .i64) x.Limit
def yC:Rp M:=lb (cc (wS (rI .i64) (tL .i64)) (cc (wS (rI .i64) (tL .i64)) (cc (wS (rI .i64) (tL .i64)) (cc (wS (rI .i64) (tL .i64)) (cc (eU (wS (rI .i64) (tL .i64))) (cc (wS rB S4) (cc wp (cc (eU (wS (rI .i64) (tL .i64))) (cc (eU E7) (cc (eU wp) (cc (eU E6) (wS (rI .i64) (tL .i64))))))))))))) (fun x=>(x.Op,x.A,x.B,x.Table,x.Kinds,x.Left,x.Cond,x.Keys,x.Aggs,x.Items,x.Order,x.Limit))
theorem Lg:Ez yC ai Ha:=pG (eW jm (eW jm (eW jm (eW jm (eW (sW jm) (eW jm (eW Ce (eW (sW jm) (eW (sW OZ) (eW (sW Ce) (eW (sW OY) jm)))))))))))
theorem Te{H:Type}(enc:TypeId×Value→H)(W:World):wJ enc bc W 72 yC:=j8 (l:=[(3,0),(3,1),(3,2),(3,3),(42,4),(4,5),(67,6),(42,7),(68,8),(69,9),(70,10),(3,11)]) (by kernel_rfl) (by kernel_rfl) (fun y=>⟨⟨y.1,y.2.1,y.2.2.1,y.2.2.2.1,y.2.2.2.2.1,y.2.2.2.2.2.1,y.2.2.2.2.2.2.1,y.2.2.2.2.2.2.2.1,y.2.2.2.2.2.2.2.2.1,y.2.2.2.2.2.2.2.2.2.1,y.2.2.2.2.2.2.2.2.2.2.1,y.2.2.2.2.2.2.2.2.2.2.2⟩,rfl⟩) (dY (yq enc W) rfl (dY (yq enc W) rfl (dY (yq enc W) rfl (dY (yq enc W) rfl (dY (MD enc W) rfl (dY (Tj enc W) rfl (dY (MC enc W) rfl (dY (MD enc W) rfl (dY (Th enc W) rfl (dY (Tg enc W) rfl (dY (Tf enc W) rfl (m9 (yq enc W)))))))))))))
theorem Tn{H:Type}(enc:TypeId×Value→H)(W:World):wJ enc bc W 22 (eU yC):=nH ly (by kernel_rfl) rfl (Te enc W)
def Ni(x:bK):Prop:=(NC Ha) x.Nodes
def GN:Rp bK:=lb (eU yC) (fun x=>(x.Nodes))
theorem Lf:Ez GN cH Ni:=pG (sW Lg)
theorem Tm{H:Type}(enc:TypeId×Value→H)(W:World):wJ enc bc W 24 GN:=j8 (l:=[(22,0)]) (by kernel_rfl) (by kernel_rfl) (fun y=>⟨⟨y⟩,rfl⟩) (m9 (Tn enc W))
def Ea(x:bn):Prop:=QK x.Name∧(tL .i64) x.Kind
def wq:Rp bn:=lb (cc (wS rS QK) (wS (rI .i64) (tL .i64))) (fun x=>(x.Name,x.Kind))
theorem IL:Ez wq dk Ea:=pG (eW jm jm)
theorem Ta{H:Type}(enc:TypeId×Value→H)(W:World):wJ enc bc W 85 wq:=j8 (l:=[(9,0),(3,1)]) (by kernel_rfl) (by kernel_rfl) (fun y=>⟨⟨y.1,y.2⟩,rfl⟩) (dY (Ry enc W) rfl (m9 (yq enc W)))
theorem Tc{H:Type}(enc:TypeId×Value→H)(W:World):wJ enc bc W 81 (eU wq):=nH vd (by kernel_rfl) rfl (Ta enc W)
def G9(x:br):Prop:=QK x.Name∧(NC Ea) x.Columns∧(NC (tL .i64)) x.Keys
def yB:Rp br:=lb (cc (wS rS QK) (cc (eU wq) (eU (wS (rI .i64) (tL .i64))))) (fun x=>(x.Name,x.Columns,x.Keys))
theorem Le:Ez yB di G9:=pG (eW jm (eW (sW IL) (sW jm)))
theorem Tb{H:Type}(enc:TypeId×Value→H)(W:World):wJ enc bc W 83 yB:=j8 (l:=[(9,0),(81,1),(42,2)]) (by kernel_rfl) (by kernel_rfl) (fun y=>⟨⟨y.1,y.2.1,y.2.2⟩,rfl⟩) (dY (Ry enc W) rfl (dY (Tc enc W) rfl (m9 (MD enc W))))
theorem Tl{H:Type}(enc:TypeId×Value→H)(W:World):wJ enc bc W 25 (eU yB):=nH zC (by kernel_rfl) rfl (Tb enc W)
def I2(x:bG):Prop:=(NC G9) x.Tables
def Cc:Rp bG:=lb (eU yB) (fun x=>(x.Tables))
theorem GU:Ez Cc eh I2:=pG (sW Le)
theorem Tk{H:Type}(enc:TypeId×Value→H)(W:World):wJ enc bc W 27 Cc:=j8 (l:=[(25,0)]) (by kernel_rfl) (by kernel_rfl) (fun y=>⟨⟨y⟩,rfl⟩) (m9 (Tl enc W))
theorem eu{a b:Bool}(h:a=true)(k:b=true):(a&&b)=true:=by rw [h,k];rfl
theorem wu:(laidOutB Tryz.pinned.checked.prog)=true∧(mapsRowed Tryz.pinned.checked.prog)=true∧((Tryz.pinned.checked.prog.stops==[]))=true∧((Tryz.pinned.checked.prog.stopKnobs==[]))=true∧(Tryz.pinned.checked.prog.stopsHeard)=true∧(Tryz.pinned.checked.prog.mayEnter)=true:=by
 have h:((laidOutB Tryz.pinned.checked.prog)&&((mapsRowed Tryz.pinned.checked.prog)&&(((Tryz.pinned.checked.prog.stops==[]))&&(((Tryz.pinned.checked.prog.stopKnobs==[]))&&((Tryz.pinned.checked.prog.stopsHeard)&&((Tryz.pinned.checked.prog.mayEnter)))))))=true:=by kernel_rfl
 simpa only [jD] using h
theorem O5:Tryz.pinned.checked.prog.mainIs=some (true,("2279216227f6392ae59b4ac39390836c23730c69cea3a1571a4ea39c3eac179e" :String).toList):=by kernel_rfl
theorem MX:false=Tryz.pinned.checked.prog.looks []:=by kernel_rfl
def yP:List (String×DataW Unit):=[("unicode/utf8.acceptRanges",Rows.laid_unicode_utf8_acceptRanges),("bowsprit/lex.words",Rows.laid_bowsprit_lex_words),("bowsprit/catalog.kinds",Rows.laid_bowsprit_catalog_kinds),("unicode.CaseRanges",Rows.laid_unicode_CaseRanges),("unicode/utf8.first",Rows.laid_unicode_utf8_first)]
theorem VF:Tryz.prog.globalNamed "bowsprit/lex.words" =some 1:=by kernel_rfl
theorem VB:(Tryz.prog.globals[1]?).map (·.type)=some 255:=by kernel_rfl
set_option maxRecDepth 100000 in
theorem VD(W:World):QW bc W false 255 Rows.laid_bowsprit_lex_words [.string ⟨([83,69,76,69,67,84]:List UInt8).toArray⟩,.string ⟨([68,73,83,84,73,78,67,84]:List UInt8).toArray⟩,.string ⟨([70,82,79,77]:List UInt8).toArray⟩,.string ⟨([76,69,70,84]:List UInt8).toArray⟩,.string ⟨([74,79,73,78]:List UInt8).toArray⟩,.string ⟨([79,78]:List UInt8).toArray⟩,.string ⟨([87,72,69,82,69]:List UInt8).toArray⟩,.string ⟨([71,82,79,85,80]:List UInt8).toArray⟩,.string ⟨([66,89]:List UInt8).toArray⟩,.string ⟨([72,65,86,73,78,71]:List UInt8).toArray⟩,.string ⟨([85,78,73,79,78]:List UInt8).toArray⟩,.string ⟨([65,76,76]:List UInt8).toArray⟩,.string ⟨([79,82,68,69,82]:List UInt8).toArray⟩,.string ⟨([76,73,77,73,84]:List UInt8).toArray⟩,.string ⟨([65,83,67]:List UInt8).toArray⟩,.string ⟨([68,69,83,67]:List UInt8).toArray⟩,.string ⟨([65,83]:List UInt8).toArray⟩,.string ⟨([65,78,68]:List UInt8).toArray⟩,.string ⟨([79,82]:List UInt8).toArray⟩,.string ⟨([78,79,84]:List UInt8).toArray⟩,.string ⟨([73,83]:List UInt8).toArray⟩,.string ⟨([78,85,76,76]:List UInt8).toArray⟩,.string ⟨([84,82,85,69]:List UInt8).toArray⟩,.string ⟨([70,65,76,83,69]:List UInt8).toArray⟩,.string ⟨([67,79,85,78,84]:List UInt8).toArray⟩,.string ⟨([83,85,77]:List UInt8).toArray⟩,.string ⟨([77,73,78]:List UInt8).toArray⟩,.string ⟨([77,65,88]:List UInt8).toArray⟩]:=JR Tryz.underlying255 (by kernel_rfl) (by rw [show Tryz.prog.cellsOf 9=1 from by kernel_rfl];exact(show FC _ _ _ 0 [(9,0),(9,1),(9,2),(9,3),(9,4),(9,5),(9,6),(9,7),(9,8),(9,9),(9,10),(9,11),(9,12),(9,13),(9,14),(9,15),(9,16),(9,17),(9,18),(9,19),(9,20),(9,21),(9,22),(9,23),(9,24),(9,25),(9,26),(9,27)] _ _ from dq (eg kV (by kernel_rfl)) rfl (dq (eg kV (by kernel_rfl)) rfl (dq (eg kV (by kernel_rfl)) rfl (dq (eg kV (by kernel_rfl)) rfl (dq (eg kV (by kernel_rfl)) rfl (dq (eg kV (by kernel_rfl)) rfl (dq (eg kV (by kernel_rfl)) rfl (dq (eg kV (by kernel_rfl)) rfl (dq (eg kV (by kernel_rfl)) rfl (dq (eg kV (by kernel_rfl)) rfl (dq (eg kV (by kernel_rfl)) rfl (dq (eg kV (by kernel_rfl)) rfl (dq (eg kV (by kernel_rfl)) rfl (dq (eg kV (by kernel_rfl)) rfl (dq (eg kV (by kernel_rfl)) rfl (dq (eg kV (by kernel_rfl)) rfl (dq (eg kV (by kernel_rfl)) rfl (dq (eg kV (by kernel_rfl)) rfl (dq (eg kV (by kernel_rfl)) rfl (dq (eg kV (by kernel_rfl)) rfl (dq (eg kV (by kernel_rfl)) rfl (dq (eg kV (by kernel_rfl)) rfl (dq (eg kV (by kernel_rfl)) rfl (dq (eg kV (by kernel_rfl)) rfl (dq (eg kV (by kernel_rfl)) rfl (dq (eg kV (by kernel_rfl)) rfl (dq (eg kV (by kernel_rfl)) rfl (dq (eg kV (by kernel_rfl)) rfl (CA))))))))))))))))))))))))))))))
theorem VG:Tryz.prog.globalNamed "bowsprit/catalog.kinds" =some 0:=by kernel_rfl
theorem VC:(Tryz.prog.globals[0]?).map (·.type)=some 233:=by kernel_rfl
set_option maxRecDepth 100000 in
theorem VE(W:World):QW bc W false 233 Rows.laid_bowsprit_catalog_kinds [.string ⟨([98,111,111,108]:List UInt8).toArray⟩,.int .i64 (1),.string ⟨([105,110,116]:List UInt8).toArray⟩,.int .i64 (2),.string ⟨([116,101,120,116]:List UInt8).toArray⟩,.int .i64 (3)]:=JR Tryz.underlying233 (by kernel_rfl) (by rw [show Tryz.prog.cellsOf 232=2 from by kernel_rfl];exact(show FC _ _ _ 0 [(232,0),(232,2),(232,4)] _ _ from dq (xp (l:=[(9,0),(3,1)]) (by kernel_rfl) (by kernel_rfl) (dq (eg kV (by kernel_rfl)) rfl (dq (ES pU (by kernel_rfl)) rfl (CA)))) rfl (dq (xp (l:=[(9,0),(3,1)]) (by kernel_rfl) (by kernel_rfl) (dq (eg kV (by kernel_rfl)) rfl (dq (ES pU (by kernel_rfl)) rfl (CA)))) rfl (dq (xp (l:=[(9,0),(3,1)]) (by kernel_rfl) (by kernel_rfl) (dq (eg kV (by kernel_rfl)) rfl (dq (ES pU (by kernel_rfl)) rfl (CA)))) rfl (CA)))))
set_option maxRecDepth 100000 in
theorem Oc(os:Os)(args:Array Value):laidMetH bc yP ((World.laidAll bc os yP).forCall (fun _ _=>0) ⟨#[],args,[]⟩).memory:=by
 rw [MakeChecks.laidMetH_plain _ _ _ (by kernel_rfl)]
 exact laidMet_laidAll _ (by kernel_rfl) (by kernel_rfl)
theorem LI{W:World}(h:laidMetH bc yP W): ∀p∈glob,∃c T fr,W.heap[p.1]? =some (.cells c T fr)∧c.toList.take p.2.length=p.2:=by
 rw [MakeChecks.laidMetH_plain _ _ _ (by kernel_rfl)]at h
 intro p hp
 simp only [glob,gz,List.not_mem_nil,or_false]at hp
 rcases hp with rfl|rfl
 ·exact yY h (nE _ (nE _ (nm ..))) VG VC (VE W)
 ·exact yY h (nE _ (nm ..)) VF VB (VD W)
theorem Vh:Go.Proofs.CaseExtra bc lZ:=⟨by kernel_rfl,by kernel_rfl,by kernel_rfl,by kernel_rfl,by kernel_rfl,by kernel_rfl⟩
theorem u8X:Go.Proofs.U8Extra bc lZ:=⟨by kernel_rfl,by kernel_rfl,by kernel_rfl,by kernel_rfl,by kernel_rfl,by kernel_rfl,by kernel_rfl⟩
theorem Mc:(Rows.laid_unicode_utf8_acceptRanges:DataW Unit)=acceptData:=by kernel_rfl
theorem MJ{W:World}(h:laidMetH bc yP W):K0 W:=by
 rw [MakeChecks.laidMetH_plain _ _ _ (by kernel_rfl)]at h
 have h1:VarReads bc W "unicode.CaseRanges" caseData:=Pinned.caseRanges_eq▸Lib.laidMet.reads h (nE _ (nE _ (nE _ (nm ..))))
 have h2:VarReads bc W "unicode/utf8.first" firstData:=Pinned.utf8First_eq▸Lib.laidMet.reads h (nE _ (nE _ (nE _ (nE _ (nm ..)))))
 have h3:VarReads bc W "unicode/utf8.acceptRanges" acceptData:=Mc▸Lib.laidMet.reads h (nm ..)
 exact⟨caseVar_of_reads {th with} (by kernel_rfl) Vh h1,utf8Tabs_of_readsT {th with} u8X h2 h3⟩
theorem MI{W:World}(h:laidMetH bc yP W): ∀w' :World,(∀(b:Nat) (o:Obj),W.heap[b]? =some o→ ∃o',w'.heap[b]? =some o' ∧Dc o o')→K0 w' :=fun _ hle=>⟨H3 hle (MJ h).1,FU hle (MJ h).2⟩
end Go.Proofs.YtnmjbolollcokaaGreatDoor

