/- cJ of this claim: A0. -/
import Derived.Test.YtnmjbolollcokaaGreatDoorRows
import Derived.Test.YtnmjbolollcokaaGreatDoorRbT
import Derived.Test.YtnmjbolollcokaaGreatDoorRbV4
import Derived.Lay
import Derived.Lib.LaidU8T
import Derived.PinnedBridge
import Derived.ProofKit
import Derived.SevenTiedAt
set_option linter.all false
namespace Go.Proofs.YtnmjbolollcokaaGreatDoor
open Go Go.Lib Go.Shelf Go.Proofs Go.ChangeShapes Go.WideShapes Go.ChangeAt Go.RowKit

theorem IC:ownKnob Tryz.prog.godebug=none:=by kernel_rfl
theorem Gz:laidOutB ba=true:=by kernel_rfl
theorem qZ{H:Type}(enc:TypeId×Value→H)(W:World):q7 enc ba W 3 (ri (rI .i64) (nY .i64)):=vE ku (by kernel_rfl)
theorem EJ{H:Type}(enc:TypeId×Value→H)(W:World):q7 enc ba W 42 (dz (ri (rI .i64) (nY .i64))):=k4 dm (by kernel_rfl) rfl (qZ enc W)
theorem J4{H:Type}(enc:TypeId×Value→H)(W:World):q7 enc ba W 4 (ri rB JR):=Do Tryz.underlying4 (by kernel_rfl)
theorem LX{H:Type}(enc:TypeId×Value→H)(W:World):q7 enc ba W 2 (ri (rI .i64) (nY .i64)):=vE Tryz.underlying2 (by kernel_rfl)
theorem Iy{H:Type}(enc:TypeId×Value→H)(W:World):q7 enc ba W 126 (ri (rI .u64) (nY .u64)):=vE Tryz.underlying126 (by kernel_rfl)
theorem LW{H:Type}(enc:TypeId×Value→H)(W:World):q7 enc ba W 9 (ri rS LT):=EG ip (by kernel_rfl)
def Au(x:de):Prop:=(nY .i64) x.Kind∧(nY .i64) x.N∧(nY .u64) x.U∧LT x.S
def vR:Rp de:=iG (bO (ri (rI .i64) (nY .i64)) (bO (ri (rI .i64) (nY .i64)) (bO (ri (rI .u64) (nY .u64)) (ri rS LT)))) (fun x=>(x.Kind,x.N,x.U,x.S))
theorem DB:zu vR db Au:=nm (dA fH (dA fH (dA fH fH)))
theorem Ix{H:Type}(enc:TypeId×Value→H)(W:World):q7 enc ba W 128 vR:=i7 (l:=[(3,0),(2,1),(126,2),(9,3)]) (by kernel_rfl) (by kernel_rfl) (fun y=>⟨⟨y.1,y.2.1,y.2.2.1,y.2.2.2⟩,rfl⟩) (dd (qZ enc W) rfl (dd (LX enc W) rfl (dd (Iy enc W) rfl (lJ (LW enc W)))))
def Aw(x:bT):Prop:=(nY .i64) x.Tag∧(nY .i64) x.L∧(nY .i64) x.R∧(nY .i64) x.Col∧Au x.Value
def sr:Rp bT:=iG (bO (ri (rI .i64) (nY .i64)) (bO (ri (rI .i64) (nY .i64)) (bO (ri (rI .i64) (nY .i64)) (bO (ri (rI .i64) (nY .i64)) vR)))) (fun x=>(x.Tag,x.L,x.R,x.Col,x.Value))
theorem DD:zu sr aY Aw:=nm (dA fH (dA fH (dA fH (dA fH DB))))
theorem Iw{H:Type}(enc:TypeId×Value→H)(W:World):q7 enc ba W 130 sr:=i7 (l:=[(3,0),(3,1),(3,2),(3,3),(128,4)]) (by kernel_rfl) (by kernel_rfl) (fun y=>⟨⟨y.1,y.2.1,y.2.2.1,y.2.2.2.1,y.2.2.2.2⟩,rfl⟩) (dd (qZ enc W) rfl (dd (qZ enc W) rfl (dd (qZ enc W) rfl (dd (qZ enc W) rfl (lJ (Ix enc W))))))
theorem J3{H:Type}(enc:TypeId×Value→H)(W:World):q7 enc ba W 65 (dz sr):=k4 iT (by kernel_rfl) rfl (Iw enc W)
def vg(x:bw):Prop:=(F9 Aw) x.Nodes
def qG:Rp bw:=iG (dz sr) (fun x=>(x.Nodes))
theorem vS:zu qG br vg:=nm (oP DD)
theorem EI{H:Type}(enc:TypeId×Value→H)(W:World):q7 enc ba W 67 qG:=i7 (l:=[(65,0)]) (by kernel_rfl) (by kernel_rfl) (fun y=>⟨⟨y⟩,rfl⟩) (lJ (J3 enc W))
def E9(x:ko):Prop:=(nY .i64) x.Tag∧vg x.Arg
def yP:Rp ko:=iG (bO (ri (rI .i64) (nY .i64)) qG) (fun x=>(x.Tag,x.Arg))
theorem Gq:zu yP dc E9:=nm (dA fH vS)
theorem JX{H:Type}(enc:TypeId×Value→H)(W:World):q7 enc ba W 78 yP:=i7 (l:=[(3,0),(67,1)]) (by kernel_rfl) (by kernel_rfl) (fun y=>⟨⟨y.1,y.2⟩,rfl⟩) (dd (qZ enc W) rfl (lJ (EI enc W)))
theorem J2{H:Type}(enc:TypeId×Value→H)(W:World):q7 enc ba W 68 (dz yP):=k4 nf (by kernel_rfl) rfl (JX enc W)
theorem J1{H:Type}(enc:TypeId×Value→H)(W:World):q7 enc ba W 69 (dz qG):=k4 nc (by kernel_rfl) rfl (EI enc W)
def E8(x:jD):Prop:=(nY .i64) x.Col∧JR x.Desc
def yO:Rp jD:=iG (bO (ri (rI .i64) (nY .i64)) (ri rB JR)) (fun x=>(x.Col,x.Desc))
theorem Gp:zu yO gp E8:=nm (dA fH fH)
theorem Iv{H:Type}(enc:TypeId×Value→H)(W:World):q7 enc ba W 173 yO:=i7 (l:=[(3,0),(4,1)]) (by kernel_rfl) (by kernel_rfl) (fun y=>⟨⟨y.1,y.2⟩,rfl⟩) (dd (qZ enc W) rfl (lJ (J4 enc W)))
theorem J0{H:Type}(enc:TypeId×Value→H)(W:World):q7 enc ba W 70 (dz yO):=k4 yl (by kernel_rfl) rfl (Iv enc W)
def Av(x:ai):Prop:=(nY .i64) x.Op∧(nY .i64) x.A∧(nY .i64) x.B∧(nY .i64) x.Table∧(F9 (nY .i64)) x.Kinds∧JR x.Left∧vg x.Cond∧(F9 (nY .i64)) x.Keys∧(F9 E9) x.Aggs∧(F9 vg) x.Items∧(F9 E8) x.Order∧(nY .i64) x.Limit
def sq:Rp ai:=iG (bO (ri (rI .i64) (nY .i64)) (bO (ri (rI .i64) (nY .i64)) (bO (ri (rI .i64) (nY .i64)) (bO (ri (rI .i64) (nY .i64)) (bO (dz (ri (rI .i64) (nY .i64))) (bO (ri rB JR) (bO qG (bO (dz (ri (rI .i64) (nY .i64))) (bO (dz yP) (bO (dz qG) (bO (dz yO) (ri (rI .i64) (nY .i64))))))))))))) (fun x=>(x.Op,x.A,x.B,x.Table,x.Kinds,x.Left,x.Cond,x.Keys,x.Aggs,x.Items,x.Order,x.Limit))
theorem DC:zu sq ak Av:=nm (dA fH (dA fH (dA fH (dA fH (dA (oP fH) (dA fH (dA vS (dA (oP fH) (dA (oP Gq) (dA (oP vS) (dA (oP Gp) fH)))))))))))
theorem JZ{H:Type}(enc:TypeId×Value→H)(W:World):q7 enc ba W 72 sq:=i7 (l:=[(3,0),(3,1),(3,2),(3,3),(42,4),(4,5),(67,6),(42,7),(68,8),(69,9),(70,10),(3,11)]) (by kernel_rfl) (by kernel_rfl) (fun y=>⟨⟨y.1,y.2.1,y.2.2.1,y.2.2.2.1,y.2.2.2.2.1,y.2.2.2.2.2.1,y.2.2.2.2.2.2.1,y.2.2.2.2.2.2.2.1,y.2.2.2.2.2.2.2.2.1,y.2.2.2.2.2.2.2.2.2.1,y.2.2.2.2.2.2.2.2.2.2.1,y.2.2.2.2.2.2.2.2.2.2.2⟩,rfl⟩) (dd (qZ enc W) rfl (dd (qZ enc W) rfl (dd (qZ enc W) rfl (dd (qZ enc W) rfl (dd (EJ enc W) rfl (dd (J4 enc W) rfl (dd (EI enc W) rfl (dd (EJ enc W) rfl (dd (J2 enc W) rfl (dd (J1 enc W) rfl (dd (J0 enc W) rfl (lJ (qZ enc W)))))))))))))
theorem J7{H:Type}(enc:TypeId×Value→H)(W:World):q7 enc ba W 22 (dz sq):=k4 iq (by kernel_rfl) rfl (JZ enc W)
def CJ(x:cA):Prop:=(F9 Av) x.Nodes∧(nY .i64) x.At∧(nY .i64) x.Way∧(F9 (nY .i64)) x.Cols
def vb:Rp cA:=iG (bO (dz sq) (bO (ri (rI .i64) (nY .i64)) (bO (ri (rI .i64) (nY .i64)) (dz (ri (rI .i64) (nY .i64)))))) (fun x=>(x.Nodes,x.At,x.Way,x.Cols))
theorem EY:zu vb aN CJ:=nm (dA (oP DC) (dA fH (dA fH (oP fH))))
theorem JY{H:Type}(enc:TypeId×Value→H)(W:World):q7 enc ba W 74 vb:=i7 (l:=[(22,0),(3,1),(3,2),(42,3)]) (by kernel_rfl) (by kernel_rfl) (fun y=>⟨⟨y.1,y.2.1,y.2.2.1,y.2.2.2⟩,rfl⟩) (dd (J7 enc W) rfl (dd (qZ enc W) rfl (dd (qZ enc W) rfl (lJ (EJ enc W)))))
theorem J6{H:Type}(enc:TypeId×Value→H)(W:World):q7 enc ba W 31 (dz vb):=k4 lP (by kernel_rfl) rfl (JY enc W)
def Gy(x:bW):Prop:=(F9 CJ) x.Frags
def Cy:Rp bW:=iG (dz vb) (fun x=>(x.Frags))
theorem EX:zu Cy bB Gy:=nm (oP EY)
theorem J5{H:Type}(enc:TypeId×Value→H)(W:World):q7 enc ba W 33 Cy:=i7 (l:=[(31,0)]) (by kernel_rfl) (by kernel_rfl) (fun y=>⟨⟨y⟩,rfl⟩) (lJ (J6 enc W))
theorem dl{a b:Bool}(h:a=true)(k:b=true):(a&&b)=true:=by rw [h,k];rfl
theorem qJ:(laidOutB Tryz.pinned.checked.prog)=true∧(mapsRowed Tryz.pinned.checked.prog)=true∧((Tryz.pinned.checked.prog.stops==[]))=true∧((Tryz.pinned.checked.prog.stopKnobs==[]))=true∧(Tryz.pinned.checked.prog.stopsHeard)=true∧(Tryz.pinned.checked.prog.mayEnter)=true:=by
 have h:((laidOutB Tryz.pinned.checked.prog)&&((mapsRowed Tryz.pinned.checked.prog)&&(((Tryz.pinned.checked.prog.stops==[]))&&(((Tryz.pinned.checked.prog.stopKnobs==[]))&&((Tryz.pinned.checked.prog.stopsHeard)&&((Tryz.pinned.checked.prog.mayEnter)))))))=true:=by kernel_rfl
 simpa only [ki] using h
theorem Gr:Tryz.pinned.checked.prog.mainIs=some (true,("2279216227f6392ae59b4ac39390836c23730c69cea3a1571a4ea39c3eac179e" :String).toList):=by kernel_rfl
theorem E2:false=Tryz.pinned.checked.prog.looks []:=by kernel_rfl
def sC:List (String×DataW Unit):=[("unicode/utf8.acceptRanges",Rows.laid_unicode_utf8_acceptRanges),("bowsprit/lex.words",Rows.laid_bowsprit_lex_words),("bowsprit/catalog.kinds",Rows.laid_bowsprit_catalog_kinds),("unicode.CaseRanges",Rows.laid_unicode_CaseRanges),("unicode/utf8.first",Rows.laid_unicode_utf8_first)]
theorem Mj:Tryz.prog.globalNamed "bowsprit/lex.words" =some 1:=by kernel_rfl
theorem Me:(Tryz.prog.globals[1]?).map (·.type)=some 255:=by kernel_rfl
set_option maxRecDepth 100000 in
theorem Mg(W:World):HV ba W false 255 Rows.laid_bowsprit_lex_words [.string ⟨([83,69,76,69,67,84]:List UInt8).toArray⟩,.string ⟨([68,73,83,84,73,78,67,84]:List UInt8).toArray⟩,.string ⟨([70,82,79,77]:List UInt8).toArray⟩,.string ⟨([76,69,70,84]:List UInt8).toArray⟩,.string ⟨([74,79,73,78]:List UInt8).toArray⟩,.string ⟨([79,78]:List UInt8).toArray⟩,.string ⟨([87,72,69,82,69]:List UInt8).toArray⟩,.string ⟨([71,82,79,85,80]:List UInt8).toArray⟩,.string ⟨([66,89]:List UInt8).toArray⟩,.string ⟨([72,65,86,73,78,71]:List UInt8).toArray⟩,.string ⟨([85,78,73,79,78]:List UInt8).toArray⟩,.string ⟨([65,76,76]:List UInt8).toArray⟩,.string ⟨([79,82,68,69,82]:List UInt8).toArray⟩,.string ⟨([76,73,77,73,84]:List UInt8).toArray⟩,.string ⟨([65,83,67]:List UInt8).toArray⟩,.string ⟨([68,69,83,67]:List UInt8).toArray⟩,.string ⟨([65,83]:List UInt8).toArray⟩,.string ⟨([65,78,68]:List UInt8).toArray⟩,.string ⟨([79,82]:List UInt8).toArray⟩,.string ⟨([78,79,84]:List UInt8).toArray⟩,.string ⟨([73,83]:List UInt8).toArray⟩,.string ⟨([78,85,76,76]:List UInt8).toArray⟩,.string ⟨([84,82,85,69]:List UInt8).toArray⟩,.string ⟨([70,65,76,83,69]:List UInt8).toArray⟩,.string ⟨([67,79,85,78,84]:List UInt8).toArray⟩,.string ⟨([83,85,77]:List UInt8).toArray⟩,.string ⟨([77,73,78]:List UInt8).toArray⟩,.string ⟨([77,65,88]:List UInt8).toArray⟩]:=Cv Tryz.underlying255 (by kernel_rfl) (by rw [show Tryz.prog.cellsOf 9=1 from by kernel_rfl];exact(show FC _ _ _ 0 [(9,0),(9,1),(9,2),(9,3),(9,4),(9,5),(9,6),(9,7),(9,8),(9,9),(9,10),(9,11),(9,12),(9,13),(9,14),(9,15),(9,16),(9,17),(9,18),(9,19),(9,20),(9,21),(9,22),(9,23),(9,24),(9,25),(9,26),(9,27)] _ _ from cK (dj ip (by kernel_rfl)) rfl (cK (dj ip (by kernel_rfl)) rfl (cK (dj ip (by kernel_rfl)) rfl (cK (dj ip (by kernel_rfl)) rfl (cK (dj ip (by kernel_rfl)) rfl (cK (dj ip (by kernel_rfl)) rfl (cK (dj ip (by kernel_rfl)) rfl (cK (dj ip (by kernel_rfl)) rfl (cK (dj ip (by kernel_rfl)) rfl (cK (dj ip (by kernel_rfl)) rfl (cK (dj ip (by kernel_rfl)) rfl (cK (dj ip (by kernel_rfl)) rfl (cK (dj ip (by kernel_rfl)) rfl (cK (dj ip (by kernel_rfl)) rfl (cK (dj ip (by kernel_rfl)) rfl (cK (dj ip (by kernel_rfl)) rfl (cK (dj ip (by kernel_rfl)) rfl (cK (dj ip (by kernel_rfl)) rfl (cK (dj ip (by kernel_rfl)) rfl (cK (dj ip (by kernel_rfl)) rfl (cK (dj ip (by kernel_rfl)) rfl (cK (dj ip (by kernel_rfl)) rfl (cK (dj ip (by kernel_rfl)) rfl (cK (dj ip (by kernel_rfl)) rfl (cK (dj ip (by kernel_rfl)) rfl (cK (dj ip (by kernel_rfl)) rfl (cK (dj ip (by kernel_rfl)) rfl (cK (dj ip (by kernel_rfl)) rfl (wl))))))))))))))))))))))))))))))
theorem Mk:Tryz.prog.globalNamed "bowsprit/catalog.kinds" =some 0:=by kernel_rfl
theorem Mf:(Tryz.prog.globals[0]?).map (·.type)=some 233:=by kernel_rfl
set_option maxRecDepth 100000 in
theorem Mh(W:World):HV ba W false 233 Rows.laid_bowsprit_catalog_kinds [.string ⟨([98,111,111,108]:List UInt8).toArray⟩,.int .i64 (1),.string ⟨([105,110,116]:List UInt8).toArray⟩,.int .i64 (2),.string ⟨([116,101,120,116]:List UInt8).toArray⟩,.int .i64 (3)]:=Cv Tryz.underlying233 (by kernel_rfl) (by rw [show Tryz.prog.cellsOf 232=2 from by kernel_rfl];exact(show FC _ _ _ 0 [(232,0),(232,2),(232,4)] _ _ from cK (ry (l:=[(9,0),(3,1)]) (by kernel_rfl) (by kernel_rfl) (cK (dj ip (by kernel_rfl)) rfl (cK (yz ku (by kernel_rfl)) rfl (wl)))) rfl (cK (ry (l:=[(9,0),(3,1)]) (by kernel_rfl) (by kernel_rfl) (cK (dj ip (by kernel_rfl)) rfl (cK (yz ku (by kernel_rfl)) rfl (wl)))) rfl (cK (ry (l:=[(9,0),(3,1)]) (by kernel_rfl) (by kernel_rfl) (cK (dj ip (by kernel_rfl)) rfl (cK (yz ku (by kernel_rfl)) rfl (wl)))) rfl (wl)))))
set_option maxRecDepth 100000 in
theorem FL(os:Os)(args:Array Value):laidMetH ba sC ((World.laidAll ba os sC).forCall (fun _ _=>0) ⟨#[],args,[]⟩).memory:=by
 rw [MakeChecks.laidMetH_plain _ _ _ (by kernel_rfl)]
 exact laidMet_laidAll _ (by kernel_rfl) (by kernel_rfl)
theorem DQ{W:World}(h:laidMetH ba sC W): ∀p∈glob,∃c T fr,W.heap[p.1]? =some (.cells c T fr)∧c.toList.take p.2.length=p.2:=by
 rw [MakeChecks.laidMetH_plain _ _ _ (by kernel_rfl)]at h
 intro p hp
 simp only [glob,lM,List.not_mem_nil,or_false]at hp
 rcases hp with rfl|rfl
 ·exact sI h (lA _ (lA _ (lr ..))) Mk Mf (Mh W)
 ·exact sI h (lA _ (lr ..)) Mj Me (Mg W)
theorem LO:Go.Proofs.CaseExtra ba iS:=⟨by kernel_rfl,by kernel_rfl,by kernel_rfl,by kernel_rfl,by kernel_rfl,by kernel_rfl⟩
theorem u8X:Go.Proofs.U8Extra ba iS:=⟨by kernel_rfl,by kernel_rfl,by kernel_rfl,by kernel_rfl,by kernel_rfl,by kernel_rfl,by kernel_rfl⟩
theorem Ec:(Rows.laid_unicode_utf8_acceptRanges:DataW Unit)=acceptData:=by kernel_rfl
theorem EM{W:World}(h:laidMetH ba sC W):Dt W:=by
 rw [MakeChecks.laidMetH_plain _ _ _ (by kernel_rfl)]at h
 have h1:VarReads ba W "unicode.CaseRanges" caseData:=Pinned.caseRanges_eq▸Lib.laidMet.reads h (lA _ (lA _ (lA _ (lr ..))))
 have h2:VarReads ba W "unicode/utf8.first" firstData:=Pinned.utf8First_eq▸Lib.laidMet.reads h (lA _ (lA _ (lA _ (lA _ (lr ..)))))
 have h3:VarReads ba W "unicode/utf8.acceptRanges" acceptData:=Ec▸Lib.laidMet.reads h (lr ..)
 exact⟨caseVar_of_reads {n7 with} (by kernel_rfl) LO h1,utf8Tabs_of_readsT {n7 with} u8X h2 h3⟩
theorem EL{W:World}(h:laidMetH ba sC W): ∀w' :World,(∀(b:Nat) (o:Obj),W.heap[b]? =some o→ ∃o',w'.heap[b]? =some o' ∧wT o o')→Dt w' :=fun _ hle=>⟨A6 hle (EM h).1,zr hle (EM h).2⟩
end Go.Proofs.YtnmjbolollcokaaGreatDoor

