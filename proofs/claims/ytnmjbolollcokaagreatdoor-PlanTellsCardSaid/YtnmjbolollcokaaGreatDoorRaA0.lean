/- cN of this claim: A0. -/
import Derived.Test.YtnmjbolollcokaaGreatDoorRows
import Derived.Test.YtnmjbolollcokaaGreatDoorRaT
import Derived.Test.YtnmjbolollcokaaGreatDoorRaV4
import Derived.Lay
import Derived.Lib.LaidU8T
import Derived.PinnedBridge
import Derived.ProofKit
import Derived.SevenTiedAt
set_option linter.all false
namespace Go.Proofs.YtnmjbolollcokaaGreatDoor
open Go Go.Lib Go.Shelf Go.Proofs Go.ChangeShapes Go.WideShapes Go.ChangeAt Go.RowKit

theorem Iu:ownKnob Tryz.prog.godebug=none:=by kernel_rfl
theorem Gs:laidOutB aX=true:=by kernel_rfl
theorem p3{H:Type}(enc:TypeId×Value→H)(W:World):rK enc aX W 3 (qv (rI .i64) (mL .i64)):=vI lj (by kernel_rfl)
theorem EF{H:Type}(enc:TypeId×Value→H)(W:World):rK enc aX W 42 (dG (qv (rI .i64) (mL .i64))):=lr cW (by kernel_rfl) rfl (p3 enc W)
theorem J2{H:Type}(enc:TypeId×Value→H)(W:World):rK enc aX W 4 (qv rB JN):=Dq Tryz.underlying4 (by kernel_rfl)
theorem LX{H:Type}(enc:TypeId×Value→H)(W:World):rK enc aX W 2 (qv (rI .i64) (mL .i64)):=vI Tryz.underlying2 (by kernel_rfl)
theorem Iq{H:Type}(enc:TypeId×Value→H)(W:World):rK enc aX W 126 (qv (rI .u64) (mL .u64)):=vI Tryz.underlying126 (by kernel_rfl)
theorem LW{H:Type}(enc:TypeId×Value→H)(W:World):rK enc aX W 9 (qv rS LT):=EC pQ (by kernel_rfl)
def Av(x:dh):Prop:=(mL .i64) x.Kind∧(mL .i64) x.N∧(mL .u64) x.U∧LT x.S
def vW:Rp dh:=il (bP (qv (rI .i64) (mL .i64)) (bP (qv (rI .i64) (mL .i64)) (bP (qv (rI .u64) (mL .u64)) (qv rS LT)))) (fun x=>(x.Kind,x.N,x.U,x.S))
theorem DD:zx vW de Av:=mI (dr eZ (dr eZ (dr eZ eZ)))
theorem Ip{H:Type}(enc:TypeId×Value→H)(W:World):rK enc aX W 128 vW:=ii (l:=[(3,0),(2,1),(126,2),(9,3)]) (by kernel_rfl) (by kernel_rfl) (fun y=>⟨⟨y.1,y.2.1,y.2.2.1,y.2.2.2⟩,rfl⟩) (cT (p3 enc W) rfl (cT (LX enc W) rfl (cT (Iq enc W) rfl (k4 (LW enc W)))))
def Ax(x:bT):Prop:=(mL .i64) x.Tag∧(mL .i64) x.L∧(mL .i64) x.R∧(mL .i64) x.Col∧Av x.Value
def sJ:Rp bT:=il (bP (qv (rI .i64) (mL .i64)) (bP (qv (rI .i64) (mL .i64)) (bP (qv (rI .i64) (mL .i64)) (bP (qv (rI .i64) (mL .i64)) vW)))) (fun x=>(x.Tag,x.L,x.R,x.Col,x.Value))
theorem DF:zx sJ aY Ax:=mI (dr eZ (dr eZ (dr eZ (dr eZ DD))))
theorem Io{H:Type}(enc:TypeId×Value→H)(W:World):rK enc aX W 130 sJ:=ii (l:=[(3,0),(3,1),(3,2),(3,3),(128,4)]) (by kernel_rfl) (by kernel_rfl) (fun y=>⟨⟨y.1,y.2.1,y.2.2.1,y.2.2.2.1,y.2.2.2.2⟩,rfl⟩) (cT (p3 enc W) rfl (cT (p3 enc W) rfl (cT (p3 enc W) rfl (cT (p3 enc W) rfl (k4 (Ip enc W))))))
theorem J0{H:Type}(enc:TypeId×Value→H)(W:World):rK enc aX W 65 (dG sJ):=lr je (by kernel_rfl) rfl (Io enc W)
def vp(x:bA):Prop:=(F1 Ax) x.Nodes
def q4:Rp bA:=il (dG sJ) (fun x=>(x.Nodes))
theorem vX:zx q4 bu vp:=mI (pb DF)
theorem EE{H:Type}(enc:TypeId×Value→H)(W:World):rK enc aX W 67 q4:=ii (l:=[(65,0)]) (by kernel_rfl) (by kernel_rfl) (fun y=>⟨⟨y⟩,rfl⟩) (k4 (J0 enc W))
def E2(x:kF):Prop:=(mL .i64) x.Tag∧vp x.Arg
def yT:Rp kF:=il (bP (qv (rI .i64) (mL .i64)) q4) (fun x=>(x.Tag,x.Arg))
theorem Gh:zx yT df E2:=mI (dr eZ vX)
theorem JU{H:Type}(enc:TypeId×Value→H)(W:World):rK enc aX W 78 yT:=ii (l:=[(3,0),(67,1)]) (by kernel_rfl) (by kernel_rfl) (fun y=>⟨⟨y.1,y.2⟩,rfl⟩) (cT (p3 enc W) rfl (k4 (EE enc W)))
theorem JZ{H:Type}(enc:TypeId×Value→H)(W:World):rK enc aX W 68 (dG yT):=lr ny (by kernel_rfl) rfl (JU enc W)
theorem JY{H:Type}(enc:TypeId×Value→H)(W:World):rK enc aX W 69 (dG q4):=lr nv (by kernel_rfl) rfl (EE enc W)
def E1(x:jP):Prop:=(mL .i64) x.Col∧JN x.Desc
def yS:Rp jP:=il (bP (qv (rI .i64) (mL .i64)) (qv rB JN)) (fun x=>(x.Col,x.Desc))
theorem Gg:zx yS gE E1:=mI (dr eZ eZ)
theorem Im{H:Type}(enc:TypeId×Value→H)(W:World):rK enc aX W 173 yS:=ii (l:=[(3,0),(4,1)]) (by kernel_rfl) (by kernel_rfl) (fun y=>⟨⟨y.1,y.2⟩,rfl⟩) (cT (p3 enc W) rfl (k4 (J2 enc W)))
theorem JX{H:Type}(enc:TypeId×Value→H)(W:World):rK enc aX W 70 (dG yS):=lr yp (by kernel_rfl) rfl (Im enc W)
def Aw(x:ai):Prop:=(mL .i64) x.Op∧(mL .i64) x.A∧(mL .i64) x.B∧(mL .i64) x.Table∧(F1 (mL .i64)) x.Kinds∧JN x.Left∧vp x.Cond∧(F1 (mL .i64)) x.Keys∧(F1 E2) x.Aggs∧(F1 vp) x.Items∧(F1 E1) x.Order∧(mL .i64) x.Limit
def sI:Rp ai:=il (bP (qv (rI .i64) (mL .i64)) (bP (qv (rI .i64) (mL .i64)) (bP (qv (rI .i64) (mL .i64)) (bP (qv (rI .i64) (mL .i64)) (bP (dG (qv (rI .i64) (mL .i64))) (bP (qv rB JN) (bP q4 (bP (dG (qv (rI .i64) (mL .i64))) (bP (dG yT) (bP (dG q4) (bP (dG yS) (qv (rI .i64) (mL .i64))))))))))))) (fun x=>(x.Op,x.A,x.B,x.Table,x.Kinds,x.Left,x.Cond,x.Keys,x.Aggs,x.Items,x.Order,x.Limit))
theorem DE:zx sI aj Aw:=mI (dr eZ (dr eZ (dr eZ (dr eZ (dr (pb eZ) (dr eZ (dr vX (dr (pb eZ) (dr (pb Gh) (dr (pb vX) (dr (pb Gg) eZ)))))))))))
theorem JW{H:Type}(enc:TypeId×Value→H)(W:World):rK enc aX W 72 sI:=ii (l:=[(3,0),(3,1),(3,2),(3,3),(42,4),(4,5),(67,6),(42,7),(68,8),(69,9),(70,10),(3,11)]) (by kernel_rfl) (by kernel_rfl) (fun y=>⟨⟨y.1,y.2.1,y.2.2.1,y.2.2.2.1,y.2.2.2.2.1,y.2.2.2.2.2.1,y.2.2.2.2.2.2.1,y.2.2.2.2.2.2.2.1,y.2.2.2.2.2.2.2.2.1,y.2.2.2.2.2.2.2.2.2.1,y.2.2.2.2.2.2.2.2.2.2.1,y.2.2.2.2.2.2.2.2.2.2.2⟩,rfl⟩) (cT (p3 enc W) rfl (cT (p3 enc W) rfl (cT (p3 enc W) rfl (cT (p3 enc W) rfl (cT (EF enc W) rfl (cT (J2 enc W) rfl (cT (EE enc W) rfl (cT (EF enc W) rfl (cT (JZ enc W) rfl (cT (JY enc W) rfl (cT (JX enc W) rfl (k4 (p3 enc W)))))))))))))
theorem J5{H:Type}(enc:TypeId×Value→H)(W:World):rK enc aX W 22 (dG sI):=lr oz (by kernel_rfl) rfl (JW enc W)
def CJ(x:cz):Prop:=(F1 Aw) x.Nodes∧(mL .i64) x.At∧(mL .i64) x.Way∧(F1 (mL .i64)) x.Cols
def vl:Rp cz:=il (bP (dG sI) (bP (qv (rI .i64) (mL .i64)) (bP (qv (rI .i64) (mL .i64)) (dG (qv (rI .i64) (mL .i64)))))) (fun x=>(x.Nodes,x.At,x.Way,x.Cols))
theorem EQ:zx vl aR CJ:=mI (dr (pb DE) (dr eZ (dr eZ (pb eZ))))
theorem JV{H:Type}(enc:TypeId×Value→H)(W:World):rK enc aX W 74 vl:=ii (l:=[(22,0),(3,1),(3,2),(42,3)]) (by kernel_rfl) (by kernel_rfl) (fun y=>⟨⟨y.1,y.2.1,y.2.2.1,y.2.2.2⟩,rfl⟩) (cT (J5 enc W) rfl (cT (p3 enc W) rfl (cT (p3 enc W) rfl (k4 (EF enc W)))))
theorem J4{H:Type}(enc:TypeId×Value→H)(W:World):rK enc aX W 31 (dG vl):=lr jX (by kernel_rfl) rfl (JV enc W)
def Gq(x:bI):Prop:=(F1 CJ) x.Frags
def Cx:Rp bI:=il (dG vl) (fun x=>(x.Frags))
theorem EP:zx Cx br Gq:=mI (pb EQ)
theorem J3{H:Type}(enc:TypeId×Value→H)(W:World):rK enc aX W 33 Cx:=ii (l:=[(31,0)]) (by kernel_rfl) (by kernel_rfl) (fun y=>⟨⟨y⟩,rfl⟩) (k4 (J4 enc W))
def E0(x:uu):Prop:=(mL .i64) x.Frag∧(mL .i64) x.Nodes∧(mL .i64) x.Node
def Af:Rp uu:=il (bP (qv (rI .i64) (mL .i64)) (bP (qv (rI .i64) (mL .i64)) (qv (rI .i64) (mL .i64)))) (fun x=>(x.Frag,x.Nodes,x.Node))
theorem DC:zx Af qk E0:=mI (dr eZ (dr eZ eZ))
theorem J1{H:Type}(enc:TypeId×Value→H)(W:World):rK enc aX W 55 Af:=ii (l:=[(3,0),(3,1),(3,2)]) (by kernel_rfl) (by kernel_rfl) (fun y=>⟨⟨y.1,y.2.1,y.2.2⟩,rfl⟩) (cT (p3 enc W) rfl (cT (p3 enc W) rfl (k4 (p3 enc W))))
theorem dp{a b:Bool}(h:a=true)(k:b=true):(a&&b)=true:=by rw [h,k];rfl
theorem q8:(laidOutB Tryz.pinned.checked.prog)=true∧(mapsRowed Tryz.pinned.checked.prog)=true∧((Tryz.pinned.checked.prog.stops==[]))=true∧((Tryz.pinned.checked.prog.stopKnobs==[]))=true∧(Tryz.pinned.checked.prog.stopsHeard)=true∧(Tryz.pinned.checked.prog.mayEnter)=true:=by
 have h:((laidOutB Tryz.pinned.checked.prog)&&((mapsRowed Tryz.pinned.checked.prog)&&(((Tryz.pinned.checked.prog.stops==[]))&&(((Tryz.pinned.checked.prog.stopKnobs==[]))&&((Tryz.pinned.checked.prog.stopsHeard)&&((Tryz.pinned.checked.prog.mayEnter)))))))=true:=by kernel_rfl
 simpa only [jz] using h
theorem Gi:Tryz.pinned.checked.prog.mainIs=some (true,("2279216227f6392ae59b4ac39390836c23730c69cea3a1571a4ea39c3eac179e" :String).toList):=by kernel_rfl
theorem EU:false=Tryz.pinned.checked.prog.looks []:=by kernel_rfl
def sU:List (String×DataW Unit):=[("unicode/utf8.acceptRanges",Rows.laid_unicode_utf8_acceptRanges),("bowsprit/lex.words",Rows.laid_bowsprit_lex_words),("bowsprit/catalog.kinds",Rows.laid_bowsprit_catalog_kinds),("unicode.CaseRanges",Rows.laid_unicode_CaseRanges),("unicode/utf8.first",Rows.laid_unicode_utf8_first)]
theorem Mi:Tryz.prog.globalNamed "bowsprit/lex.words" =some 1:=by kernel_rfl
theorem Md:(Tryz.prog.globals[1]?).map (·.type)=some 255:=by kernel_rfl
set_option maxRecDepth 100000 in
theorem Mf(W:World):HO aX W false 255 Rows.laid_bowsprit_lex_words [.string ⟨([83,69,76,69,67,84]:List UInt8).toArray⟩,.string ⟨([68,73,83,84,73,78,67,84]:List UInt8).toArray⟩,.string ⟨([70,82,79,77]:List UInt8).toArray⟩,.string ⟨([76,69,70,84]:List UInt8).toArray⟩,.string ⟨([74,79,73,78]:List UInt8).toArray⟩,.string ⟨([79,78]:List UInt8).toArray⟩,.string ⟨([87,72,69,82,69]:List UInt8).toArray⟩,.string ⟨([71,82,79,85,80]:List UInt8).toArray⟩,.string ⟨([66,89]:List UInt8).toArray⟩,.string ⟨([72,65,86,73,78,71]:List UInt8).toArray⟩,.string ⟨([85,78,73,79,78]:List UInt8).toArray⟩,.string ⟨([65,76,76]:List UInt8).toArray⟩,.string ⟨([79,82,68,69,82]:List UInt8).toArray⟩,.string ⟨([76,73,77,73,84]:List UInt8).toArray⟩,.string ⟨([65,83,67]:List UInt8).toArray⟩,.string ⟨([68,69,83,67]:List UInt8).toArray⟩,.string ⟨([65,83]:List UInt8).toArray⟩,.string ⟨([65,78,68]:List UInt8).toArray⟩,.string ⟨([79,82]:List UInt8).toArray⟩,.string ⟨([78,79,84]:List UInt8).toArray⟩,.string ⟨([73,83]:List UInt8).toArray⟩,.string ⟨([78,85,76,76]:List UInt8).toArray⟩,.string ⟨([84,82,85,69]:List UInt8).toArray⟩,.string ⟨([70,65,76,83,69]:List UInt8).toArray⟩,.string ⟨([67,79,85,78,84]:List UInt8).toArray⟩,.string ⟨([83,85,77]:List UInt8).toArray⟩,.string ⟨([77,73,78]:List UInt8).toArray⟩,.string ⟨([77,65,88]:List UInt8).toArray⟩]:=Cu Tryz.underlying255 (by kernel_rfl) (by rw [show Tryz.prog.cellsOf 9=1 from by kernel_rfl];exact(show FC _ _ _ 0 [(9,0),(9,1),(9,2),(9,3),(9,4),(9,5),(9,6),(9,7),(9,8),(9,9),(9,10),(9,11),(9,12),(9,13),(9,14),(9,15),(9,16),(9,17),(9,18),(9,19),(9,20),(9,21),(9,22),(9,23),(9,24),(9,25),(9,26),(9,27)] _ _ from cL (dl pQ (by kernel_rfl)) rfl (cL (dl pQ (by kernel_rfl)) rfl (cL (dl pQ (by kernel_rfl)) rfl (cL (dl pQ (by kernel_rfl)) rfl (cL (dl pQ (by kernel_rfl)) rfl (cL (dl pQ (by kernel_rfl)) rfl (cL (dl pQ (by kernel_rfl)) rfl (cL (dl pQ (by kernel_rfl)) rfl (cL (dl pQ (by kernel_rfl)) rfl (cL (dl pQ (by kernel_rfl)) rfl (cL (dl pQ (by kernel_rfl)) rfl (cL (dl pQ (by kernel_rfl)) rfl (cL (dl pQ (by kernel_rfl)) rfl (cL (dl pQ (by kernel_rfl)) rfl (cL (dl pQ (by kernel_rfl)) rfl (cL (dl pQ (by kernel_rfl)) rfl (cL (dl pQ (by kernel_rfl)) rfl (cL (dl pQ (by kernel_rfl)) rfl (cL (dl pQ (by kernel_rfl)) rfl (cL (dl pQ (by kernel_rfl)) rfl (cL (dl pQ (by kernel_rfl)) rfl (cL (dl pQ (by kernel_rfl)) rfl (cL (dl pQ (by kernel_rfl)) rfl (cL (dl pQ (by kernel_rfl)) rfl (cL (dl pQ (by kernel_rfl)) rfl (cL (dl pQ (by kernel_rfl)) rfl (cL (dl pQ (by kernel_rfl)) rfl (cL (dl pQ (by kernel_rfl)) rfl (wu))))))))))))))))))))))))))))))
theorem Mj:Tryz.prog.globalNamed "bowsprit/catalog.kinds" =some 0:=by kernel_rfl
theorem Me:(Tryz.prog.globals[0]?).map (·.type)=some 233:=by kernel_rfl
set_option maxRecDepth 100000 in
theorem Mg(W:World):HO aX W false 233 Rows.laid_bowsprit_catalog_kinds [.string ⟨([98,111,111,108]:List UInt8).toArray⟩,.int .i64 (1),.string ⟨([105,110,116]:List UInt8).toArray⟩,.int .i64 (2),.string ⟨([116,101,120,116]:List UInt8).toArray⟩,.int .i64 (3)]:=Cu Tryz.underlying233 (by kernel_rfl) (by rw [show Tryz.prog.cellsOf 232=2 from by kernel_rfl];exact(show FC _ _ _ 0 [(232,0),(232,2),(232,4)] _ _ from cL (rW (l:=[(9,0),(3,1)]) (by kernel_rfl) (by kernel_rfl) (cL (dl pQ (by kernel_rfl)) rfl (cL (yE lj (by kernel_rfl)) rfl (wu)))) rfl (cL (rW (l:=[(9,0),(3,1)]) (by kernel_rfl) (by kernel_rfl) (cL (dl pQ (by kernel_rfl)) rfl (cL (yE lj (by kernel_rfl)) rfl (wu)))) rfl (cL (rW (l:=[(9,0),(3,1)]) (by kernel_rfl) (by kernel_rfl) (cL (dl pQ (by kernel_rfl)) rfl (cL (yE lj (by kernel_rfl)) rfl (wu)))) rfl (wu)))))
set_option maxRecDepth 100000 in
theorem FF(os:Os)(args:Array Value):laidMetH aX sU ((World.laidAll aX os sU).forCall (fun _ _=>0) ⟨#[],args,[]⟩).memory:=by
 rw [MakeChecks.laidMetH_plain _ _ _ (by kernel_rfl)]
 exact laidMet_laidAll _ (by kernel_rfl) (by kernel_rfl)
theorem DW{W:World}(h:laidMetH aX sU W): ∀p∈glob,∃c T fr,W.heap[p.1]? =some (.cells c T fr)∧c.toList.take p.2.length=p.2:=by
 rw [MakeChecks.laidMetH_plain _ _ _ (by kernel_rfl)]at h
 intro p hp
 simp only [glob,fS,List.not_mem_nil,or_false]at hp
 rcases hp with rfl|rfl
 ·exact sZ h (oy _ (oy _ (oQ ..))) Mj Me (Mg W)
 ·exact sZ h (oy _ (oQ ..)) Mi Md (Mf W)
theorem LO:Go.Proofs.CaseExtra aX jb:=⟨by kernel_rfl,by kernel_rfl,by kernel_rfl,by kernel_rfl,by kernel_rfl,by kernel_rfl⟩
theorem u8X:Go.Proofs.U8Extra aX jb:=⟨by kernel_rfl,by kernel_rfl,by kernel_rfl,by kernel_rfl,by kernel_rfl,by kernel_rfl,by kernel_rfl⟩
theorem Ea:(Rows.laid_unicode_utf8_acceptRanges:DataW Unit)=acceptData:=by kernel_rfl
theorem EI{W:World}(h:laidMetH aX sU W):Dv W:=by
 rw [MakeChecks.laidMetH_plain _ _ _ (by kernel_rfl)]at h
 have h1:VarReads aX W "unicode.CaseRanges" caseData:=Pinned.caseRanges_eq▸Lib.laidMet.reads h (oy _ (oy _ (oy _ (oQ ..))))
 have h2:VarReads aX W "unicode/utf8.first" firstData:=Pinned.utf8First_eq▸Lib.laidMet.reads h (oy _ (oy _ (oy _ (oy _ (oQ ..)))))
 have h3:VarReads aX W "unicode/utf8.acceptRanges" acceptData:=Ea▸Lib.laidMet.reads h (oQ ..)
 exact⟨caseVar_of_reads {ox with} (by kernel_rfl) LO h1,utf8Tabs_of_readsT {ox with} u8X h2 h3⟩
theorem EH{W:World}(h:laidMetH aX sU W): ∀w' :World,(∀(b:Nat) (o:Obj),W.heap[b]? =some o→ ∃o',w'.heap[b]? =some o' ∧w8 o o')→Dv w' :=fun _ hle=>⟨A4 hle (EI h).1,zu hle (EI h).2⟩
end Go.Proofs.YtnmjbolollcokaaGreatDoor

