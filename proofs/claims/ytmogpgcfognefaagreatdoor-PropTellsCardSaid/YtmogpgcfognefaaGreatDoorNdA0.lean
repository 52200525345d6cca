/- di of this claim: A0. -/
import Derived.Test.YtmogpgcfognefaaGreatDoorRows
import Derived.Test.YtmogpgcfognefaaGreatDoorNdT
import Derived.Test.YtmogpgcfognefaaGreatDoorNdV4
import Derived.Lay
import Derived.Lib.LaidU8T
import Derived.PinnedBridge
import Derived.ProofKit
import Derived.SevenTiedAt
set_option linter.all false
namespace Go.Proofs.YtmogpgcfognefaaGreatDoor
open Go Go.Lib Go.Shelf Go.Proofs Go.ChangeShapes Go.WideShapes Go.ChangeAt Go.RowKit

theorem TE:ownKnob Tryz.prog.godebug=none:=by kernel_rfl
theorem Qs:laidOutB be=true:=by kernel_rfl
theorem Tu{H:Type}(enc:TypeId×Value→H)(W:World):wa enc be W 9 (wl rS SS):=NT kq (by kernel_rfl)
theorem xy{H:Type}(enc:TypeId×Value→H)(W:World):wa enc be W 3 (wl (rI .i64) (th .i64)):=Cr oT (by kernel_rfl)
def EZ(x:bL):Prop:=SS x.Name∧(th .i64) x.Kind
def xf:Rp bL:=lI (co (wl rS SS) (wl (rI .i64) (th .i64))) (fun x=>(x.Name,x.Kind))
theorem Jn:DZ xf cH EZ:=ql (fx js js)
theorem U9{H:Type}(enc:TypeId×Value→H)(W:World):wa enc be W 42 xf:=kZ (l:=[(9,0),(3,1)]) (by kernel_rfl) (by kernel_rfl) (fun y=>⟨⟨y.1,y.2⟩,rfl⟩) (eI (Tu enc W) rfl (oM (xy enc W)))
theorem Vc{H:Type}(enc:TypeId×Value→H)(W:World):wa enc be W 38 (eX xf):=oV sb (by kernel_rfl) rfl (U9 enc W)
theorem Hl{H:Type}(enc:TypeId×Value→H)(W:World):wa enc be W 29 (eX (wl (rI .i64) (th .i64))):=oV cZ (by kernel_rfl) rfl (xy enc W)
def HO(x:bU):Prop:=SS x.Name∧(MZ EZ) x.Columns∧(MZ (th .i64)) x.Keys
def y7:Rp bU:=lI (co (wl rS SS) (co (eX xf) (eX (wl (rI .i64) (th .i64))))) (fun x=>(x.Name,x.Columns,x.Keys))
theorem Mx:DZ y7 cT HO:=ql (fx js (fx (q0 Jn) (q0 js)))
theorem Va{H:Type}(enc:TypeId×Value→H)(W:World):wa enc be W 40 y7:=kZ (l:=[(9,0),(38,1),(29,2)]) (by kernel_rfl) (by kernel_rfl) (fun y=>⟨⟨y.1,y.2.1,y.2.2⟩,rfl⟩) (eI (Tu enc W) rfl (eI (Vc enc W) rfl (oM (Hl enc W))))
theorem Vi{H:Type}(enc:TypeId×Value→H)(W:World):wa enc be W 22 (eX y7):=oV rC (by kernel_rfl) rfl (Va enc W)
def JA(x:bG):Prop:=(MZ HO) x.Tables
def CJ:Rp bG:=lI (eX y7) (fun x=>(x.Tables))
theorem HB:DZ CJ bJ JA:=ql (q0 Mx)
theorem Vh{H:Type}(enc:TypeId×Value→H)(W:World):wa enc be W 24 CJ:=kZ (l:=[(22,0)]) (by kernel_rfl) (by kernel_rfl) (fun y=>⟨⟨y⟩,rfl⟩) (oM (Vi enc W))
theorem Vb{H:Type}(enc:TypeId×Value→H)(W:World):wa enc be W 4 (wl rB UT):=L8 FD (by kernel_rfl)
theorem XO{H:Type}(enc:TypeId×Value→H)(W:World):wa enc be W 2 (wl (rI .i64) (th .i64)):=Cr Tryz.underlying2 (by kernel_rfl)
theorem U3{H:Type}(enc:TypeId×Value→H)(W:World):wa enc be W 80 (wl (rI .u64) (th .u64)):=Cr Tryz.underlying80 (by kernel_rfl)
def HN(x:dQ):Prop:=(th .i64) x.Kind∧(th .i64) x.N∧(th .u64) x.U∧SS x.S
def CI:Rp dQ:=lI (co (wl (rI .i64) (th .i64)) (co (wl (rI .i64) (th .i64)) (co (wl (rI .u64) (th .u64)) (wl rS SS)))) (fun x=>(x.Kind,x.N,x.U,x.S))
theorem Mw:DZ CI eJ HN:=ql (fx js (fx js (fx js js)))
theorem U2{H:Type}(enc:TypeId×Value→H)(W:World):wa enc be W 82 CI:=kZ (l:=[(3,0),(2,1),(80,2),(9,3)]) (by kernel_rfl) (by kernel_rfl) (fun y=>⟨⟨y.1,y.2.1,y.2.2.1,y.2.2.2⟩,rfl⟩) (eI (xy enc W) rfl (eI (XO enc W) rfl (eI (U3 enc W) rfl (oM (Tu enc W)))))
def HQ(x:bD):Prop:=(th .i64) x.Tag∧(th .i64) x.L∧(th .i64) x.R∧(th .i64) x.Col∧HN x.Value
def y9:Rp bD:=lI (co (wl (rI .i64) (th .i64)) (co (wl (rI .i64) (th .i64)) (co (wl (rI .i64) (th .i64)) (co (wl (rI .i64) (th .i64)) CI)))) (fun x=>(x.Tag,x.L,x.R,x.Col,x.Value))
theorem Mz:DZ y9 aV HQ:=ql (fx js (fx js (fx js (fx js Mw))))
theorem Tv{H:Type}(enc:TypeId×Value→H)(W:World):wa enc be W 149 y9:=kZ (l:=[(3,0),(3,1),(3,2),(3,3),(82,4)]) (by kernel_rfl) (by kernel_rfl) (fun y=>⟨⟨y.1,y.2.1,y.2.2.1,y.2.2.2.1,y.2.2.2.2⟩,rfl⟩) (eI (xy enc W) rfl (eI (xy enc W) rfl (eI (xy enc W) rfl (eI (xy enc W) rfl (oM (U2 enc W))))))
theorem U8{H:Type}(enc:TypeId×Value→H)(W:World):wa enc be W 43 (eX y9):=oV pi (by kernel_rfl) rfl (Tv enc W)
def BY(x:bp):Prop:=(MZ HQ) x.Nodes
def xe:Rp bp:=lI (eX y9) (fun x=>(x.Nodes))
theorem CL:DZ xe bn BY:=ql (q0 Mz)
theorem NV{H:Type}(enc:TypeId×Value→H)(W:World):wa enc be W 45 xe:=kZ (l:=[(43,0)]) (by kernel_rfl) (by kernel_rfl) (fun y=>⟨⟨y⟩,rfl⟩) (oM (U8 enc W))
def Ov(x:gm):Prop:=(th .i64) x.Tag∧BY x.Arg
def F0:Rp gm:=lI (co (wl (rI .i64) (th .i64)) xe) (fun x=>(x.Tag,x.Arg))
theorem Qf:DZ F0 dz Ov:=ql (fx js CL)
theorem Tx{H:Type}(enc:TypeId×Value→H)(W:World):wa enc be W 107 F0:=kZ (l:=[(3,0),(45,1)]) (by kernel_rfl) (by kernel_rfl) (fun y=>⟨⟨y.1,y.2⟩,rfl⟩) (eI (xy enc W) rfl (oM (NV enc W)))
theorem U7{H:Type}(enc:TypeId×Value→H)(W:World):wa enc be W 46 (eX F0):=oV nw (by kernel_rfl) rfl (Tx enc W)
theorem U6{H:Type}(enc:TypeId×Value→H)(W:World):wa enc be W 47 (eX xe):=oV rD (by kernel_rfl) rfl (NV enc W)
def Ou(x:kW):Prop:=(th .i64) x.Col∧UT x.Desc
def FZ:Rp kW:=lI (co (wl (rI .i64) (th .i64)) (wl rB UT)) (fun x=>(x.Col,x.Desc))
theorem Qe:DZ FZ iG Ou:=ql (fx js js)
theorem Tw{H:Type}(enc:TypeId×Value→H)(W:World):wa enc be W 111 FZ:=kZ (l:=[(3,0),(4,1)]) (by kernel_rfl) (by kernel_rfl) (fun y=>⟨⟨y.1,y.2⟩,rfl⟩) (eI (xy enc W) rfl (oM (Vb enc W)))
theorem U5{H:Type}(enc:TypeId×Value→H)(W:World):wa enc be W 48 (eX FZ):=oV ve (by kernel_rfl) rfl (Tw enc W)
def HP(x:aw):Prop:=(th .i64) x.Op∧(th .i64) x.A∧(th .i64) x.B∧(th .i64) x.Table∧(MZ (th .i64)) x.Kinds∧UT x.Left∧BY x.Cond∧(MZ (th .i64)) x.Keys∧(MZ Ov) x.Aggs∧(MZ BY) x.Items∧(MZ Ou) x.Order∧(th .i64) x.Limit
def y8:Rp aw:=lI (co (wl (rI .i64) (th .i64)) (co (wl (rI .i64) (th .i64)) (co (wl (rI .i64) (th .i64)) (co (wl (rI .i64) (th .i64)) (co (eX (wl (rI .i64) (th .i64))) (co (wl rB UT) (co xe (co (eX (wl (rI .i64) (th .i64))) (co (eX F0) (co (eX xe) (co (eX FZ) (wl (rI .i64) (th .i64))))))))))))) (fun x=>(x.Op,x.A,x.B,x.Table,x.Kinds,x.Left,x.Cond,x.Keys,x.Aggs,x.Items,x.Order,x.Limit))
theorem My:DZ y8 aA HP:=ql (fx js (fx js (fx js (fx js (fx (q0 js) (fx js (fx CL (fx (q0 js) (fx (q0 Qf) (fx (q0 CL) (fx (q0 Qe) js)))))))))))
theorem U4{H:Type}(enc:TypeId×Value→H)(W:World):wa enc be W 50 y8:=kZ (l:=[(3,0),(3,1),(3,2),(3,3),(29,4),(4,5),(45,6),(29,7),(46,8),(47,9),(48,10),(3,11)]) (by kernel_rfl) (by kernel_rfl) (fun y=>⟨⟨y.1,y.2.1,y.2.2.1,y.2.2.2.1,y.2.2.2.2.1,y.2.2.2.2.2.1,y.2.2.2.2.2.2.1,y.2.2.2.2.2.2.2.1,y.2.2.2.2.2.2.2.2.1,y.2.2.2.2.2.2.2.2.2.1,y.2.2.2.2.2.2.2.2.2.2.1,y.2.2.2.2.2.2.2.2.2.2.2⟩,rfl⟩) (eI (xy enc W) rfl (eI (xy enc W) rfl (eI (xy enc W) rfl (eI (xy enc W) rfl (eI (Hl enc W) rfl (eI (Vb enc W) rfl (eI (NV enc W) rfl (eI (Hl enc W) rfl (eI (U7 enc W) rfl (eI (U6 enc W) rfl (eI (U5 enc W) rfl (oM (xy enc W)))))))))))))
theorem Vg{H:Type}(enc:TypeId×Value→H)(W:World):wa enc be W 25 (eX y8):=oV ib (by kernel_rfl) rfl (U4 enc W)
def KM(x:cL):Prop:=(MZ HP) x.Nodes∧(th .i64) x.At∧(th .i64) x.Way∧(MZ (th .i64)) x.Cols
def BU:Rp cL:=lI (co (eX y8) (co (wl (rI .i64) (th .i64)) (co (wl (rI .i64) (th .i64)) (eX (wl (rI .i64) (th .i64)))))) (fun x=>(x.Nodes,x.At,x.Way,x.Cols))
theorem Oc:DZ BU bR KM:=ql (fx (q0 My) (fx js (fx js (q0 js))))
theorem Vf{H:Type}(enc:TypeId×Value→H)(W:World):wa enc be W 31 BU:=kZ (l:=[(25,0),(3,1),(3,2),(29,3)]) (by kernel_rfl) (by kernel_rfl) (fun y=>⟨⟨y.1,y.2.1,y.2.2.1,y.2.2.2⟩,rfl⟩) (eI (Vg enc W) rfl (eI (xy enc W) rfl (eI (xy enc W) rfl (oM (Hl enc W)))))
theorem Ve{H:Type}(enc:TypeId×Value→H)(W:World):wa enc be W 35 (eX BU):=oV kE (by kernel_rfl) rfl (Vf enc W)
def Qp(x:da):Prop:=(MZ KM) x.Frags
def Ky:Rp da:=lI (eX BU) (fun x=>(x.Frags))
theorem Oa:DZ Ky ce Qp:=ql (q0 Oc)
theorem Vd{H:Type}(enc:TypeId×Value→H)(W:World):wa enc be W 37 Ky:=kZ (l:=[(35,0)]) (by kernel_rfl) (by kernel_rfl) (fun y=>⟨⟨y⟩,rfl⟩) (oM (Ve enc W))
theorem fK{a b:Bool}(h:a=true)(k:b=true):(a&&b)=true:=by rw [h,k];rfl
theorem xh:(laidOutB Tryz.pinned.checked.prog)=true∧(mapsRowed Tryz.pinned.checked.prog)=true∧((Tryz.pinned.checked.prog.stops==[]))=true∧((Tryz.pinned.checked.prog.stopKnobs==[]))=true∧(Tryz.pinned.checked.prog.stopsHeard)=true∧(Tryz.pinned.checked.prog.mayEnter)=true:=by
 have h:((laidOutB Tryz.pinned.checked.prog)&&((mapsRowed Tryz.pinned.checked.prog)&&(((Tryz.pinned.checked.prog.stops==[]))&&(((Tryz.pinned.checked.prog.stopKnobs==[]))&&((Tryz.pinned.checked.prog.stopsHeard)&&((Tryz.pinned.checked.prog.mayEnter)))))))=true:=by kernel_rfl
 simpa only [iz] using h
theorem Qh:Tryz.pinned.checked.prog.mainIs=some (true,("bb13d3eb1f937d7c1d6c9112fc0e8d4933c1a8b2b26744fdabef76fe234983bc" :String).toList):=by kernel_rfl
theorem Og:false=Tryz.pinned.checked.prog.looks []:=by kernel_rfl
def zp:List (String×DataW Unit):=[("unicode/utf8.acceptRanges",Rows.laid_unicode_utf8_acceptRanges),("bowsprit/lex.words",Rows.laid_bowsprit_lex_words),("bowsprit/catalog.kinds",Rows.laid_bowsprit_catalog_kinds),("unicode.CaseRanges",Rows.laid_unicode_CaseRanges),("unicode/utf8.first",Rows.laid_unicode_utf8_first)]
theorem X3:Tryz.prog.globalNamed "bowsprit/lex.words" =some 2:=by kernel_rfl
theorem XZ:(Tryz.prog.globals[2]?).map (·.type)=some 292:=by kernel_rfl
set_option maxRecDepth 100000 in
theorem X1(W:World):Td be W false 292 Rows.laid_bowsprit_lex_words [.string ⟨([83,69,76,69,67,84]:List UInt8).toArray⟩,.string ⟨([68,73,83,84,73,78,67,84]:List UInt8).toArray⟩,.string ⟨([70,82,79,77]:List UInt8).toArray⟩,.string ⟨([76,69,70,84]:List UInt8).toArray⟩,.string ⟨([74,79,73,78]:List UInt8).toArray⟩,.string ⟨([79,78]:List UInt8).toArray⟩,.string ⟨([87,72,69,82,69]:List UInt8).toArray⟩,.string ⟨([71,82,79,85,80]:List UInt8).toArray⟩,.string ⟨([66,89]:List UInt8).toArray⟩,.string ⟨([72,65,86,73,78,71]:List UInt8).toArray⟩,.string ⟨([85,78,73,79,78]:List UInt8).toArray⟩,.string ⟨([65,76,76]:List UInt8).toArray⟩,.string ⟨([79,82,68,69,82]:List UInt8).toArray⟩,.string ⟨([76,73,77,73,84]:List UInt8).toArray⟩,.string ⟨([65,83,67]:List UInt8).toArray⟩,.string ⟨([68,69,83,67]:List UInt8).toArray⟩,.string ⟨([65,83]:List UInt8).toArray⟩,.string ⟨([65,78,68]:List UInt8).toArray⟩,.string ⟨([79,82]:List UInt8).toArray⟩,.string ⟨([78,79,84]:List UInt8).toArray⟩,.string ⟨([73,83]:List UInt8).toArray⟩,.string ⟨([78,85,76,76]:List UInt8).toArray⟩,.string ⟨([84,82,85,69]:List UInt8).toArray⟩,.string ⟨([70,65,76,83,69]:List UInt8).toArray⟩,.string ⟨([67,79,85,78,84]:List UInt8).toArray⟩,.string ⟨([83,85,77]:List UInt8).toArray⟩,.string ⟨([77,73,78]:List UInt8).toArray⟩,.string ⟨([77,65,88]:List UInt8).toArray⟩]:=Ks Tryz.underlying292 (by kernel_rfl) (by rw [show Tryz.prog.cellsOf 9=1 from by kernel_rfl];exact(show FC _ _ _ 0 [(9,0),(9,1),(9,2),(9,3),(9,4),(9,5),(9,6),(9,7),(9,8),(9,9),(9,10),(9,11),(9,12),(9,13),(9,14),(9,15),(9,16),(9,17),(9,18),(9,19),(9,20),(9,21),(9,22),(9,23),(9,24),(9,25),(9,26),(9,27)] _ _ from eG (fF kq (by kernel_rfl)) rfl (eG (fF kq (by kernel_rfl)) rfl (eG (fF kq (by kernel_rfl)) rfl (eG (fF kq (by kernel_rfl)) rfl (eG (fF kq (by kernel_rfl)) rfl (eG (fF kq (by kernel_rfl)) rfl (eG (fF kq (by kernel_rfl)) rfl (eG (fF kq (by kernel_rfl)) rfl (eG (fF kq (by kernel_rfl)) rfl (eG (fF kq (by kernel_rfl)) rfl (eG (fF kq (by kernel_rfl)) rfl (eG (fF kq (by kernel_rfl)) rfl (eG (fF kq (by kernel_rfl)) rfl (eG (fF kq (by kernel_rfl)) rfl (eG (fF kq (by kernel_rfl)) rfl (eG (fF kq (by kernel_rfl)) rfl (eG (fF kq (by kernel_rfl)) rfl (eG (fF kq (by kernel_rfl)) rfl (eG (fF kq (by kernel_rfl)) rfl (eG (fF kq (by kernel_rfl)) rfl (eG (fF kq (by kernel_rfl)) rfl (eG (fF kq (by kernel_rfl)) rfl (eG (fF kq (by kernel_rfl)) rfl (eG (fF kq (by kernel_rfl)) rfl (eG (fF kq (by kernel_rfl)) rfl (eG (fF kq (by kernel_rfl)) rfl (eG (fF kq (by kernel_rfl)) rfl (eG (fF kq (by kernel_rfl)) rfl (Dk))))))))))))))))))))))))))))))
theorem X4:Tryz.prog.globalNamed "bowsprit/catalog.kinds" =some 0:=by kernel_rfl
theorem X0:(Tryz.prog.globals[0]?).map (·.type)=some 271:=by kernel_rfl
set_option maxRecDepth 100000 in
theorem X2(W:World):Td be W false 271 Rows.laid_bowsprit_catalog_kinds [.string ⟨([98,111,111,108]:List UInt8).toArray⟩,.int .i64 (1),.string ⟨([105,110,116]:List UInt8).toArray⟩,.int .i64 (2),.string ⟨([116,101,120,116]:List UInt8).toArray⟩,.int .i64 (3)]:=Ks Tryz.underlying271 (by kernel_rfl) (by rw [show Tryz.prog.cellsOf 270=2 from by kernel_rfl];exact(show FC _ _ _ 0 [(270,0),(270,2),(270,4)] _ _ from eG (yb (l:=[(9,0),(3,1)]) (by kernel_rfl) (by kernel_rfl) (eG (fF kq (by kernel_rfl)) rfl (eG (FO oT (by kernel_rfl)) rfl (Dk)))) rfl (eG (yb (l:=[(9,0),(3,1)]) (by kernel_rfl) (by kernel_rfl) (eG (fF kq (by kernel_rfl)) rfl (eG (FO oT (by kernel_rfl)) rfl (Dk)))) rfl (eG (yb (l:=[(9,0),(3,1)]) (by kernel_rfl) (by kernel_rfl) (eG (fF kq (by kernel_rfl)) rfl (eG (FO oT (by kernel_rfl)) rfl (Dk)))) rfl (Dk)))))
set_option maxRecDepth 100000 in
theorem Pc(os:Os)(args:Array Value):laidMetH be zp ((World.laidAll be os zp).forCall (fun _ _=>0) ⟨#[],args,[]⟩).memory:=by
 rw [MakeChecks.laidMetH_plain _ _ _ (by kernel_rfl)]
 exact laidMet_laidAll _ (by kernel_rfl) (by kernel_rfl)
theorem M1{W:World}(h:laidMetH be zp W): ∀p∈glob,∃c T fr,W.heap[p.1]? =some (.cells c T fr)∧c.toList.take p.2.length=p.2:=by
 rw [MakeChecks.laidMetH_plain _ _ _ (by kernel_rfl)]at h
 intro p hp
 simp only [glob,kp,List.not_mem_nil,or_false]at hp
 rcases hp with rfl|rfl
 ·exact zz h (oS _ (oS _ (oc ..))) X4 X0 (X2 W)
 ·exact zz h (oS _ (oc ..)) X3 XZ (X1 W)
theorem XC:Go.Proofs.CaseExtra be n6:=⟨by kernel_rfl,by kernel_rfl,by kernel_rfl,by kernel_rfl,by kernel_rfl,by kernel_rfl⟩
theorem u8X:Go.Proofs.U8Extra be n6:=⟨by kernel_rfl,by kernel_rfl,by kernel_rfl,by kernel_rfl,by kernel_rfl,by kernel_rfl,by kernel_rfl⟩
theorem Nm:(Rows.laid_unicode_utf8_acceptRanges:DataW Unit)=acceptData:=by kernel_rfl
theorem N2{W:World}(h:laidMetH be zp W):Ma W:=by
 rw [MakeChecks.laidMetH_plain _ _ _ (by kernel_rfl)]at h
 have h1:VarReads be W "unicode.CaseRanges" caseData:=Pinned.caseRanges_eq▸Lib.laidMet.reads h (oS _ (oS _ (oS _ (oc ..))))
 have h2:VarReads be W "unicode/utf8.first" firstData:=Pinned.utf8First_eq▸Lib.laidMet.reads h (oS _ (oS _ (oS _ (oS _ (oc ..)))))
 have h3:VarReads be W "unicode/utf8.acceptRanges" acceptData:=Nm▸Lib.laidMet.reads h (oc ..)
 exact⟨caseVar_of_reads {uH with} (by kernel_rfl) XC h1,utf8Tabs_of_readsT {uH with} u8X h2 h3⟩
theorem N0{W:World}(h:laidMetH be zp W): ∀w' :World,(∀(b:Nat) (o:Obj),W.heap[b]? =some o→ ∃o',w'.heap[b]? =some o' ∧DY o o')→Ma w' :=fun _ hle=>⟨IQ hle (N2 h).1,GN hle (N2 h).2⟩
end Go.Proofs.YtmogpgcfognefaaGreatDoor

