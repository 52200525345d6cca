/- cU of this claim: A0. -/
import Derived.Test.YtfhhakidodmdfaaGreatDoorRows
import Derived.Test.YtfhhakidodmdfaaGreatDoorJfT
import Derived.Test.YtfhhakidodmdfaaGreatDoorJfV3
import Derived.ProofKit
import Derived.SevenTiedAt
set_option linter.all false
namespace Go.Proofs.YtfhhakidodmdfaaGreatDoor
open Go Go.ChangeShapes Go.WideShapes Go.ChangeAt Go.RowKit

theorem Yz:ownKnob Tryz.prog.godebug=none:=by kernel_rfl
theorem U0:laidOutB aQ=true:=by kernel_rfl
theorem Ck{H:Type}(enc:TypeId×Value→H)(W:World):zM enc aQ W 3 (Br (rI .i64) (xi .i64)):=EM lk (by kernel_rfl)
theorem Xg{H:Type}(enc:TypeId×Value→H)(W:World):zM enc aQ W 39 (gi (Br (rI .i64) (xi .i64))):=oP hX (by kernel_rfl) rfl (Ck enc W)
theorem Z8{H:Type}(enc:TypeId×Value→H)(W:World):zM enc aQ W 4 (Br rB ZR):=Qk OB (by kernel_rfl)
theorem acR{H:Type}(enc:TypeId×Value→H)(W:World):zM enc aQ W 2 (Br (rI .i64) (xi .i64)):=EM A1 (by kernel_rfl)
theorem Z6{H:Type}(enc:TypeId×Value→H)(W:World):zM enc aQ W 44 (Br (rI .u64) (xi .u64)):=EM A4 (by kernel_rfl)
theorem acQ{H:Type}(enc:TypeId×Value→H)(W:World):zM enc aQ W 9 (Br rS inS):=RA Db (by kernel_rfl)
def vN(x:ac):Prop:=(xi .i64) x.Kind∧(xi .i64) x.N∧(xi .u64) x.U∧inS x.S
def tQ:Rp ac:=qk (cQ (Br (rI .i64) (xi .i64)) (cQ (Br (rI .i64) (xi .i64)) (cQ (Br (rI .u64) (xi .u64)) (Br rS inS)))) (fun x=>(x.Kind,x.N,x.U,x.S))
theorem Hr:JN tQ af vN:=uJ (ic mS (ic mS (ic mS mS)))
theorem Xf{H:Type}(enc:TypeId×Value→H)(W:World):zM enc aQ W 46 tQ:=om (l:=[(3,0),(2,1),(44,2),(9,3)]) (by kernel_rfl) (by kernel_rfl) (fun y=>⟨⟨y.1,y.2.1,y.2.2.1,y.2.2.2⟩,rfl⟩) (fW (Ck enc W) rfl (fW (acR enc W) rfl (fW (Z6 enc W) rfl (si (acQ enc W)))))
def Fq(x:bp):Prop:=(xi .i64) x.Tag∧(xi .i64) x.L∧(xi .i64) x.R∧(xi .i64) x.Col∧vN x.Value
def Bo:Rp bp:=qk (cQ (Br (rI .i64) (xi .i64)) (cQ (Br (rI .i64) (xi .i64)) (cQ (Br (rI .i64) (xi .i64)) (cQ (Br (rI .i64) (xi .i64)) tQ)))) (fun x=>(x.Tag,x.L,x.R,x.Col,x.Value))
theorem Qt:JN Bo bO Fq:=uJ (ic mS (ic mS (ic mS (ic mS Hr))))
theorem ZZ{H:Type}(enc:TypeId×Value→H)(W:World):zM enc aQ W 80 Bo:=om (l:=[(3,0),(3,1),(3,2),(3,3),(46,4)]) (by kernel_rfl) (by kernel_rfl) (fun y=>⟨⟨y.1,y.2.1,y.2.2.1,y.2.2.2.1,y.2.2.2.2⟩,rfl⟩) (fW (Ck enc W) rfl (fW (Ck enc W) rfl (fW (Ck enc W) rfl (fW (Ck enc W) rfl (si (Xf enc W))))))
theorem Z5{H:Type}(enc:TypeId×Value→H)(W:World):zM enc aQ W 47 (gi Bo):=oP xw (by kernel_rfl) rfl (ZZ enc W)
def By(x:bJ):Prop:=(JK Fq) x.Nodes
def y5:Rp bJ:=qk (gi Bo) (fun x=>(x.Nodes))
theorem E9:JN y5 co By:=uJ (vc Qt)
theorem RC{H:Type}(enc:TypeId×Value→H)(W:World):zM enc aQ W 49 y5:=om (l:=[(47,0)]) (by kernel_rfl) (by kernel_rfl) (fun y=>⟨⟨y⟩,rfl⟩) (si (Z5 enc W))
def R9(x:hU):Prop:=(xi .i64) x.Tag∧By x.Arg
def ID:Rp hU:=qk (cQ (Br (rI .i64) (xi .i64)) y5) (fun x=>(x.Tag,x.Arg))
theorem UB:JN ID fG R9:=uJ (ic mS E9)
theorem Z4{H:Type}(enc:TypeId×Value→H)(W:World):zM enc aQ W 51 ID:=om (l:=[(3,0),(49,1)]) (by kernel_rfl) (by kernel_rfl) (fun y=>⟨⟨y.1,y.2⟩,rfl⟩) (fW (Ck enc W) rfl (si (RC enc W)))
theorem Z1{H:Type}(enc:TypeId×Value→H)(W:World):zM enc aQ W 68 (gi ID):=oP xv (by kernel_rfl) rfl (Z4 enc W)
theorem Z0{H:Type}(enc:TypeId×Value→H)(W:World):zM enc aQ W 69 (gi y5):=oP xH (by kernel_rfl) rfl (RC enc W)
def R8(x:fq):Prop:=(xi .i64) x.Col∧ZR x.Desc
def IC:Rp fq:=qk (cQ (Br (rI .i64) (xi .i64)) (Br rB ZR)) (fun x=>(x.Col,x.Desc))
theorem UA:JN IC fX R8:=uJ (ic mS mS)
theorem Z2{H:Type}(enc:TypeId×Value→H)(W:World):zM enc aQ W 60 IC:=om (l:=[(3,0),(4,1)]) (by kernel_rfl) (by kernel_rfl) (fun y=>⟨⟨y.1,y.2⟩,rfl⟩) (fW (Ck enc W) rfl (si (Z8 enc W)))
theorem Z3{H:Type}(enc:TypeId×Value→H)(W:World):zM enc aQ W 57 (gi IC):=oP DL (by kernel_rfl) rfl (Z2 enc W)
def yq(x:aj):Prop:=(xi .i64) x.Op∧(xi .i64) x.A∧(xi .i64) x.B∧(xi .i64) x.Table∧(JK (xi .i64)) x.Kinds∧ZR x.Left∧By x.Cond∧(JK (xi .i64)) x.Keys∧(JK R9) x.Aggs∧(JK By) x.Items∧(JK R8) x.Order∧(xi .i64) x.Limit
def Bn:Rp aj:=qk (cQ (Br (rI .i64) (xi .i64)) (cQ (Br (rI .i64) (xi .i64)) (cQ (Br (rI .i64) (xi .i64)) (cQ (Br (rI .i64) (xi .i64)) (cQ (gi (Br (rI .i64) (xi .i64))) (cQ (Br rB ZR) (cQ y5 (cQ (gi (Br (rI .i64) (xi .i64))) (cQ (gi ID) (cQ (gi y5) (cQ (gi IC) (Br (rI .i64) (xi .i64))))))))))))) (fun x=>(x.Op,x.A,x.B,x.Table,x.Kinds,x.Left,x.Cond,x.Keys,x.Aggs,x.Items,x.Order,x.Limit))
theorem Hs:JN Bn aF yq:=uJ (ic mS (ic mS (ic mS (ic mS (ic (vc mS) (ic mS (ic E9 (ic (vc mS) (ic (vc UB) (ic (vc E9) (ic (vc UA) mS)))))))))))
theorem Xe{H:Type}(enc:TypeId×Value→H)(W:World):zM enc aQ W 71 Bn:=om (l:=[(3,0),(3,1),(3,2),(3,3),(39,4),(4,5),(49,6),(39,7),(68,8),(69,9),(57,10),(3,11)]) (by kernel_rfl) (by kernel_rfl) (fun y=>⟨⟨y.1,y.2.1,y.2.2.1,y.2.2.2.1,y.2.2.2.2.1,y.2.2.2.2.2.1,y.2.2.2.2.2.2.1,y.2.2.2.2.2.2.2.1,y.2.2.2.2.2.2.2.2.1,y.2.2.2.2.2.2.2.2.2.1,y.2.2.2.2.2.2.2.2.2.2.1,y.2.2.2.2.2.2.2.2.2.2.2⟩,rfl⟩) (fW (Ck enc W) rfl (fW (Ck enc W) rfl (fW (Ck enc W) rfl (fW (Ck enc W) rfl (fW (Xg enc W) rfl (fW (Z8 enc W) rfl (fW (RC enc W) rfl (fW (Xg enc W) rfl (fW (Z1 enc W) rfl (fW (Z0 enc W) rfl (fW (Z3 enc W) rfl (si (Ck enc W)))))))))))))
theorem aad{H:Type}(enc:TypeId×Value→H)(W:World):zM enc aQ W 22 (gi Bn):=oP p6 (by kernel_rfl) rfl (Xe enc W)
def Fp(x:bc):Prop:=(JK yq) x.Nodes
def Kz:Rp bc:=qk (gi Bn) (fun x=>(x.Nodes))
theorem Qs:JN Kz bS Fp:=uJ (vc Hs)
theorem aac{H:Type}(enc:TypeId×Value→H)(W:World):zM enc aQ W 24 Kz:=om (l:=[(22,0)]) (by kernel_rfl) (by kernel_rfl) (fun y=>⟨⟨y⟩,rfl⟩) (si (aad enc W))
theorem Z7{H:Type}(enc:TypeId×Value→H)(W:World):zM enc aQ W 43 (gi tQ):=oP jf (by kernel_rfl) rfl (Xf enc W)
theorem Z9{H:Type}(enc:TypeId×Value→H)(W:World):zM enc aQ W 32 (gi (gi tQ)):=oP i9 (by kernel_rfl) rfl (Z7 enc W)
theorem aab{H:Type}(enc:TypeId×Value→H)(W:World):zM enc aQ W 25 (gi (gi (gi tQ))):=oP o3 (by kernel_rfl) rfl (Z9 enc W)
def IZ(x:dv):Prop:=(JK (JK (JK vN))) x.Tables
def OO:Rp dv:=qk (gi (gi (gi tQ))) (fun x=>(x.Tables))
theorem RU:JN OO jv IZ:=uJ (vc (vc (vc Hr)))
theorem aaa{H:Type}(enc:TypeId×Value→H)(W:World):zM enc aQ W 27 OO:=om (l:=[(25,0)]) (by kernel_rfl) (by kernel_rfl) (fun y=>⟨⟨y⟩,rfl⟩) (si (aab enc W))
theorem fe{a b:Bool}(h:a=true)(k:b=true):(a&&b)=true:=by rw [h,k];rfl
theorem y9:(laidOutB Tryz.pinned.checked.prog)=true∧(mapsRowed Tryz.pinned.checked.prog)=true∧((Tryz.pinned.checked.prog.stops==[]))=true∧((Tryz.pinned.checked.prog.stopKnobs==[]))=true∧(Tryz.pinned.checked.prog.stopsHeard)=true∧(Tryz.pinned.checked.prog.mayEnter)=true:=by
 have h:((laidOutB Tryz.pinned.checked.prog)&&((mapsRowed Tryz.pinned.checked.prog)&&(((Tryz.pinned.checked.prog.stops==[]))&&(((Tryz.pinned.checked.prog.stopKnobs==[]))&&((Tryz.pinned.checked.prog.stopsHeard)&&((Tryz.pinned.checked.prog.mayEnter)))))))=true:=by kernel_rfl
 simpa only [my] using h
theorem UC:Tryz.pinned.checked.prog.mainIs=some (true,("85db28590683e9d5afa1430223a94669cccdc8a71b628dceb05087e847db95a3" :String).toList):=by kernel_rfl
theorem RY:false=Tryz.pinned.checked.prog.looks []:=by kernel_rfl
def Lf:List (String×DataW Unit):=[("bowsprit/value.truths",Rows.laid_bowsprit_value_truths)]
theorem ac0:Tryz.prog.globalNamed "bowsprit/value.truths" =some 2:=by kernel_rfl
theorem acY:(Tryz.prog.globals[2]?).map (·.type)=some 344:=by kernel_rfl
set_option maxRecDepth 100000 in
theorem acZ(W:World):ZM aQ W false 344 Rows.laid_bowsprit_value_truths [.int .i64 (1),.int .i64 (0),.int .u64 (0),.string ⟨([]:List UInt8).toArray⟩,.int .i64 (0),.int .i64 (0),.int .u64 (0),.string ⟨([]:List UInt8).toArray⟩,.int .i64 (1),.int .i64 (1),.int .u64 (0),.string ⟨([]:List UInt8).toArray⟩]:=Ul Tryz.underlying344 (by kernel_rfl) (by rw [show Tryz.prog.cellsOf 46=4 from by kernel_rfl];exact(show FC _ _ _ 0 [(46,0),(46,4),(46,8)] _ _ from m8 (As (l:=[(3,0),(2,1),(44,2),(9,3)]) (by kernel_rfl) (by kernel_rfl) (m8 (sO lk (by kernel_rfl)) rfl (m8 (sO A1 (by kernel_rfl)) rfl (m8 (sO A4 (by kernel_rfl)) rfl (m8 (Iq Db (by kernel_rfl)) rfl (Jd)))))) rfl (m8 (As (l:=[(3,0),(2,1),(44,2),(9,3)]) (by kernel_rfl) (by kernel_rfl) (m8 (sO lk (by kernel_rfl)) rfl (m8 (sO A1 (by kernel_rfl)) rfl (m8 (sO A4 (by kernel_rfl)) rfl (m8 (Iq Db (by kernel_rfl)) rfl (Jd)))))) rfl (m8 (As (l:=[(3,0),(2,1),(44,2),(9,3)]) (by kernel_rfl) (by kernel_rfl) (m8 (sO lk (by kernel_rfl)) rfl (m8 (sO A1 (by kernel_rfl)) rfl (m8 (sO A4 (by kernel_rfl)) rfl (m8 (Iq Db (by kernel_rfl)) rfl (Jd)))))) rfl (Jd)))))
set_option maxRecDepth 100000 in
theorem Tc(os:Os)(args:Array Value):laidMetH aQ Lf ((World.doorLaid aQ 400 os).forCall (fun _ _=>0) ⟨#[],args,[]⟩).memory:=
 laidMetH_of_parts3 (fuel:=8) (laidMet_of_run' 8 (by kernel_rfl) (by kernel_rfl)) (by kernel_rfl) (by kernel_rfl)
theorem QL{W:World}(h:laidMetH aQ Lf W): ∀p∈glob,∃c T fr,W.heap[p.1]? =some (.cells c T fr)∧c.toList.take p.2.length=p.2:=by
 rw [MakeChecks.laidMetH_plain _ _ _ (by kernel_rfl)]at h
 intro p hp
 simp only [glob,fx,G2,or_false]at hp
 rcases hp with rfl
 ·exact I7 h (kZ ..) ac0 acY (acZ W)
end Go.Proofs.YtfhhakidodmdfaaGreatDoor

