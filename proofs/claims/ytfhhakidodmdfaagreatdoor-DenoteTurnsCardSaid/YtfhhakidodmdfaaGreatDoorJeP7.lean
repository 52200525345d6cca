/- cT of this claim: P7. -/
import Derived.Test.YtfhhakidodmdfaaGreatDoorJeT
import Derived.Test.YtfhhakidodmdfaaGreatDoorJeP6
set_option linter.all false
namespace Go.Proofs.YtfhhakidodmdfaaGreatDoor
open Go
set_option maxRecDepth 100000

theorem U4(e:bK)(do1:(bm→(List ac)→Option (ac×Int))){R:ac×Int}(h:ir e do1=some R):aV aR 184 [tD cm e,(dX aR S8 sF (fun(x:bm×(List ac))=>do1 x.1 x.2))] (tT [tD af R.1,bI R.2]):=by
 refine aV.of Tryz.func184 J J J fun w0 S0=>aw<|zo J (js J)<|aY (r:=af) (x:=hJ) aG (fun _=>bh _) J fun b=>zo J (cF)<|au<|Lq<|aw<|bL false af 46<|aY (x:=aO none 0 0) HG (fun _=>Eu) J fun b1=>au<|aw<|aY (r:=af) (x:=hJ) aG (fun _=>bh _) J fun b2=>aW 7 J<|au<|aw<|zo J (Kf (cts:=[tV (aP b1 0)]) (caps:=[.tmp 6]) ⟨(ht J),aS⟩) ?_;refine bo J<|au<|aw<|zo J (cF)<|au<|ah<|Lr<|av<|ah<|aw<|zo rfl (de pW lO rfl rfl)<|zo rfl (bC Aq rfl rfl)<|zo rfl (iJ wy rfl)<|zo rfl (bG hI)<|au ?_;refine Ho (Z:=fun bad stack l c=>gj bad stack=some R) (Of:=fun bad stack l c=>[bx af 46 b hJ,bx rV 42 b1 (aO l c stack.length),eH af 46 l c stack]) (Gf:=fun bad stack l c=>[(4,tV (aP b 0)),(6,tV (aP b1 0)),(7,bM af hJ),(9,bI bad)]) (fun bad stack l c h=>?_) (fun K=>?_)
 ·skip
  refine av<|ah<|aw<|aF rfl<|zo rfl (uL rfl)<|au<|dd h rfl (fun h=>?_) (fun h=>?_)
  ·refine aw<|zo J (bC aG J J)<|aF J<|ax aG J an J (ht J) (ht J)<|bo J<|au<|am ?_;refine ae (yA ?_);refine bn 4 J<|be<|be ?_;cases so h;exact bS J J ⟨br aG J J J,aZ J,aS⟩
  ·refine dU<|aw<|zo J (gR HG (.tail _ (.head _)) (ht J))<|bB h fun e1 q_e1 h=>zo J (cw jY aG (.tail _ (.tail _ (.head _))) (ht J) hI q_e1)<|zo J (fR (r:=af) (i:=(0:Int)) (foff:=0) aG J J bR J (.tail _ (.tail _ (.head _))) q_e1 (ht J))<|ax aG J an J (ht J) (ht J)<|zo J (cF)<|au<|am<|yA<|bn 4 J<|be<|be ?_;cases so h;exact bS J J ⟨br aG J J J,aZ J,aS⟩
 ·skip
  refine bc (k:=16) J fun hN=>bJ<|gz<|gz<|ow ?_;refine aT (tB (Z:=fun ls i bad1 stack1 l1 c1=>(e.Nodes.drop i=ls)∧dF do1 ls bad1 stack1=some R) (Of:=fun _ i bad1 stack1 l1 c1=>[bx af 46 b hJ,bx rV 42 b1 (aO l1 c1 stack1.length),eH af 46 l1 c1 stack1]) (Gf:=fun _ i bad1 stack1 l1 c1=>[(1,(dX aR S8 sF (fun(x:bm×(List ac))=>do1 x.1 x.2))),(4,tV (aP b 0)),(6,tV (aP b1 0)),(7,bM af hJ),(8,tC 275 [tV (aP b1 0)]),(9,bI bad1),(16,bZ (bN) e.Nodes),(17,jr e.Nodes),(18,bI (i:Int))]) (fun i bad1 stack1 l1 c1 h=>?_) (fun e2 tl ih i bad1 stack1 l1 c1 h=>?_) e.Nodes 0 (0:Int) Hw none 0 ⟨J,h⟩) (bt J)
  ·obtain⟨hx,h⟩:=h
   refine aB<|aw<|zo J (fL J J)<|au<|ah<|bz (ht J) (du hx)<|bu ?_;refine ai (ai (aN ?_));exact cC (K bad1 stack1 l1 c1 h) (bt J)
  ·obtain⟨hx,h⟩:=h
   refine aB<|aw<|zo J (fL J J)<|au<|ah<|bw (ht J) (dl hx)<|dU<|ah<|aA<|aw<|zo J (ml wy pw J J J (cX hx))<|zo J (bC pw J J)<|aY (r:=bN) (x:=Qw) pw (fun _=>uJ _) J fun b3=>ax pw J an J (ht J) (ht J)<|aW 11 J<|au<|ah<|bB h fun r q_r h=>bB h fun r1 q_r1 h=>?_
   obtain⟨r2,q_r2,h⟩:=bs h
   refine SQ 13 [tc ((dX aR S8 sF (fun(x:bm×(List ac))=>do1 x.1 x.2))),tc (tD bN e2),tc (tC 275 [tV (aP b1 0)]),tc (bM bT e2.Tag),tc (bI e2.Tag),tc (bI r),tc (bZ (af) r1.1),tc (tT [tD af r2.1,bI r2.2]),tc (tT [tD af r2.1,bI r2.2]),tc (tD af r2.1),tc (bI r2.2),([11],fun s=>tV (aP ((s.getD 0 oU).h 0).2 0)),tc (C0)] [false,false,false,false,false,false,true,false,false,false,false,true,true] [([],fun _=>[bx af 46 b hJ,bx rV 42 b1 (aO l1 c1 stack1.length),eH af 46 l1 c1 stack1]),([6],fun sg=>[bx rV 42 b1 (aO ((sg 6).h 0).1 ((sg 6).h 0).2 r1.2.length),eH af 46 ((sg 6).h 0).1 ((sg 6).h 0).2 r1.2,bx af 46 b hJ]),([11],fun sg=>[bx af 46 ((sg 11).h 0).2 hJ,bx af 46 b hJ,bx rV 42 b1 (aO l1 c1 stack1.length),eH af 46 l1 c1 stack1]),([6,11],fun sg=>[bx af 46 ((sg 11).h 0).2 hJ,bx rV 42 b1 (aO ((sg 6).h 0).1 ((sg 6).h 0).2 r1.2.length),eH af 46 ((sg 6).h 0).1 ((sg 6).h 0).2 r1.2,bx af 46 b hJ]),([6,11,12],fun sg=>[bx af 46 ((sg 11).h 0).2 r2.1,bx rV 42 b1 (aO ((sg 6).h 0).1 ((sg 6).h 0).2 r1.2.length),eH af 46 ((sg 6).h 0).1 ((sg 6).h 0).2 r1.2,bx af 46 b hJ])] (fun _=>J) mixed J J J J
    ⟨⟨[⟨1,fun _=>(dX aR S6 CZ (fun(x:bm×(List ac))=>do1 x.1 x.2)),none⟩],_,[[],[6],[11],[6,11]],J,⟨(fun _=>J),aS⟩,J,J,J,J,J,⟨fun sg=>ay J (dv J),fun sg=>ay J (dv J),fun sg=>ay J (dv J),fun sg=>ay J (dv J),aS⟩⟩,
    ⟨⟨[⟨11,fun _=>bM bN e2,none⟩],_,[[],[6],[11],[6,11]],J,⟨(fun _=>J),aS⟩,J,J,J,J,J,⟨fun sg=>ay J (bC pw J J),fun sg=>ay J (bC pw J J),fun sg=>ay J (bC pw J J),fun sg=>ay J (bC pw J J),aS⟩⟩,
    ⟨⟨[⟨8,fun _=>tC 275 [tV (aP b1 0)],none⟩],_,[[],[11]],J,⟨(fun _=>J),aS⟩,J,J,J,J,J,⟨fun sg=>ay J (dv J),fun sg=>ay J (dv J),aS⟩⟩,
    ⟨⟨[⟨11,fun _=>bM bN e2,none⟩],_,[[],[11]],J,⟨(fun _=>J),aS⟩,J,J,J,J,J,⟨fun sg=>ay J (de pV ij J J),fun sg=>ay J (de pV ij J J),aS⟩⟩,
    ⟨⟨[⟨26,fun _=>bM bT e2.Tag,some 3⟩],_,[[],[11]],J,⟨(fun _=>J),aS⟩,J,J,J,J,J,⟨fun sg=>ay J (bC cu J J),fun sg=>ay J (bC cu J J),aS⟩⟩,
    ⟨⟨[⟨27,fun _=>tD bT e2.Tag,some 4⟩],_,[[],[11]],J,⟨(fun _=>J),aS⟩,J,J,J,J,J,⟨fun sg=>ay J (aE ON (Dq _ q_r) ⟨(ht J),aS⟩),fun sg=>ay J (aE ON (Dq _ q_r) ⟨(ht J),aS⟩),aS⟩⟩,
    ⟨⟨[⟨25,fun _=>tC 275 [tV (aP b1 0)],some 2⟩,⟨28,fun _=>tD bT r,some 5⟩],_,[([],[6]),([11],[6,11])],J,⟨(fun _=>J),(fun _=>J),aS⟩,J,J,J,J,J,⟨fun sg=>d8 J (EffOK.fr2 (EffOK.fr2 (BZ (xs:=[.tmp 28]) (ts:=[tD bT r]) (cts:=[tV (aP b1 0)]) [bx rV 42 b1 (aO l1 c1 stack1.length),eH af 46 l1 c1 stack1] _ J Wu (RQ b1 l1 c1 _ _ q_r1) (ht J) ⟨(ht J),aS⟩ (fun _=>J)))),fun sg=>d8 J (EffOK.post_imp (post:=fun x__=>(fun(sg:Nat→OI)=>[bx rV 42 b1 (aO ((sg 6).h 0).1 ((sg 6).h 0).2 r1.2.length),eH af 46 ((sg 6).h 0).1 ((sg 6).h 0).2 r1.2,bx af 46 ((sg 11).h 0).2 hJ,bx af 46 b hJ]) (LF sg 6 x__)) (EffOK.fr3 (EffOK.fr3 (BZ (xs:=[.tmp 28]) (ts:=[tD bT r]) (cts:=[tV (aP b1 0)]) [bx rV 42 b1 (aO l1 c1 stack1.length),eH af 46 l1 c1 stack1] _ J Wu (RQ b1 l1 c1 _ _ q_r1) (ht J) ⟨(ht J),aS⟩ (fun _=>J)))) (fun h=>cM.pick [2,0,1,3] J h)),aS⟩⟩,
    ⟨⟨[⟨23,fun _=>(dX aR S6 CZ (fun(x:bm×(List ac))=>do1 x.1 x.2)),some 0⟩,⟨24,fun _=>tD bN e2,some 1⟩,⟨29,fun _=>tD cV r1.1,some 6⟩],_,[[6],[6,11]],J,⟨(fun _=>J),(fun _=>J),(fun _=>J),aS⟩,J,J,J,J,J,⟨fun sg=>ay J (gS (args:=S6) (res:=CZ) (f:=(fun(x:bm×(List ac))=>do1 x.1 x.2)) (x:=((e2,r1.1):bm×(List ac))) (ht J) q_r2 ⟨(ht J),(ht J),aS⟩),fun sg=>ay J (gS (args:=S6) (res:=CZ) (f:=(fun(x:bm×(List ac))=>do1 x.1 x.2)) (x:=((e2,r1.1):bm×(List ac))) (ht J) q_r2 ⟨(ht J),(ht J),aS⟩),aS⟩⟩,
    ⟨⟨[⟨30,fun _=>tT [tD af r2.1,tD bT r2.2],some 7⟩],_,[[6],[6,11]],J,⟨(fun _=>J),aS⟩,J,J,J,J,J,⟨fun sg=>ay J (dv J),fun sg=>ay J (dv J),aS⟩⟩,
    ⟨⟨[⟨22,fun _=>tT [tD af r2.1,tD bT r2.2],some 8⟩],_,[[6],[6,11]],J,⟨(fun _=>J),aS⟩,J,J,J,J,J,⟨fun sg=>ay J (gV J J),fun sg=>ay J (gV J J),aS⟩⟩,
    ⟨⟨[⟨22,fun _=>tT [tD af r2.1,tD bT r2.2],some 8⟩],_,[[6],[6,11],[6,11,12]],J,⟨(fun _=>J),aS⟩,J,J,J,J,J,⟨fun sg=>ay J (gV J J),fun sg=>ay J (gV J J),fun sg=>ay J (gV J J),aS⟩⟩,
    ⟨⟨[],_,[([],[11]),([6],[6,11])],J,aS,J,J,J,J,J,⟨fun sg=>d8 J (ym (r:=af) (x:=hJ) aG (fun _=>bh _)),fun sg=>d8 J (ym (r:=af) (x:=hJ) aG (fun _=>bh _)),aS⟩⟩,
    ⟨⟨[⟨12,fun sg=>tV (aP ((sg 11).h 0).2 0),some 11⟩,⟨31,fun _=>tD af r2.1,some 9⟩],_,[([6,11],[6,11,12])],J,⟨(fun _=>J),(fun _=>J),aS⟩,J,J,J,J,J,⟨fun sg=>d8 J (nW aG J (zu an) J (ht J) (ht J)),aS⟩⟩,
    aS⟩⟩⟩⟩⟩⟩⟩⟩⟩⟩⟩⟩⟩ (fun sg=>?_)
   refine(show RG _ _ _ _ [bx af 46 ((sg 11).h 0).2 r2.1,bx rV 42 b1 (aO ((sg 6).h 0).1 ((sg 6).h 0).2 r1.2.length),eH af 46 ((sg 6).h 0).1 ((sg 6).h 0).2 r1.2,bx af 46 b hJ] _ from ?_);refine aW 12 J<|bo J<|au<|ah<|aw<|aF J<|zo J (uL J)<|au<|dd h J (fun h=>?_) (fun h=>?_)
   ·refine aw<|aF J<|bo J<|au<|bu ?_;refine ai (cj J (ai (ai (aN ?_))));refine bv<|bv<|aJ ?_;exact cC (K r2.2 r1.2 ((sg 6).h 0).1 ((sg 6).h 0).2 h) (bt J)
   ·refine dU<|aq<|zo J (gR HG (.head _) (ht J))<|zo J (bC aG J J)<|zo J (aU (r:=af) (ys:=[r2.1]) (xs:=[.tmp 37]) jY aG J J J J J ⟨(ht J),aS⟩)<|bH<|bB h fun l2 q_l2 h=>cO aG J J J J jY J J (ht J) (ht J) q_l2 fun l3 c2=>bH<|ax HG J an J (ht J) (PE (ht J))<|aQ<|ap<|av<|aq<|zo rfl (lZ (cL hx hN) rfl)<|aF rfl<|aQ<|bv<|bv<|aJ ?_;exact bg (aT (ih (i+1) bad1 l2 l3 c2 ⟨cK hx,h⟩) (bt J))

theorem U3(r:(List ac))(do1:(List (Int×(ac→ac→Option (ac×Int)))))(n:bm)(l:(List ac)){R:ac×Int}(h:iC r do1 n l=some R):aV aR 185 [tD bN n,bZ (af) l,bM cV r,bM (rT (NC (fun y:(ac→ac→Option (ac×Int))=>yG aR p8 sF (fun(x:ac×ac)=>y x.1 x.2)) kP do1)) ()] (tT [tD af R.1,bI R.2]):=by
 refine aV.of Tryz.func185 J J J fun w0 S0=>aw<|zo J (js J)<|aY (r:=af) (x:=hJ) aG (fun _=>bh _) J fun b=>zo J (cF)<|au<|ah<|aw<|zo J (de pV ij J J)<|zo J (bC cu J J)<|au<|aA<|aw<|zo J (nr J)<|bo J<|au<|dd h J (fun h=>?_) (fun h=>?_)
 ·refine aw<|zo J (de BU qv J J)<|zo J (bC aG J J)<|ax aG J an J (ht J) (ht J)<|zo J (cF)<|au<|am ?_;refine aD (ae ?_);refine bn 6 J ?_;cases so h;exact bS J J ⟨br aG J J J,aZ J,aS⟩
 ·refine aw<|zo J (nr J)<|bo J<|au<|dd h J (fun h=>?_) (fun h=>?_)
  ·refine aw<|zo J (bC dL J J)<|zo J (de zK o8 J J)<|zo J (bC cu J J)<|bB h fun e q_e h=>zo J (ml iX aG J J J q_e)<|zo J (bC aG J J)<|ax aG J an J (ht J) (ht J)<|zo J (cF)<|au<|am ?_;refine aD (ae ?_);refine bn 6 J ?_;cases so h;exact bS J J ⟨br aG J J J,aZ J,aS⟩
  ·refine bA<|ap<|av<|ah<|bB h fun e1 q_e1 h=>bB h fun e2 q_e2 h=>bB h fun r1 q_r1 h=>?_
   refine oc 19 [tc (NC (fun y:(ac→ac→Option (ac×Int))=>yG aR p8 sF (fun(x:ac×ac)=>y x.1 x.2)) kP do1),tc (bM bT n.Tag),tc (bI n.Tag),tc (yG aR p8 sF (fun(x:ac×ac)=>((kD do1 n.Tag).getD (fun _ _=>none)) x.1 x.2)),tc (bZ (af) l),tc (bM af e1),tc (tD af e1),tc (bZ (af) l),tc (bZ (af) l),tc (jr l),tc (bI (IntKind.i64.wrap ((l.length:Int)-(1:Int)))),tc (bM af e2),tc (tD af e2),tc (tT [tD af r1.1,bI r1.2]),tc (tT [tD af r1.1,bI r1.2]),tc (tD af r1.1),tc (bI r1.2),([17],fun s=>tV (aP ((s.getD 0 oU).h 0).2 0)),tc (C0)] [false,false,false,false,false,false,false,false,false,false,false,false,false,false,false,false,false,true,true] [fun _=>[bx af 46 b hJ],fun sg=>[bx af 46 ((sg 17).h 0).2 hJ,bx af 46 b hJ],fun sg=>[bx af 46 ((sg 17).h 0).2 r1.1,bx af 46 b hJ]] J mixed J J J J J
    ⟨⟨[⟨3,fun _=>bM (rT (NC (fun y:(ac→ac→Option (ac×Int))=>yG aR p8 CZ (fun(x:ac×ac)=>y x.1 x.2)) kP do1)) (),none⟩],_,0,1,J,⟨(fun _=>J),aS⟩,J,J,J,J,J,fun _ sg _ _=>ay J (u0 QH (ht J))⟩,
    ⟨⟨[⟨4,fun _=>bM bN n,none⟩],_,0,1,J,⟨(fun _=>J),aS⟩,J,J,J,J,J,fun _ sg _ _=>ay J (de pV ij J J)⟩,
    ⟨⟨[⟨25,fun _=>bM bT n.Tag,some 1⟩],_,0,1,J,⟨(fun _=>J),aS⟩,J,J,J,J,J,fun _ sg _ _=>ay J (bC cu J J)⟩,
    ⟨⟨[⟨24,fun _=>NC (fun y:(ac→ac→Option (ac×Int))=>yG aR p8 CZ (fun(x:ac×ac)=>y x.1 x.2)) kP do1,some 0⟩,⟨26,fun _=>tD bT n.Tag,some 2⟩],_,0,1,J,⟨(fun _=>J),(fun _=>J),aS⟩,J,J,J,J,J,fun _ sg _ _=>ay J (Kh (γ:=(fun y:(ac→ac→Option (ac×Int))=>yG aR p8 CZ (fun(x:ac×ac)=>y x.1 x.2))) (z:=(fun _ _=>none)) wK (dT kC) YR (fun _=>Td) (ht J) (nt (ht J)))⟩,
    ⟨⟨[⟨1,fun _=>tD cV l,none⟩],_,0,1,J,⟨(fun _=>J),aS⟩,J,J,J,J,J,fun _ sg _ _=>ay J (dv J)⟩,
    ⟨⟨[⟨28,fun _=>tD cV l,some 4⟩],_,0,1,J,⟨(fun _=>J),aS⟩,J,J,J,J,J,fun _ sg _ _=>ay J (bp jY aG J (ht J) hI q_e1)⟩,
    ⟨⟨[⟨29,fun _=>bM af e1,some 5⟩],_,0,1,J,⟨(fun _=>J),aS⟩,J,J,J,J,J,fun _ sg _ _=>ay J (bC aG J J)⟩,
    ⟨⟨[⟨1,fun _=>tD cV l,none⟩],_,0,1,J,⟨(fun _=>J),aS⟩,J,J,J,J,J,fun _ sg _ _=>ay J (dv J)⟩,
    ⟨⟨[⟨1,fun _=>tD cV l,none⟩],_,0,1,J,⟨(fun _=>J),aS⟩,J,J,J,J,J,fun _ sg _ _=>ay J (dv J)⟩,
    ⟨⟨[⟨32,fun _=>tD cV l,some 8⟩],_,0,1,J,⟨(fun _=>J),aS⟩,J,J,J,J,J,fun _ sg _ _=>ay J (iJ jY J)⟩,
    ⟨⟨[⟨33,fun _=>tD bT (l.length:Int),some 9⟩],_,0,1,J,⟨(fun _=>J),aS⟩,J,J,J,J,J,fun _ sg _ _=>ay J (jf (ht J) hI)⟩,
    ⟨⟨[⟨31,fun _=>tD cV l,some 7⟩,⟨34,fun _=>tD bT (IntKind.i64.wrap ((l.length:Int)-(1:Int))),some 10⟩],_,0,1,J,⟨(fun _=>J),(fun _=>J),aS⟩,J,J,J,J,J,fun _ sg _ _=>ay J (ml jY aG J J J q_e2)⟩,
    ⟨⟨[⟨35,fun _=>bM af e2,some 11⟩],_,0,1,J,⟨(fun _=>J),aS⟩,J,J,J,J,J,fun _ sg _ _=>ay J (bC aG J J)⟩,
    ⟨⟨[⟨27,fun _=>yG aR p8 CZ (fun(x:ac×ac)=>((kD do1 n.Tag).getD (fun _ _=>none)) x.1 x.2),some 3⟩,⟨30,fun _=>tD af e1,some 6⟩,⟨36,fun _=>tD af e2,some 12⟩],_,0,1,J,⟨(fun _=>J),(fun _=>J),(fun _=>J),aS⟩,J,J,J,J,J,fun _ sg _ _=>ay J (Pu (args:=p8) (res:=CZ) (f:=(fun(x:ac×ac)=>((kD do1 n.Tag).getD (fun _ _=>none)) x.1 x.2)) (x:=((e1,e2):ac×ac)) (ht J) q_r1 ⟨(ht J),(ht J),aS⟩)⟩,
    ⟨⟨[⟨37,fun _=>tT [tD af r1.1,tD bT r1.2],some 13⟩],_,0,1,J,⟨(fun _=>J),aS⟩,J,J,J,J,J,fun _ sg _ _=>ay J (dv J)⟩,
    ⟨⟨[⟨23,fun _=>tT [tD af r1.1,tD bT r1.2],some 14⟩],_,0,1,J,⟨(fun _=>J),aS⟩,J,J,J,J,J,fun _ sg _ _=>ay J (gV J J)⟩,
    ⟨⟨[⟨23,fun _=>tT [tD af r1.1,tD bT r1.2],some 14⟩],_,0,2,J,⟨(fun _=>J),aS⟩,J,J,J,J,J,fun _ sg _ _=>ay J (gV J J)⟩,
    ⟨⟨[],_,J,aS,J,J,J,fun sg=>d8 J (ym (r:=af) (x:=hJ) aG (fun _=>bh _))⟩,
    ⟨⟨[⟨8,fun sg=>tV (aP ((sg 17).h 0).2 0),some 17⟩,⟨38,fun _=>tD af r1.1,some 15⟩],_,J,⟨(fun _=>J),(fun _=>J),aS⟩,J,J,J,fun sg=>d8 J (nW aG J (zu an) J (ht J) (ht J))⟩,
    aS⟩⟩⟩⟩⟩⟩⟩⟩⟩⟩⟩⟩⟩⟩⟩⟩⟩⟩⟩ (fun sg=>?_)
   refine(show RG _ _ _ _ [bx af 46 ((sg 17).h 0).2 r1.1,bx af 46 b hJ] _ from ?_);refine aW 8 J<|bo J<|au ?_;refine j7 (Z:=fun no=>pY r1 no=some R) (Of:=fun no=>[bx af 46 b hJ]) (Gf:=fun no=>[(6,tV (aP b 0)),(8,bM af r1.1),(9,bI no)]) (fun no h=>?_) (fun K=>?_)
   ·skip
    refine aw<|zo J (bC aG J J)<|aF J<|ax aG J an J (ht J) (ht J)<|bo J<|au<|am<|bn 6 J ?_;cases so h;exact bS J J ⟨br aG J J J,aZ J,aS⟩
   ·skip
    refine aw<|aF J<|zo J (uL J)<|aF J<|dK J J (fun hg=>dv J)<|dK J J (fun hg=>fM (bP J hg) hI)<|zo J (uK J J)<|au<|dd h J (fun h=>?_) (fun h=>?_)
    ·refine aq<|zo J (cF)<|aQ ?_;exact cC (K (201:Int) h) (bt J)
    ·refine bA ?_;exact cC (K r1.2 h) (bt J)

theorem IG(e:bK)(r:(List ac)){R:ac×Int}(h:ss e r=some R):aV aR 107 [tD cm e,bZ (af) r] (tT [tD af R.1,bI R.2]):=by
 refine aV.of Tryz.func107 J J J fun w0 S0=>aw<|zo J (js J)<|zo J (js J)<|aY (r:=af) (x:=hJ) aG (fun _=>bh _) J fun b=>zo J (cF)<|au<|ah<|aw<|zo J (bC kG J J)<|bB h fun r1 q_r1 h=>zo J (aE YA (ML _ q_r1) ⟨(ht J),aS⟩)<|bo J<|au<|aw<|aF J<|zo J (uL J)<|au ?_;refine dd h J (fun h=>?_) (fun h=>?_)
 ·refine aw<|zo J (cn (y:=hJ) aG qb bh (J))<|aF J<|ax aG J an J (ht J) (ht J)<|bo J<|au<|am<|ae<|bn 4 J ?_;cases so h;exact bS J J ⟨br aG J J J,aZ J,aS⟩
 ·refine dU<|ah<|aw<|zo J (bC kG J J)<|bB h fun r2 q_r2 h=>il WB (KL _ q_r2) ⟨(ht J),aS⟩ J fun l c=>zo J (i9 gF (.head _) (ht J))<|zo J (bG hI)<|au<|aA<|mR (.head _) fun hN=>bJ ?_;refine aT (oa (Z:=fun ls i x=>(r2.drop i=ls)∧oo e r ls x=some R) (Of:=fun _ i x=>[eH bT 3 l c r2,bx af 46 b x]) (Gf:=fun _ i x=>[(2,bM cm e),(3,bM cV r),(4,tV (aP b 0)),(17,qS l c r2),(18,jr r2),(19,bI (i:Int))]) (fun i x h=>?_) (fun e1 tl ih i x h=>?_) r2 0 hJ ⟨J,h⟩) (bt J)
  ·obtain⟨hx,h⟩:=h
   refine aB<|aw<|zo J (fL J J)<|au<|ah<|bz (ht J) (du hx)<|bu ?_;refine ai (ai (aN ?_));refine av<|aw<|bB h fun r3 q_r3 h=>zo J (aE abd (U5 q_r3) trivial)<|aY (r:=rV) (x:= .map none) QH (fun _=>⟨J,J⟩) J fun b1=>wd (nW (r' :=rT (NC (fun y:(ac→ac→Option (ac×Int))=>yG aR p8 sF (fun(x:ac×ac)=>y x.1 x.2)) kP r3)) (x' :=()) (q:=rT (NC (fun y:(ac→ac→Option (ac×Int))=>yG aR p8 sF (fun(x:ac×ac)=>y x.1 x.2)) kP r3)) (y:=()) QH J (uQ J) J (ht J) (hTT Tz (show aH _ _ _ (NC (fun y:(ac→ac→Option (ac×Int))=>yG aR p8 sF (fun(x:ac×ac)=>y x.1 x.2)) kP r3)from(ht J)))) fun _=>?_;refine(show RG _ _ _ _ (bx (rT (NC (fun y:(ac→ac→Option (ac×Int))=>yG aR p8 sF (fun(x:ac×ac)=>y x.1 x.2)) kP r3)) 219 b1 ()::_) _ from ?_);refine aW 9 J<|au<|aw<|zo J (bC kG J J)<|zo J ((show bQ _ _ _ _ ((dX aR S8 sF (fun(x:bm×(List ac))=>(iC r r3) x.1 x.2)))from iB (cts:=[bM cV r,bM (rT (NC (fun y:(ac→ac→Option (ac×Int))=>yG aR p8 sF (fun(x:ac×ac)=>y x.1 x.2)) kP r3)) ()]) (caps:=[.tmp 3,.tmp 9]) abb ⟨(ht J),(ht J),aS⟩ (fun x y h=>U3 _ _ _ _ h)))<|bB h fun r4 q_r4 h=>zo J (aE abc (U4 _ _ q_r4) ⟨(ht J),(ht J),aS⟩)<|zo J (gV J J)<|zo J (gV J J)<|bH<|ax aG J an J (ht J) (ht J)<|bo J<|au<|am<|bn 4 J<|be ?_;cases so h;exact bS J J ⟨br aG J J J,aZ J,aS⟩
  ·obtain⟨hx,h⟩:=h
   refine aB<|aw<|zo J (fL J J)<|au<|ah<|bw (ht J) (dl hx)<|dU<|ah<|aA<|aw<|zo J (cw gF cu (.head _) (ht J) (ht J) (cX hx))<|zo J (fR (r:=bT) (i:=(i:Int)) (foff:=0) cu J J bR J (.head _) (cX hx) (ht J))<|bo J<|au<|aw<|aF J<|zo J (bC dL J J)<|zo J (iJ iX J) ?_;refine zo J (jg (ht J) (ht J))<|aF J<|bB h fun t q_t h=>gY J J (fun hg=>bC dL J J)<|gY J J (fun hg=>dv J) ?_
   obtain⟨e2,h1t,h0t⟩:=og q_t
   have q_e2g:=fun hb=>(h1t hb).1
   refine gY J J (fun hg=>bp iX aG J (bP J hg) (bP J hg) (q_e2g hg))<|gY J J (fun hg=>bO aG J J (bP J hg)) ?_
   obtain⟨r5,h1t⟩:=XA (fun hb=>(h1t hb).2)
   have q_r5g:=fun hb=>(h1t hb).1
   refine gY J J (fun hg=>aE OO (Dr _ (q_r5g hg)) ⟨(bP J hg),aS⟩)<|gY J J (fun hg=>gg (bP J hg))<|zo J (lk (ht J) (fun hb=>(bP J (AL hb))) (fun hb=>(h1t hb).2) h0t)<|au<|dd h J (fun h=>?_) (fun h=>?_)
   ·refine aw<|zo J (cn (y:=hJ) aG qb bh (J))<|bH<|ax aG J an J (ht J) (ht J)<|zo J (cF)<|au<|am ?_;refine aD (ae (ae (aD (ae ?_))));refine bn 4 J<|be ?_;cases so h;exact bS J J ⟨br aG J J J,aZ J,aS⟩
   ·refine bA<|ap<|av<|aq<|zo rfl (lZ (cL hx hN) rfl)<|aF rfl<|aQ ?_;exact bg (aT (ih (i+1) x ⟨cK hx,h⟩) (bt J))

theorem Va(a1:ac){R:Bool}(h:vA a1=some R):aV aR 171 [tD af a1] (iz R):=by
 refine aV.of Tryz.func171 J J J fun w0 S0=>aw<|zo J (js J)<|zo J (jS)<|au<|ah<|bB h fun r q_r h=>?_
 refine dc (ts:=[_,_,_,_]) mixed J J
  ⟨fb 1 J J J (bC aG J J),
  ⟨Pb J J (aE Sl (IC _ q_r) ⟨hB,aS⟩),
  ⟨d6 3 0 4 1 J J J J (Dh PN (ht J) (ht J)),
  ⟨ca 5 2 J J J (uM J),
  aS⟩⟩⟩⟩ ?_
 refine av<|am ?_;cases so h;exact aL J J

theorem Ox(e:bK)(r:(List ac)){R:Bool×Int}(h:pZ e r=some R):aV aR 103 [tD cm e,bZ (af) r] (tT [iz R.1,bI R.2]):=by
 refine aV.of Tryz.func103 J J J fun w0 S0=>aw<|zo J (js J)<|zo J (jS)<|zo J (cF)<|au<|aw<|zo J (bC kG J J)<|aF J<|bB h fun r1 q_r1 h=>zo J (aE Sr (IG _ _ q_r1) ⟨(ht J),(ht J),aS⟩)<|aF J<|zo J (gV J J)<|zo J (gV J J)<|aY (r:=af) (x:=hJ) aG (fun _=>bh _) J fun b=>ax aG J an J (ht J) (ht J)<|aW 6 J<|bo J<|au<|ah ?_;refine aq<|zo J (bC aG J J)<|bB h fun r2 q_r2 h=>zo J (aE abk (Va _ q_r2) ⟨(ht J),aS⟩)<|aF J<|bo J<|bo J<|au<|am ?_;cases so h;exact cN J J J

theorem ZP(b:Nat)(ix:OI)(r:cW)(n:ak){R:(List (List ac))×Int}(h:jA r n=some R):c0 aR 52 [tV (aP b 0),tD aI n] (jh b r ix) (fun _:OI=>tT [bZ (cV) R.1,bI R.2]) (fun _=>(jh b r ix)):=by
 refine Qb Tryz.func52 J J J fun w0 S0=>?_;refine(show CG _ _ _ [bx (rH ea [(1,aO (ix.h 0).1 (ix.h 0).2 r.rows.length),(2,aO (ix.h 1).1 (ix.h 1).2 r.width.length)]) 96 b r,dS c9 32 (ix.h 0).1 (ix.h 0).2 r.rows,dS bT 3 (ix.h 1).1 (ix.h 1).2 r.width] _ from ?_);refine aw<|zo J (js J)<|aY (r:=c9) (x:=[]) fN (fun _=>⟨none,0,J,dn _,lw _,.inl J⟩) J fun b1=>aY (r:=bT) (x:=(0:Int)) LM (fun _=>J) J fun b2=>au<|ah<|bB h fun e q_e h=>bB h fun e1 q_e1 h=>?_
 refine dc (ts:=[_,_,_,_,_,_,_,_,_,_,_,_,_,_,_,_,_,_]) mixed J J
  ⟨fb 0 J J J (dv J),
  ⟨ca 16 0 J J J (dD (ht J)),
  ⟨ca 17 1 J J J (kp 1 qw J J J),
  ⟨ca 18 2 J J J (dh ro J (.tail _ (.tail _ (.head _))) (.tail _ (.tail _ (.tail _ (.head _)))) (ht J)),
  ⟨fb 3 J J J (de jP dR J J),
  ⟨ca 20 4 J J J (bC cu J J),
  ⟨d6 19 3 21 5 J J J J (bp mj fN J (kT (ht J)) (ht J) q_e),
  ⟨ca 22 6 J J J (bC fN J J),
  ⟨fb 0 J J J (dv J),
  ⟨ca 24 8 J J J (dD (ht J)),
  ⟨ca 25 9 J J J (kp 1 qw J J J),
  ⟨ca 26 10 J J J (dh ro J (.tail _ (.tail _ (.head _))) (.tail _ (.tail _ (.tail _ (.head _)))) (ht J)),
  ⟨fb 3 J J J (de rt km J J),
  ⟨ca 28 12 J J J (bC cu J J),
  ⟨d6 27 11 29 13 J J J J (bp mj fN J (kT (ht J)) (ht J) q_e1),
  ⟨ca 30 14 J J J (bC fN J J),
  ⟨ca 23 7 J J J (uM J),
  ⟨ca 31 15 J J J (uM J),
  aS⟩⟩⟩⟩⟩⟩⟩⟩⟩⟩⟩⟩⟩⟩⟩⟩⟩⟩ ?_
 refine av<|ah<|aw<|aF rfl<|zo rfl (iJ ja rfl)<|aF rfl<|zo rfl (iJ ja rfl)<|zo rfl (xo (ht rfl) (ht rfl))<|zo rfl (gm (ht rfl) hI)<|au<|dd h rfl (fun h=>?_) (fun h=>?_)
 ·refine aw<|bH<|ax fN J an J (ht J) jO<|bH<|ax LM J an J (ht J) hI<|au<|am<|ae<|bv<|bn 4 J<|bn 5 J<|aJ<|aJ<|aJ<|rl ?_;cases so h;exact d5 (ts:=[bZ (cV) ([]),bI 3]) (rvs:=[.cell 4 32,.cell 5 33]) J J ⟨br fN J J J,br LM J J J,aS⟩ oU J J
 ·refine dU<|aw<|aF J<|zo J (iJ ja J)<|bB h fun mk q_mk h=>zS (R7 (r:=rB) (x:=false) Jq J J J Tryz.underlying143 (fun _=>J) (ht J) (ht J) q_mk) J fun i=>bL false rB 4<|aY (x:=aO none 0 0) Nx (fun _=>Eu) J fun b3=>bH<|VS<|ax Nx J an J (ht J) (PE (ht J))<|au<|aw<|bL false cV 43<|aY (x:=aO none 0 0) fN (fun _=>Eu) J fun b4=>au<|ah<|aw ?_;refine aF J<|aF J<|bB h fun it q_it h=>Hg abG (R1 _ _ q_it) ⟨(ht J),(ht J),aS⟩ J fun v fp=>au<|aA<|bB h fun r1 q_r1 h=>YM ?_;refine Hn (fun(ix1:Option Nat×Nat×List (List ac)×Option Nat×Nat×List Bool×Int×(List (List ac)))=>[bx rV 32 b4 (aO ix1.1 ix1.2.1 ix1.2.2.1.length),eH cV 43 ix1.1 ix1.2.1 ix1.2.2.1,bx rV 143 b3 (aO ix1.2.2.2.1 ix1.2.2.2.2.1 ix1.2.2.2.2.2.1.length),eH rB 4 ix1.2.2.2.1 ix1.2.2.2.2.1 ix1.2.2.2.2.2.1,bx bT 33 b2 ix1.2.2.2.2.2.2.1,bx c9 32 b1 ix1.2.2.2.2.2.2.2,bx (rH ea [(1,aO (ix.h 0).1 (ix.h 0).2 r.rows.length),(2,aO (ix.h 1).1 (ix.h 1).2 r.width.length)]) 96 b r,dS c9 32 (ix.h 0).1 (ix.h 0).2 r.rows,dS bT 3 (ix.h 1).1 (ix.h 1).2 r.width]) (fun(ix1:Option Nat×Nat×List (List ac)×Option Nat×Nat×List Bool×Int×(List (List ac)))=>(ix1.2.2.1,ix1.2.2.2.2.2.1,ix1.2.2.2.2.2.2.1,ix1.2.2.2.2.2.2.2)) (fun _=> .ret) J (ht J) (none,0,Bw,(i.h 0).1,(i.h 0).2,mk,(0:Int),[]) J q_r1 (fun _=>J) J (fun ix1 x r2 h lp rec1 _ _ _=>?_) (fun i1 j hi bd=>⟨fun hj=>?_,fun _ hj=>?_⟩)
  ·obtain⟨l,c,xs,l1,c1,xs1,x1,x2⟩:=ix1
   replace h:gL n x xs xs1 x1 x2=some r2:=h
   refine(show CG _ _ _ [q7 lp rec1 .ready none,bx rV 32 b4 (aO l c xs.length),eH cV 43 l c xs,bx rV 143 b3 (aO l1 c1 xs1.length),eH rB 4 l1 c1 xs1,bx bT 33 b2 x1,bx c9 32 b1 x2,bx (rH ea [(1,aO (ix.h 0).1 (ix.h 0).2 r.rows.length),(2,aO (ix.h 1).1 (ix.h 1).2 r.width.length)]) 96 b r,dS c9 32 (ix.h 0).1 (ix.h 0).2 r.rows,dS bT 3 (ix.h 1).1 (ix.h 1).2 r.width] _ from ?_);refine FF (G' :=[(0,tV (aP b 0)),(1,tD aI n),(3,bM aI n),(4,tV (aP b1 0)),(5,tV (aP b2 0)),(6,bZ (cV) e),(7,bZ (cV) e1),(8,tV (aP b3 0)),(9,tV (aP b4 0)),(16,tV (aP b 0)),(17,tV (aP b 0)),(18,tV (aP b 1)),(19,tO c9 (ix.h 0).1 (ix.h 0).2 r.rows),(20,bM bT n.A),(21,bI n.A),(22,bM c9 e),(23,bZ (cV) e),(24,tV (aP b 0)),(25,tV (aP b 0)),(26,tV (aP b 1)),(27,tO c9 (ix.h 0).1 (ix.h 0).2 r.rows),(28,bM bT n.B),(29,bI n.B),(30,bM c9 e1),(31,bZ (cV) e1),(32,bZ (cV) e),(33,jr e),(34,bZ (cV) e1),(35,jr e1),(36,bI (IntKind.i64.wrap ((e.length:Int)*(e1.length:Int)))),(37,iz (decide ((40000:Int)<(IntKind.i64.wrap ((e.length:Int)*(e1.length:Int)))))),(38,bZ (cV) e),(39,jr e),(41,bZ (cV) e),(42,bZ (cV) e1),(44,bI x.1),(45,bZ (af) x.2)]) ?_ ⟨J,J,J,J,J,J,J,J,J,J,J,J,J,J,J,J,J,J,J,J,J,J,J,J,J,J,J,J,J,J,J,J,J,J,J,J,J,aS⟩;refine aw<|bo J<|au<|aq<|bo J<|aQ<|Hs<|aA<|aw<|zo J (de uB nS J J)<|zo J (bC kG J J)<|aF J<|bB h fun r3 q_r3 h=>zo J (aE WG (Ox _ _ q_r3) ⟨(ht J),(ht J),aS⟩)<|aF J<|zo J (gV J J)<|zo J (gV J J)<|bo J<|bo J<|au ?_;refine ah<|aw<|aF J<|zo J (uL J)<|au<|dd h J (fun h=>?_) (fun h=>?_)
   ·refine aw<|aF J<|yu<|ax fN J an J (ht J) jO<|yu<|ax LM J an J (ht J) (ht J)<|au<|am ?_;refine ae (aD ?_);refine ei<|ei<|ei<|fe<|fe<|ei<|ei<|ei<|ei<|ei ?_;cases so h;exact Bq 0 J (l,c,xs,l1,c1,xs1,r3.2,[]) J J
   ·refine dU<|aw<|aF J<|au<|dd h J (fun h=>?_) (fun h=>?_)
    ·refine aw<|zo J (gR Nx (.tail _ (.tail _ (.tail _ (.head _)))) (ht J))<|aF J<|bB h fun e2 q_e2 h=>zo J (cw Tryz.underlying143 Jq (.tail _ (.tail _ (.tail _ (.tail _ (.head _))))) (ht J) (ht J) q_e2)<|yw<|bB h fun st q_st h=>sw Jq J an J q_e2 (so q_st) (ht J) hB<|iy (mq (so q_st)) 57 J<|Fp (O' :=[eH rB 4 l1 c1 st,q7 lp rec1 .busy none,bx rV 32 b4 (aO l c xs.length),eH cV 43 l c xs,bx rV 143 b3 (aO l1 c1 st.length),bx bT 33 b2 x1,bx c9 32 b1 x2,bx (rH ea [(1,aO (ix.h 0).1 (ix.h 0).2 r.rows.length),(2,aO (ix.h 1).1 (ix.h 1).2 r.width.length)]) 96 b r,dS c9 32 (ix.h 0).1 (ix.h 0).2 r.rows,dS bT 3 (ix.h 1).1 (ix.h 1).2 r.width]) (by rw [mq (so q_st)])<|au<|aq<|zo J (gR fN (.tail _ (.tail _ (.head _))) (ht J))<|aF J<|zo J (aU (r:=cV) (ys:=[x.2]) (xs:=[.tmp 61]) ja dL J J J J J ⟨(ht J),aS⟩)<|ov<|bB h fun l2 q_l2 h=>cO dL J J J J ja J J (ht J) (ht J) q_l2 fun l3 c2=>ov<|ax fN J an J (ht J) (PE (ht J))<|aQ<|ap ?_;refine ei<|ei<|ei<|ei<|ei<|Qq<|ei<|Hq<|Hq<|ei ?_;cases so h;exact wh (l3,c2,l2,l1,c1,st,x1,x2) J J
    ·refine bA<|ap ?_;cases so h;exact wh (l,c,xs,l1,c1,xs1,x1,x2) J J
  ·skip
   obtain⟨l4,c3,xs2,l5,c4,xs3,x3,x4⟩:=i1
   obtain rfl:xs2=r1.1.2.1:=congrArg (fun q:List (List ac)×List Bool×Int×(List (List ac))=>q.1) hi
   obtain rfl:xs3=r1.1.2.2.1:=congrArg (fun q:List (List ac)×List Bool×Int×(List (List ac))=>q.2.1) hi
   obtain rfl:x3=r1.1.2.2.2.1:=congrArg (fun q:List (List ac)×List Bool×Int×(List (List ac))=>q.2.2.1) hi
   obtain rfl:x4=r1.1.2.2.2.2:=congrArg (fun q:List (List ac)×List Bool×Int×(List (List ac))=>q.2.2.2) hi
   have h:=ct h (by rw [hj];rfl);refine(show AT _ _ _ [Ba bd,bx rV 32 b4 (aO l4 c3 r1.1.2.1.length),eH cV 43 l4 c3 r1.1.2.1,bx rV 143 b3 (aO l5 c4 r1.1.2.2.1.length),eH rB 4 l5 c4 r1.1.2.2.1,bx bT 33 b2 r1.1.2.2.2.1,bx c9 32 b1 r1.1.2.2.2.2,bx (rH ea [(1,aO (ix.h 0).1 (ix.h 0).2 r.rows.length),(2,aO (ix.h 1).1 (ix.h 1).2 r.width.length)]) 96 b r,dS c9 32 (ix.h 0).1 (ix.h 0).2 r.rows,dS bT 3 (ix.h 1).1 (ix.h 1).2 r.width] _ from ?_);refine cC (G' :=[(0,tV (aP b 0)),(1,tD aI n),(3,bM aI n),(4,tV (aP b1 0)),(5,tV (aP b2 0)),(6,bZ (cV) e),(7,bZ (cV) e1),(8,tV (aP b3 0)),(9,tV (aP b4 0)),(16,tV (aP b 0)),(17,tV (aP b 0)),(18,tV (aP b 1)),(19,tO c9 (ix.h 0).1 (ix.h 0).2 r.rows),(20,bM bT n.A),(21,bI n.A),(22,bM c9 e),(23,bZ (cV) e),(24,tV (aP b 0)),(25,tV (aP b 0)),(26,tV (aP b 1)),(27,tO c9 (ix.h 0).1 (ix.h 0).2 r.rows),(28,bM bT n.B),(29,bI n.B),(30,bM c9 e1),(31,bZ (cV) e1),(32,bZ (cV) e),(33,jr e),(34,bZ (cV) e1),(35,jr e1),(36,bI (IntKind.i64.wrap ((e.length:Int)*(e1.length:Int)))),(37,iz (decide ((40000:Int)<(IntKind.i64.wrap ((e.length:Int)*(e1.length:Int)))))),(38,bZ (cV) e),(39,jr e),(41,bZ (cV) e),(42,bZ (cV) e1)]) ?_ ⟨J,J,J,J,J,J,J,J,J,J,J,J,J,J,J,J,J,J,J,J,J,J,J,J,J,J,J,J,J,J,J,J,J,J,J,aS⟩;refine ap<|av<|ah<|aw<|aF rfl<|zo rfl (iJ ja rfl)<|zo rfl (bG hI)<|au<|aA<|bc (k:=64) J fun hN=>bJ<|yy<|yy<|yy<|pt<|Hi<|Hj<|Hj<|Hi<|Qg<|yy ?_;refine aT (jq (Z:=fun ls i2 out l6 c5=>(e.drop i2=ls)∧gK r n r1 ls i2 out=some R) (Of:=fun _ i2 out l6 c5=>[bx c9 32 b1 r1.1.2.2.2.2,bx bT 33 b2 r1.1.2.2.2.1,bx rV 143 b3 (aO l5 c4 r1.1.2.2.1.length),bx rV 32 b4 (aO l6 c5 out.length),eH cV 43 l6 c5 out,eH rB 4 l5 c4 r1.1.2.2.1,Ba bd,bx (rH ea [(1,aO (ix.h 0).1 (ix.h 0).2 r.rows.length),(2,aO (ix.h 1).1 (ix.h 1).2 r.width.length)]) 96 b r,dS c9 32 (ix.h 0).1 (ix.h 0).2 r.rows,dS bT 3 (ix.h 1).1 (ix.h 1).2 r.width]) (Gf:=fun _ i2 out l6 c5=>[(0,tV (aP b 0)),(3,bM aI n),(4,tV (aP b1 0)),(5,tV (aP b2 0)),(8,tV (aP b3 0)),(9,tV (aP b4 0)),(64,bZ (cV) e),(65,jr e),(66,bI (i2:Int))]) (fun i2 out l6 c5 h=>?_) (fun e3 tl ih i2 out l6 c5 h=>?_) e 0 r1.1.2.1 l4 c3 ⟨J,h⟩) (bt J)
   ·obtain⟨hx,h⟩:=h
    refine aB<|aw<|zo J (fL J J)<|au<|ah<|bz (ht J) (du hx)<|bu ?_;refine ai (ai (aN ?_));refine av<|aw<|zo rfl (gR fN (.tail _ (.tail _ (.tail _ (.head _)))) (ht rfl))<|yw<|ju<|gU 96 rfl<|bH<|ax fN rfl an rfl (ht rfl) (kT (ht rfl))<|fK<|ax LM rfl an rfl (ht rfl) hI<|au<|am<|bv<|bn 4 rfl<|bn 5 rfl<|be<|be<|be<|be<|cP<|cP<|cP ?_;refine cP<|Bp<|rl ?_;cases so h;exact d5 (ts:=[bZ (cV) out,bI 0]) (rvs:=[.cell 4 32,.cell 5 33]) J J ⟨br fN J J J,br LM J J J,aS⟩ oU J J
   ·obtain⟨hx,h⟩:=h
    refine aB<|aw<|zo J (fL J J)<|au<|ah<|bw (ht J) (dl hx)<|dU<|ah<|aA<|aw<|aF J<|zo J (ml ja dL J J J (cX hx))<|zo J (bC dL J J)<|bo J<|bo J<|au<|aw<|zo J (de MG EY J J) ?_;refine zo J (bC Jq J J)<|aF J<|bB h fun t q_t h=>dK J J (fun hg=>gR Nx (.tail _ (.tail _ (.head _))) (ht J))<|dK J J (fun hg=>dv J) ?_
    obtain⟨e4,h1t,h0t⟩:=og q_t
    have q_e4g:=fun hb=>(h1t hb).1
    refine dK J J (fun hg=>cw Tryz.underlying143 Jq (.tail _ (.tail _ (.tail _ (.tail _ (.tail _ (.head _)))))) (bP J hg) (bP J hg) (q_e4g hg))<|dK J J (fun hg=>fR (r:=rB) (i:=(i2:Int)) (foff:=0) Jq J J bR J (.tail _ (.tail _ (.tail _ (.tail _ (.tail _ (.head _)))))) (q_e4g hg) (bP J hg))<|dK J J (fun hg=>gg (bP J hg))<|zo J (ff (ht J) (fun hb=>(bP J hb)) (fun hb=>(h1t hb).2) h0t)<|au<|dd h J (fun h=>?_) (fun h=>?_)
    ·refine bB h fun e5 q_e5 h=>bB h fun mk1 q_mk1 h=>bB h fun r4 q_r4 h=>?_
     refine oc 14 [tc (qS l6 c5 out),tc (bZ (af) e3),tc (tV (aP b 0)),tc (tV (aP b 0)),tc (tV (aP b 2)),tc (tO bT (ix.h 1).1 (ix.h 1).2 r.width),tc (bM bT n.B),tc (bI n.B),tc (bM bT e5),tc (bI e5),([10],fun s=>tO af ((s.getD 0 oU).h 0).1 ((s.getD 0 oU).h 0).2 mk1),tc (bZ (cV) ([e3,mk1])),tc (bZ (af) r4),tc (bZ (cV) ([r4]))] [false,false,false,false,false,false,false,false,false,false,true,false,false,false] [fun _=>[bx c9 32 b1 r1.1.2.2.2.2,bx bT 33 b2 r1.1.2.2.2.1,bx rV 143 b3 (aO l5 c4 r1.1.2.2.1.length),bx rV 32 b4 (aO l6 c5 out.length),eH cV 43 l6 c5 out,eH rB 4 l5 c4 r1.1.2.2.1,Ba bd,bx (rH ea [(1,aO (ix.h 0).1 (ix.h 0).2 r.rows.length),(2,aO (ix.h 1).1 (ix.h 1).2 r.width.length)]) 96 b r,dS c9 32 (ix.h 0).1 (ix.h 0).2 r.rows,dS bT 3 (ix.h 1).1 (ix.h 1).2 r.width],fun sg=>[dS af 46 ((sg 10).h 0).1 ((sg 10).h 0).2 mk1,bx c9 32 b1 r1.1.2.2.2.2,bx bT 33 b2 r1.1.2.2.2.1,bx rV 143 b3 (aO l5 c4 r1.1.2.2.1.length),bx rV 32 b4 (aO l6 c5 out.length),eH cV 43 l6 c5 out,eH rB 4 l5 c4 r1.1.2.2.1,Ba bd,bx (rH ea [(1,aO (ix.h 0).1 (ix.h 0).2 r.rows.length),(2,aO (ix.h 1).1 (ix.h 1).2 r.width.length)]) 96 b r,dS c9 32 (ix.h 0).1 (ix.h 0).2 r.rows,dS bT 3 (ix.h 1).1 (ix.h 1).2 r.width]] J mixed J J J J J
      ⟨⟨[⟨9,fun _=>tV (aP b4 0),none⟩],_,0,1,J,⟨(fun _=>J),aS⟩,J,J,J,J,J,FM (fun sg=>ay J (gR fN (.tail _ (.tail _ (.tail _ (.head _)))) (ht J))) (zp (fun sg=>ay J (gR fN (.tail _ (.tail _ (.tail _ (.tail _ (.head _))))) (ht J))))⟩,
      ⟨⟨[⟨15,fun _=>tD cV e3,none⟩],_,0,1,J,⟨(fun _=>J),aS⟩,J,J,J,J,J,fun _ sg _ _=>ay J (dv J)⟩,
      ⟨⟨[⟨0,fun _=>tV (aP b 0),none⟩],_,0,0,J,⟨(fun _=>J),aS⟩,J,J,J,J,J,fun _ sg _ _=>ay J (dv J)⟩,
      ⟨⟨[⟨82,fun _=>tV (aP b 0),some 2⟩],_,0,0,J,⟨(fun _=>J),aS⟩,J,J,J,J,J,fun _ sg _ _=>ay J (dD (ht J))⟩,
      ⟨⟨[⟨83,fun _=>tV (aP b 0),some 3⟩],_,0,0,J,⟨(fun _=>J),aS⟩,J,J,J,J,J,fun _ sg _ _=>ay J (kp 2 MF J J J)⟩,
      ⟨⟨[⟨84,fun _=>tV (aP b 2),some 4⟩],_,0,0,J,⟨(fun _=>J),aS⟩,J,J,J,J,J,zp (fun sg=>ay J (dh d7 J (.tail _ (.tail _ (.tail _ (.tail _ (.tail _ (.tail _ (.tail _ (.head _)))))))) (.tail _ (.tail _ (.tail _ (.tail _ (.tail _ (.tail _ (.tail _ (.tail _ (.tail _ (.head _)))))))))) (ht J)))⟩,
      ⟨⟨[⟨3,fun _=>bM aI n,none⟩],_,0,0,J,⟨(fun _=>J),aS⟩,J,J,J,J,J,fun _ sg _ _=>ay J (de rt km J J)⟩,
      ⟨⟨[⟨86,fun _=>bM bT n.B,some 6⟩],_,0,0,J,⟨(fun _=>J),aS⟩,J,J,J,J,J,fun _ sg _ _=>ay J (bC cu J J)⟩,
      ⟨⟨[⟨85,fun _=>tO bT (ix.h 1).1 (ix.h 1).2 r.width,some 5⟩,⟨87,fun _=>tD bT n.B,some 7⟩],_,0,0,J,⟨(fun _=>J),(fun _=>J),aS⟩,J,J,J,J,J,fun _ sg _ _=>ay J (bp gF cu J (kT (ht J)) (ht J) q_e5)⟩,
      ⟨⟨[⟨88,fun _=>bM bT e5,some 8⟩],_,0,0,J,⟨(fun _=>J),aS⟩,J,J,J,J,J,fun _ sg _ _=>ay J (bC cu J J)⟩,
      ⟨⟨[⟨89,fun _=>tD bT e5,some 9⟩],_,J,⟨(fun _=>J),aS⟩,J,J,J,fun sg=>d8 J (PP (r:=af) (x:=hJ) aG J J J iX (fun _=>bh _) (ht J) (ht J) q_mk1)⟩,
      ⟨⟨[⟨81,fun _=>tD cV e3,some 1⟩,⟨90,fun sg=>tO af ((sg 10).h 0).1 ((sg 10).h 0).2 mk1,some 10⟩],_,1,1,J,⟨(fun _=>J),(fun _=>J),aS⟩,J,J,J,J,J,fun _ sg _ _=>ay J (aU (r:=cV) (ys:=[e3,mk1]) (xs:=[.tmp 81,.tmp 90]) ja dL J J J J J ⟨(ht J),(kT (ht J)),aS⟩)⟩,
      ⟨⟨[⟨91,fun _=>tD c9 ([e3,mk1]),some 11⟩],_,1,1,J,⟨(fun _=>J),aS⟩,J,J,J,J,J,fun _ sg _ _=>ay J (aE WF (Vu _ q_r4) ⟨(ht J),aS⟩)⟩,
      ⟨⟨[⟨92,fun _=>tD cV r4,some 12⟩],_,1,1,J,⟨(fun _=>J),aS⟩,J,J,J,J,J,fun _ sg _ _=>ay J (aU (r:=cV) (ys:=[r4]) (xs:=[.tmp 92]) ja dL J J J J J ⟨(ht J),aS⟩)⟩,
      aS⟩⟩⟩⟩⟩⟩⟩⟩⟩⟩⟩⟩⟩⟩ (fun sg=>?_)
     refine(show RG _ _ _ _ [dS af 46 ((sg 10).h 0).1 ((sg 10).h 0).2 mk1,bx c9 32 b1 r1.1.2.2.2.2,bx bT 33 b2 r1.1.2.2.2.1,bx rV 143 b3 (aO l5 c4 r1.1.2.2.1.length),bx rV 32 b4 (aO l6 c5 out.length),eH cV 43 l6 c5 out,eH rB 4 l5 c4 r1.1.2.2.1,Ba bd,bx (rH ea [(1,aO (ix.h 0).1 (ix.h 0).2 r.rows.length),(2,aO (ix.h 1).1 (ix.h 1).2 r.width.length)]) 96 b r,dS c9 32 (ix.h 0).1 (ix.h 0).2 r.rows,dS bT 3 (ix.h 1).1 (ix.h 1).2 r.width] _ from ?_);refine He<|bB h fun l7 q_l7 h=>cO dL J J J J ja J J (ht J) (ht J) q_l7 fun l8 c6=>He<|ax fN J an J (ht J) (PE (ht J))<|aQ<|ap<|av<|aq<|zo rfl (lZ (cL hx hN) rfl)<|aF rfl<|aQ<|aJ<|be<|ei<|ei<|ei<|ei<|ei<|vq<|vq<|ei<|ei<|ei ?_;exact bg (aT (ih (i2+1) l7 l8 c6 ⟨cK hx,h⟩) (bt J))
    ·refine bA<|ap<|av<|aq<|zo rfl (lZ (cL hx hN) rfl)<|aF rfl<|aQ ?_;exact bg (aT (ih (i2+1) out l6 c5 ⟨cK hx,h⟩) (bt J))
  ·skip
   obtain⟨l9,c7,xs4,l10,c8,xs5,x5,x6⟩:=i1
   obtain rfl:xs4=r1.1.2.1:=congrArg (fun q:List (List ac)×List Bool×Int×(List (List ac))=>q.1) hi
   obtain rfl:xs5=r1.1.2.2.1:=congrArg (fun q:List (List ac)×List Bool×Int×(List (List ac))=>q.2.1) hi
   obtain rfl:x5=r1.1.2.2.2.1:=congrArg (fun q:List (List ac)×List Bool×Int×(List (List ac))=>q.2.2.1) hi
   obtain rfl:x6=r1.1.2.2.2.2:=congrArg (fun q:List (List ac)×List Bool×Int×(List (List ac))=>q.2.2.2) hi
   have h:=cf h (by rw [hj];rfl);refine(show CG _ _ _ [Ba bd,bx rV 32 b4 (aO l9 c7 r1.1.2.1.length),eH cV 43 l9 c7 r1.1.2.1,bx rV 143 b3 (aO l10 c8 r1.1.2.2.1.length),eH rB 4 l10 c8 r1.1.2.2.1,bx bT 33 b2 r1.1.2.2.2.1,bx c9 32 b1 r1.1.2.2.2.2,bx (rH ea [(1,aO (ix.h 0).1 (ix.h 0).2 r.rows.length),(2,aO (ix.h 1).1 (ix.h 1).2 r.width.length)]) 96 b r,dS c9 32 (ix.h 0).1 (ix.h 0).2 r.rows,dS bT 3 (ix.h 1).1 (ix.h 1).2 r.width] _ from ?_);refine FF (G' :=[(0,tV (aP b 0)),(1,tD aI n),(3,bM aI n),(4,tV (aP b1 0)),(5,tV (aP b2 0)),(6,bZ (cV) e),(7,bZ (cV) e1),(8,tV (aP b3 0)),(9,tV (aP b4 0)),(16,tV (aP b 0)),(17,tV (aP b 0)),(18,tV (aP b 1)),(19,tO c9 (ix.h 0).1 (ix.h 0).2 r.rows),(20,bM bT n.A),(21,bI n.A),(22,bM c9 e),(23,bZ (cV) e),(24,tV (aP b 0)),(25,tV (aP b 0)),(26,tV (aP b 1)),(27,tO c9 (ix.h 0).1 (ix.h 0).2 r.rows),(28,bM bT n.B),(29,bI n.B),(30,bM c9 e1),(31,bZ (cV) e1),(32,bZ (cV) e),(33,jr e),(34,bZ (cV) e1),(35,jr e1),(36,bI (IntKind.i64.wrap ((e.length:Int)*(e1.length:Int)))),(37,iz (decide ((40000:Int)<(IntKind.i64.wrap ((e.length:Int)*(e1.length:Int)))))),(38,bZ (cV) e),(39,jr e),(41,bZ (cV) e),(42,bZ (cV) e1)]) ?_ ⟨J,J,J,J,J,J,J,J,J,J,J,J,J,J,J,J,J,J,J,J,J,J,J,J,J,J,J,J,J,J,J,J,J,J,J,aS⟩;refine am ?_;refine aD (ae ?_);refine vq<|bn 4 J<|Hr<|bn 5 J<|bv<|be<|bv<|be<|bv<|be<|bv<|be<|cP<|cP<|cP<|cP<|Bp<|rl ?_;cases so h;exact d5 (ts:=[bZ (cV) r1.1.2.2.2.2,bI r1.1.2.2.2.1]) (rvs:=[.cell 4 32,.cell 5 33]) J J ⟨br fN J J J,br LM J J J,aS⟩ oU J J

end Go.Proofs.YtfhhakidodmdfaaGreatDoor

