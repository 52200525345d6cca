/- da of this claim: P7. -/
import Derived.Test.YtfhhakidodmdfaaGreatDoorJdT
import Derived.Test.YtfhhakidodmdfaaGreatDoorJdP6
set_option linter.all false
namespace Go.Proofs.YtfhhakidodmdfaaGreatDoor
open Go
set_option maxRecDepth 100000

theorem UT(e:bL)(do1:(bo→(List ac)→Option (ac×Int))){R:ac×Int}(h:iB e do1=some R):aU aO 184 [tD cB e,(dK aO S4 sx (fun(x:bo×(List ac))=>do1 x.1 x.2))] (tT [tD af R.1,bH R.2]):=by
 refine aU.of Tryz.func184 J J J fun w0 S0=>au<|zo J (jw J)<|bc (r:=af) (x:=hX) aH (fun _=>bf _) J fun b=>zo J (cq)<|aq<|KY<|au<|bN false af 46<|bc (x:=aS none 0 0) Hm (fun _=>Ee) J fun b1=>aq<|au<|bc (r:=af) (x:=hX) aH (fun _=>bf _) J fun b2=>aZ 7 J<|aq<|au<|zo J (JE (cts:=[tV (aP b1 0)]) (caps:=[.tmp 6]) ⟨(ht J),aR⟩) ?_;refine bm J<|aq<|au<|zo J (cq)<|aq<|ah<|KZ<|av<|ah<|au<|zo rfl (cY rq nU rfl rfl)<|zo rfl (bB CT rfl rfl)<|zo rfl (iw z8 rfl)<|zo rfl (bJ hI)<|aq ?_;refine G6 (Z:=fun bad stack l c=>gu bad stack=some R) (Of:=fun bad stack l c=>[bx af 46 b hX,bx rV 42 b1 (aS l c stack.length),fq af 46 l c stack]) (Gf:=fun bad stack l c=>[(4,tV (aP b 0)),(6,tV (aP b1 0)),(7,bK af hX),(9,bH bad)]) (fun bad stack l c h=>?_) (fun K=>?_)
 ·skip
  refine av<|ah<|au<|aF rfl<|zo rfl (tE rfl)<|aq<|cU h rfl (fun h=>?_) (fun h=>?_)
  ·refine au<|zo J (bB aH J J)<|aF J<|ax aH J an J (ht J) (ht J)<|bm J<|aq<|ak ?_;refine ae (yl ?_);refine bn 4 J<|bk<|bk ?_;cases so h;exact bS J J ⟨br aH J J J,aX J,aR⟩
  ·refine dR<|au<|zo J (gU Hm (.tail _ (.head _)) (ht J))<|bv h fun e1 q_e1 h=>zo J (ca j3 aH (.tail _ (.tail _ (.head _))) (ht J) hI q_e1)<|zo J (fM (r:=af) (i:=(0:Int)) (foff:=0) aH J J bQ J (.tail _ (.tail _ (.head _))) q_e1 (ht J))<|ax aH J an J (ht J) (ht J)<|zo J (cq)<|aq<|ak<|yl<|bn 4 J<|bk<|bk ?_;cases so h;exact bS J J ⟨br aH J J J,aX J,aR⟩
 ·skip
  refine ba (k:=16) J fun hN=>bG<|iF<|iF<|qA ?_;refine aT (tp (Z:=fun ls i bad1 stack1 l1 c1=>(e.Nodes.drop i=ls)∧dI do1 ls bad1 stack1=some R) (Of:=fun _ i bad1 stack1 l1 c1=>[bx af 46 b hX,bx rV 42 b1 (aS l1 c1 stack1.length),fq af 46 l1 c1 stack1]) (Gf:=fun _ i bad1 stack1 l1 c1=>[(1,(dK aO S4 sx (fun(x:bo×(List ac))=>do1 x.1 x.2))),(4,tV (aP b 0)),(6,tV (aP b1 0)),(7,bK af hX),(8,tC 275 [tV (aP b1 0)]),(9,bH bad1),(16,bR (bP) e.Nodes),(17,kg e.Nodes),(18,bH (i:Int))]) (fun i bad1 stack1 l1 c1 h=>?_) (fun e2 tl ih i bad1 stack1 l1 c1 h=>?_) e.Nodes 0 (0:Int) Hf none 0 ⟨J,h⟩) (bt J)
  ·obtain⟨hx,h⟩:=h
   refine aC<|au<|zo J (fG J J)<|aq<|ah<|bA (ht J) (dC hx)<|bu ?_;refine ai (ai (aN ?_));exact cM (K bad1 stack1 l1 c1 h) (bt J)
  ·obtain⟨hx,h⟩:=h
   refine aC<|au<|zo J (fG J J)<|aq<|ah<|bz (ht J) (du hx)<|dR<|ah<|ay<|au<|zo J (lq z8 qP J J J (cW hx))<|zo J (bB qP J J)<|bc (r:=bP) (x:=SY) qP (fun _=>wM _) J fun b3=>ax qP J an J (ht J) (ht J)<|aZ 11 J<|aq<|ah<|bv h fun r q_r h=>bv h fun r1 q_r1 h=>?_
   obtain⟨r2,q_r2,h⟩:=bs h
   refine SM 13 [tc ((dK aO S4 sx (fun(x:bo×(List ac))=>do1 x.1 x.2))),tc (tD bP e2),tc (tC 275 [tV (aP b1 0)]),tc (bK bY e2.Tag),tc (bH e2.Tag),tc (bH r),tc (bR (af) r1.1),tc (tT [tD af r2.1,bH r2.2]),tc (tT [tD af r2.1,bH r2.2]),tc (tD af r2.1),tc (bH r2.2),([11],fun s=>tV (aP ((s.getD 0 pm).h 0).2 0)),tc (CU)] [false,false,false,false,false,false,true,false,false,false,false,true,true] [([],fun _=>[bx af 46 b hX,bx rV 42 b1 (aS l1 c1 stack1.length),fq af 46 l1 c1 stack1]),([6],fun sg=>[bx rV 42 b1 (aS ((sg 6).h 0).1 ((sg 6).h 0).2 r1.2.length),fq af 46 ((sg 6).h 0).1 ((sg 6).h 0).2 r1.2,bx af 46 b hX]),([11],fun sg=>[bx af 46 ((sg 11).h 0).2 hX,bx af 46 b hX,bx rV 42 b1 (aS l1 c1 stack1.length),fq af 46 l1 c1 stack1]),([6,11],fun sg=>[bx af 46 ((sg 11).h 0).2 hX,bx rV 42 b1 (aS ((sg 6).h 0).1 ((sg 6).h 0).2 r1.2.length),fq af 46 ((sg 6).h 0).1 ((sg 6).h 0).2 r1.2,bx af 46 b hX]),([6,11,12],fun sg=>[bx af 46 ((sg 11).h 0).2 r2.1,bx rV 42 b1 (aS ((sg 6).h 0).1 ((sg 6).h 0).2 r1.2.length),fq af 46 ((sg 6).h 0).1 ((sg 6).h 0).2 r1.2,bx af 46 b hX])] (fun _=>J) mixed J J J J
    ⟨⟨[⟨1,fun _=>(dK aO SZ CR (fun(x:bo×(List ac))=>do1 x.1 x.2)),none⟩],_,[[],[6],[11],[6,11]],J,⟨(fun _=>J),aR⟩,J,J,J,J,J,⟨fun sg=>aB J (cD J),fun sg=>aB J (cD J),fun sg=>aB J (cD J),fun sg=>aB J (cD J),aR⟩⟩,
    ⟨⟨[⟨11,fun _=>bK bP e2,none⟩],_,[[],[6],[11],[6,11]],J,⟨(fun _=>J),aR⟩,J,J,J,J,J,⟨fun sg=>aB J (bB qP J J),fun sg=>aB J (bB qP J J),fun sg=>aB J (bB qP J J),fun sg=>aB J (bB qP J J),aR⟩⟩,
    ⟨⟨[⟨8,fun _=>tC 275 [tV (aP b1 0)],none⟩],_,[[],[11]],J,⟨(fun _=>J),aR⟩,J,J,J,J,J,⟨fun sg=>aB J (cD J),fun sg=>aB J (cD J),aR⟩⟩,
    ⟨⟨[⟨11,fun _=>bK bP e2,none⟩],_,[[],[11]],J,⟨(fun _=>J),aR⟩,J,J,J,J,J,⟨fun sg=>aB J (cY pM iu J J),fun sg=>aB J (cY pM iu J J),aR⟩⟩,
    ⟨⟨[⟨26,fun _=>bK bY e2.Tag,some 3⟩],_,[[],[11]],J,⟨(fun _=>J),aR⟩,J,J,J,J,J,⟨fun sg=>aB J (bB cv J J),fun sg=>aB J (bB cv J J),aR⟩⟩,
    ⟨⟨[⟨27,fun _=>tD bY e2.Tag,some 4⟩],_,[[],[11]],J,⟨(fun _=>J),aR⟩,J,J,J,J,J,⟨fun sg=>aB J (aA OA (Dh _ q_r) ⟨(ht J),aR⟩),fun sg=>aB J (aA OA (Dh _ q_r) ⟨(ht J),aR⟩),aR⟩⟩,
    ⟨⟨[⟨25,fun _=>tC 275 [tV (aP b1 0)],some 2⟩,⟨28,fun _=>tD bY r,some 5⟩],_,[([],[6]),([11],[6,11])],J,⟨(fun _=>J),(fun _=>J),aR⟩,J,J,J,J,J,⟨fun sg=>eI J (EffOK.fr2 (EffOK.fr2 (BS (xs:=[.tmp 28]) (ts:=[tD bY r]) (cts:=[tV (aP b1 0)]) [bx rV 42 b1 (aS l1 c1 stack1.length),fq af 46 l1 c1 stack1] _ J Wi (RJ b1 l1 c1 _ _ q_r1) (ht J) ⟨(ht J),aR⟩ (fun _=>J)))),fun sg=>eI J (EffOK.post_imp (post:=fun x__=>(fun(sg:Nat→OI)=>[bx rV 42 b1 (aS ((sg 6).h 0).1 ((sg 6).h 0).2 r1.2.length),fq af 46 ((sg 6).h 0).1 ((sg 6).h 0).2 r1.2,bx af 46 ((sg 11).h 0).2 hX,bx af 46 b hX]) (Lo sg 6 x__)) (EffOK.fr3 (EffOK.fr3 (BS (xs:=[.tmp 28]) (ts:=[tD bY r]) (cts:=[tV (aP b1 0)]) [bx rV 42 b1 (aS l1 c1 stack1.length),fq af 46 l1 c1 stack1] _ J Wi (RJ b1 l1 c1 _ _ q_r1) (ht J) ⟨(ht J),aR⟩ (fun _=>J)))) (fun h=>cL.pick [2,0,1,3] J h)),aR⟩⟩,
    ⟨⟨[⟨23,fun _=>(dK aO SZ CR (fun(x:bo×(List ac))=>do1 x.1 x.2)),some 0⟩,⟨24,fun _=>tD bP e2,some 1⟩,⟨29,fun _=>tD cK r1.1,some 6⟩],_,[[6],[6,11]],J,⟨(fun _=>J),(fun _=>J),(fun _=>J),aR⟩,J,J,J,J,J,⟨fun sg=>aB J (fN (args:=SZ) (res:=CR) (f:=(fun(x:bo×(List ac))=>do1 x.1 x.2)) (x:=((e2,r1.1):bo×(List ac))) (ht J) q_r2 ⟨(ht J),(ht J),aR⟩),fun sg=>aB J (fN (args:=SZ) (res:=CR) (f:=(fun(x:bo×(List ac))=>do1 x.1 x.2)) (x:=((e2,r1.1):bo×(List ac))) (ht J) q_r2 ⟨(ht J),(ht J),aR⟩),aR⟩⟩,
    ⟨⟨[⟨30,fun _=>tT [tD af r2.1,tD bY r2.2],some 7⟩],_,[[6],[6,11]],J,⟨(fun _=>J),aR⟩,J,J,J,J,J,⟨fun sg=>aB J (cD J),fun sg=>aB J (cD J),aR⟩⟩,
    ⟨⟨[⟨22,fun _=>tT [tD af r2.1,tD bY r2.2],some 8⟩],_,[[6],[6,11]],J,⟨(fun _=>J),aR⟩,J,J,J,J,J,⟨fun sg=>aB J (hZ J J),fun sg=>aB J (hZ J J),aR⟩⟩,
    ⟨⟨[⟨22,fun _=>tT [tD af r2.1,tD bY r2.2],some 8⟩],_,[[6],[6,11],[6,11,12]],J,⟨(fun _=>J),aR⟩,J,J,J,J,J,⟨fun sg=>aB J (hZ J J),fun sg=>aB J (hZ J J),fun sg=>aB J (hZ J J),aR⟩⟩,
    ⟨⟨[],_,[([],[11]),([6],[6,11])],J,aR,J,J,J,J,J,⟨fun sg=>eI J (xZ (r:=af) (x:=hX) aH (fun _=>bf _)),fun sg=>eI J (xZ (r:=af) (x:=hX) aH (fun _=>bf _)),aR⟩⟩,
    ⟨⟨[⟨12,fun sg=>tV (aP ((sg 11).h 0).2 0),some 11⟩,⟨31,fun _=>tD af r2.1,some 9⟩],_,[([6,11],[6,11,12])],J,⟨(fun _=>J),(fun _=>J),aR⟩,J,J,J,J,J,⟨fun sg=>eI J (nI aH J (zj an) J (ht J) (ht J)),aR⟩⟩,
    aR⟩⟩⟩⟩⟩⟩⟩⟩⟩⟩⟩⟩⟩ (fun sg=>?_)
   refine(show RG _ _ _ _ [bx af 46 ((sg 11).h 0).2 r2.1,bx rV 42 b1 (aS ((sg 6).h 0).1 ((sg 6).h 0).2 r1.2.length),fq af 46 ((sg 6).h 0).1 ((sg 6).h 0).2 r1.2,bx af 46 b hX] _ from ?_);refine aZ 12 J<|bm J<|aq<|ah<|au<|aF J<|zo J (tE J)<|aq<|cU h J (fun h=>?_) (fun h=>?_)
   ·refine au<|aF J<|bm J<|aq<|bu ?_;refine ai (ck J (ai (ai (aN ?_))));refine bE<|bE<|aK ?_;exact cM (K r2.2 r1.2 ((sg 6).h 0).1 ((sg 6).h 0).2 h) (bt J)
   ·refine dR<|aw<|zo J (gU Hm (.head _) (ht J))<|zo J (bB aH J J)<|zo J (aV (r:=af) (ys:=[r2.1]) (xs:=[.tmp 37]) j3 aH J J J J J ⟨(ht J),aR⟩)<|bI<|bv h fun l2 q_l2 h=>cT aH J J J J j3 J J (ht J) (ht J) q_l2 fun l3 c2=>bI<|ax Hm J an J (ht J) (Rh (ht J))<|aQ<|ap<|av<|aw<|zo rfl (mI (cQ hx hN) rfl)<|aF rfl<|aQ<|bE<|bE<|aK ?_;exact bg (aT (ih (i+1) bad1 l2 l3 c2 ⟨cP hx,h⟩) (bt J))

theorem US(r:(List ac))(do1:(List (Int×(ac→ac→Option (ac×Int)))))(n:bo)(l:(List ac)){R:ac×Int}(h:iI r do1 n l=some R):aU aO 185 [tD bP n,bR (af) l,bK cK r,bK (rT (Nm (fun y:(ac→ac→Option (ac×Int))=>yx aO pX sx (fun(x:ac×ac)=>y x.1 x.2)) nh do1)) ()] (tT [tD af R.1,bH R.2]):=by
 refine aU.of Tryz.func185 J J J fun w0 S0=>au<|zo J (jw J)<|bc (r:=af) (x:=hX) aH (fun _=>bf _) J fun b=>zo J (cq)<|aq<|ah<|au<|zo J (cY pM iu J J)<|zo J (bB cv J J)<|aq<|ay<|au<|zo J (lU J)<|bm J<|aq<|cU h J (fun h=>?_) (fun h=>?_)
 ·refine au<|zo J (cY EK sZ J J)<|zo J (bB aH J J)<|ax aH J an J (ht J) (ht J)<|zo J (cq)<|aq<|ak ?_;refine aD (ae ?_);refine bn 6 J ?_;cases so h;exact bS J J ⟨br aH J J J,aX J,aR⟩
 ·refine au<|zo J (lU J)<|bm J<|aq<|cU h J (fun h=>?_) (fun h=>?_)
  ·refine au<|zo J (bB cO J J)<|zo J (cY zB oW J J)<|zo J (bB cv J J)<|bv h fun e q_e h=>zo J (lq gc aH J J J q_e)<|zo J (bB aH J J)<|ax aH J an J (ht J) (ht J)<|zo J (cq)<|aq<|ak ?_;refine aD (ae ?_);refine bn 6 J ?_;cases so h;exact bS J J ⟨br aH J J J,aX J,aR⟩
  ·refine bw<|ap<|av<|ah<|bv h fun e1 q_e1 h=>bv h fun e2 q_e2 h=>bv h fun r1 q_r1 h=>?_
   refine oA 19 [tc (Nm (fun y:(ac→ac→Option (ac×Int))=>yx aO pX sx (fun(x:ac×ac)=>y x.1 x.2)) nh do1),tc (bK bY n.Tag),tc (bH n.Tag),tc (yx aO pX sx (fun(x:ac×ac)=>((oR do1 n.Tag).getD (fun _ _=>none)) x.1 x.2)),tc (bR (af) l),tc (bK af e1),tc (tD af e1),tc (bR (af) l),tc (bR (af) l),tc (kg l),tc (bH (IntKind.i64.wrap ((l.length:Int)-(1:Int)))),tc (bK af e2),tc (tD af e2),tc (tT [tD af r1.1,bH r1.2]),tc (tT [tD af r1.1,bH r1.2]),tc (tD af r1.1),tc (bH r1.2),([17],fun s=>tV (aP ((s.getD 0 pm).h 0).2 0)),tc (CU)] [false,false,false,false,false,false,false,false,false,false,false,false,false,false,false,false,false,true,true] [fun _=>[bx af 46 b hX],fun sg=>[bx af 46 ((sg 17).h 0).2 hX,bx af 46 b hX],fun sg=>[bx af 46 ((sg 17).h 0).2 r1.1,bx af 46 b hX]] J mixed J J J J J
    ⟨⟨[⟨3,fun _=>bK (rT (Nm (fun y:(ac→ac→Option (ac×Int))=>yx aO pX CR (fun(x:ac×ac)=>y x.1 x.2)) nh do1)) (),none⟩],_,0,1,J,⟨(fun _=>J),aR⟩,J,J,J,J,J,fun _ sg _ _=>aB J (uX Qv (ht J))⟩,
    ⟨⟨[⟨4,fun _=>bK bP n,none⟩],_,0,1,J,⟨(fun _=>J),aR⟩,J,J,J,J,J,fun _ sg _ _=>aB J (cY pM iu J J)⟩,
    ⟨⟨[⟨25,fun _=>bK bY n.Tag,some 1⟩],_,0,1,J,⟨(fun _=>J),aR⟩,J,J,J,J,J,fun _ sg _ _=>aB J (bB cv J J)⟩,
    ⟨⟨[⟨24,fun _=>Nm (fun y:(ac→ac→Option (ac×Int))=>yx aO pX CR (fun(x:ac×ac)=>y x.1 x.2)) nh do1,some 0⟩,⟨26,fun _=>tD bY n.Tag,some 2⟩],_,0,1,J,⟨(fun _=>J),(fun _=>J),aR⟩,J,J,J,J,J,fun _ sg _ _=>aB J (JG (γ:=(fun y:(ac→ac→Option (ac×Int))=>yx aO pX CR (fun(x:ac×ac)=>y x.1 x.2))) (z:=(fun _ _=>none)) wD (ee kM) Yz (fun _=>S9) (ht J) (nE (ht J)))⟩,
    ⟨⟨[⟨1,fun _=>tD cK l,none⟩],_,0,1,J,⟨(fun _=>J),aR⟩,J,J,J,J,J,fun _ sg _ _=>aB J (cD J)⟩,
    ⟨⟨[⟨28,fun _=>tD cK l,some 4⟩],_,0,1,J,⟨(fun _=>J),aR⟩,J,J,J,J,J,fun _ sg _ _=>aB J (bp j3 aH J (ht J) hI q_e1)⟩,
    ⟨⟨[⟨29,fun _=>bK af e1,some 5⟩],_,0,1,J,⟨(fun _=>J),aR⟩,J,J,J,J,J,fun _ sg _ _=>aB J (bB aH J J)⟩,
    ⟨⟨[⟨1,fun _=>tD cK l,none⟩],_,0,1,J,⟨(fun _=>J),aR⟩,J,J,J,J,J,fun _ sg _ _=>aB J (cD J)⟩,
    ⟨⟨[⟨1,fun _=>tD cK l,none⟩],_,0,1,J,⟨(fun _=>J),aR⟩,J,J,J,J,J,fun _ sg _ _=>aB J (cD J)⟩,
    ⟨⟨[⟨32,fun _=>tD cK l,some 8⟩],_,0,1,J,⟨(fun _=>J),aR⟩,J,J,J,J,J,fun _ sg _ _=>aB J (iw j3 J)⟩,
    ⟨⟨[⟨33,fun _=>tD bY (l.length:Int),some 9⟩],_,0,1,J,⟨(fun _=>J),aR⟩,J,J,J,J,J,fun _ sg _ _=>aB J (gK (ht J) hI)⟩,
    ⟨⟨[⟨31,fun _=>tD cK l,some 7⟩,⟨34,fun _=>tD bY (IntKind.i64.wrap ((l.length:Int)-(1:Int))),some 10⟩],_,0,1,J,⟨(fun _=>J),(fun _=>J),aR⟩,J,J,J,J,J,fun _ sg _ _=>aB J (lq j3 aH J J J q_e2)⟩,
    ⟨⟨[⟨35,fun _=>bK af e2,some 11⟩],_,0,1,J,⟨(fun _=>J),aR⟩,J,J,J,J,J,fun _ sg _ _=>aB J (bB aH J J)⟩,
    ⟨⟨[⟨27,fun _=>yx aO pX CR (fun(x:ac×ac)=>((oR do1 n.Tag).getD (fun _ _=>none)) x.1 x.2),some 3⟩,⟨30,fun _=>tD af e1,some 6⟩,⟨36,fun _=>tD af e2,some 12⟩],_,0,1,J,⟨(fun _=>J),(fun _=>J),(fun _=>J),aR⟩,J,J,J,J,J,fun _ sg _ _=>aB J (Pj (args:=pX) (res:=CR) (f:=(fun(x:ac×ac)=>((oR do1 n.Tag).getD (fun _ _=>none)) x.1 x.2)) (x:=((e1,e2):ac×ac)) (ht J) q_r1 ⟨(ht J),(ht J),aR⟩)⟩,
    ⟨⟨[⟨37,fun _=>tT [tD af r1.1,tD bY r1.2],some 13⟩],_,0,1,J,⟨(fun _=>J),aR⟩,J,J,J,J,J,fun _ sg _ _=>aB J (cD J)⟩,
    ⟨⟨[⟨23,fun _=>tT [tD af r1.1,tD bY r1.2],some 14⟩],_,0,1,J,⟨(fun _=>J),aR⟩,J,J,J,J,J,fun _ sg _ _=>aB J (hZ J J)⟩,
    ⟨⟨[⟨23,fun _=>tT [tD af r1.1,tD bY r1.2],some 14⟩],_,0,2,J,⟨(fun _=>J),aR⟩,J,J,J,J,J,fun _ sg _ _=>aB J (hZ J J)⟩,
    ⟨⟨[],_,J,aR,J,J,J,fun sg=>eI J (xZ (r:=af) (x:=hX) aH (fun _=>bf _))⟩,
    ⟨⟨[⟨8,fun sg=>tV (aP ((sg 17).h 0).2 0),some 17⟩,⟨38,fun _=>tD af r1.1,some 15⟩],_,J,⟨(fun _=>J),(fun _=>J),aR⟩,J,J,J,fun sg=>eI J (nI aH J (zj an) J (ht J) (ht J))⟩,
    aR⟩⟩⟩⟩⟩⟩⟩⟩⟩⟩⟩⟩⟩⟩⟩⟩⟩⟩⟩ (fun sg=>?_)
   refine(show RG _ _ _ _ [bx af 46 ((sg 17).h 0).2 r1.1,bx af 46 b hX] _ from ?_);refine aZ 8 J<|bm J<|aq ?_;refine ke (Z:=fun no=>pO r1 no=some R) (Of:=fun no=>[bx af 46 b hX]) (Gf:=fun no=>[(6,tV (aP b 0)),(8,bK af r1.1),(9,bH no)]) (fun no h=>?_) (fun K=>?_)
   ·skip
    refine au<|zo J (bB aH J J)<|aF J<|ax aH J an J (ht J) (ht J)<|bm J<|aq<|ak<|bn 6 J ?_;cases so h;exact bS J J ⟨br aH J J J,aX J,aR⟩
   ·skip
    refine au<|aF J<|zo J (tE J)<|aF J<|cR J J (fun hg=>cD J)<|cR J J (fun hg=>eZ (bD J hg) hI)<|zo J (rE J J)<|aq<|cU h J (fun h=>?_) (fun h=>?_)
    ·refine aw<|zo J (cq)<|aQ ?_;exact cM (K (201:Int) h) (bt J)
    ·refine bw ?_;exact cM (K r1.2 h) (bt J)

theorem Ik(e:bL)(r:(List ac)){R:ac×Int}(h:sn e r=some R):aU aO 107 [tD cB e,bR (af) r] (tT [tD af R.1,bH R.2]):=by
 refine aU.of Tryz.func107 J J J fun w0 S0=>au<|zo J (jw J)<|zo J (jw J)<|bc (r:=af) (x:=hX) aH (fun _=>bf _) J fun b=>zo J (cq)<|aq<|ah<|au<|zo J (bB mJ J J)<|bv h fun r1 q_r1 h=>zo J (aA Yn (MB _ q_r1) ⟨(ht J),aR⟩)<|bm J<|aq<|au<|aF J<|zo J (tE J)<|aq ?_;refine cU h J (fun h=>?_) (fun h=>?_)
 ·refine au<|zo J (ci (y:=hX) aH pL bf (J))<|aF J<|ax aH J an J (ht J) (ht J)<|bm J<|aq<|ak<|ae<|bn 4 J ?_;cases so h;exact bS J J ⟨br aH J J J,aX J,aR⟩
 ·refine dR<|ah<|au<|zo J (bB mJ J J)<|bv h fun r2 q_r2 h=>iv Wp (Kp _ q_r2) ⟨(ht J),aR⟩ J fun l c=>zo J (io g9 (.head _) (ht J))<|zo J (bJ hI)<|aq<|ay<|n7 (.head _) fun hN=>bG ?_;refine aT (nO (Z:=fun ls i x=>(r2.drop i=ls)∧nV e r ls x=some R) (Of:=fun _ i x=>[fq bY 3 l c r2,bx af 46 b x]) (Gf:=fun _ i x=>[(2,bK cB e),(3,bK cK r),(4,tV (aP b 0)),(17,qM l c r2),(18,kg r2),(19,bH (i:Int))]) (fun i x h=>?_) (fun e1 tl ih i x h=>?_) r2 0 hX ⟨J,h⟩) (bt J)
  ·obtain⟨hx,h⟩:=h
   refine aC<|au<|zo J (fG J J)<|aq<|ah<|bA (ht J) (dC hx)<|bu ?_;refine ai (ai (aN ?_));refine av<|au<|bv h fun r3 q_r3 h=>zo J (aA aaS (UU q_r3) trivial)<|bc (r:=rV) (x:= .map none) Qv (fun _=>⟨J,J⟩) J fun b1=>v7 (nI (r' :=rT (Nm (fun y:(ac→ac→Option (ac×Int))=>yx aO pX sx (fun(x:ac×ac)=>y x.1 x.2)) nh r3)) (x' :=()) (q:=rT (Nm (fun y:(ac→ac→Option (ac×Int))=>yx aO pX sx (fun(x:ac×ac)=>y x.1 x.2)) nh r3)) (y:=()) Qv J (xF J) J (ht J) (hTT Tn (show aI _ _ _ (Nm (fun y:(ac→ac→Option (ac×Int))=>yx aO pX sx (fun(x:ac×ac)=>y x.1 x.2)) nh r3)from(ht J)))) fun _=>?_;refine(show RG _ _ _ _ (bx (rT (Nm (fun y:(ac→ac→Option (ac×Int))=>yx aO pX sx (fun(x:ac×ac)=>y x.1 x.2)) nh r3)) 219 b1 ()::_) _ from ?_);refine aZ 9 J<|aq<|au<|zo J (bB mJ J J)<|zo J ((show bO _ _ _ _ ((dK aO S4 sx (fun(x:bo×(List ac))=>(iI r r3) x.1 x.2)))from fW (cts:=[bK cK r,bK (rT (Nm (fun y:(ac→ac→Option (ac×Int))=>yx aO pX sx (fun(x:ac×ac)=>y x.1 x.2)) nh r3)) ()]) (caps:=[.tmp 3,.tmp 9]) aaQ ⟨(ht J),(ht J),aR⟩ (fun x y h=>US _ _ _ _ h)))<|bv h fun r4 q_r4 h=>zo J (aA aaR (UT _ _ q_r4) ⟨(ht J),(ht J),aR⟩)<|zo J (hZ J J)<|zo J (hZ J J)<|bI<|ax aH J an J (ht J) (ht J)<|bm J<|aq<|ak<|bn 4 J<|bk ?_;cases so h;exact bS J J ⟨br aH J J J,aX J,aR⟩
  ·obtain⟨hx,h⟩:=h
   refine aC<|au<|zo J (fG J J)<|aq<|ah<|bz (ht J) (du hx)<|dR<|ah<|ay<|au<|zo J (ca g9 cv (.head _) (ht J) (ht J) (cW hx))<|zo J (fM (r:=bY) (i:=(i:Int)) (foff:=0) cv J J bQ J (.head _) (cW hx) (ht J))<|bm J<|aq<|au<|aF J<|zo J (bB cO J J)<|zo J (iw gc J) ?_;refine zo J (hT (ht J) (ht J))<|aF J<|bv h fun t q_t h=>gI J J (fun hg=>bB cO J J)<|gI J J (fun hg=>cD J) ?_
   obtain⟨e2,h1t,h0t⟩:=og q_t
   have q_e2g:=fun hb=>(h1t hb).1
   refine gI J J (fun hg=>bp gc aH J (bD J hg) (bD J hg) (q_e2g hg))<|gI J J (fun hg=>bM aH J J (bD J hg)) ?_
   obtain⟨r5,h1t⟩:=Tv (fun hb=>(h1t hb).2)
   have q_r5g:=fun hb=>(h1t hb).1
   refine gI J J (fun hg=>aA OB (Di _ (q_r5g hg)) ⟨(bD J hg),aR⟩)<|gI J J (fun hg=>ei (bD J hg))<|zo J (ko (ht J) (fun hb=>(bD J (yA hb))) (fun hb=>(h1t hb).2) h0t)<|aq<|cU h J (fun h=>?_) (fun h=>?_)
   ·refine au<|zo J (ci (y:=hX) aH pL bf (J))<|bI<|ax aH J an J (ht J) (ht J)<|zo J (cq)<|aq<|ak ?_;refine aD (ae (ae (aD (ae ?_))));refine bn 4 J<|bk ?_;cases so h;exact bS J J ⟨br aH J J J,aX J,aR⟩
   ·refine bw<|ap<|av<|aw<|zo rfl (mI (cQ hx hN) rfl)<|aF rfl<|aQ ?_;exact bg (aT (ih (i+1) x ⟨cP hx,h⟩) (bt J))

theorem UZ(a1:ac){R:Bool}(h:vu a1=some R):aU aO 171 [tD af a1] (gY R):=by
 refine aU.of Tryz.func171 J J J fun w0 S0=>au<|zo J (jw J)<|zo J (jE)<|aq<|ah<|bv h fun r q_r h=>?_
 refine cJ (ts:=[_,_,_,_]) mixed J J
  ⟨ep 1 J J J (bB aH J J),
  ⟨OX J J (aA Sf (Ig _ q_r) ⟨hB,aR⟩),
  ⟨dv 3 0 4 1 J J J J (AC MF (ht J) (ht J)),
  ⟨bT 5 2 J J J (tA J),
  aR⟩⟩⟩⟩ ?_
 refine av<|ak ?_;cases so h;exact aG J J

theorem Ok(e:bL)(r:(List ac)){R:Bool×Int}(h:pP e r=some R):aU aO 103 [tD cB e,bR (af) r] (tT [gY R.1,bH R.2]):=by
 refine aU.of Tryz.func103 J J J fun w0 S0=>au<|zo J (jw J)<|zo J (jE)<|zo J (cq)<|aq<|au<|zo J (bB mJ J J)<|aF J<|bv h fun r1 q_r1 h=>zo J (aA Sm (Ik _ _ q_r1) ⟨(ht J),(ht J),aR⟩)<|aF J<|zo J (hZ J J)<|zo J (hZ J J)<|bc (r:=af) (x:=hX) aH (fun _=>bf _) J fun b=>ax aH J an J (ht J) (ht J)<|aZ 6 J<|bm J<|aq<|ah ?_;refine aw<|zo J (bB aH J J)<|bv h fun r2 q_r2 h=>zo J (aA aaZ (UZ _ q_r2) ⟨(ht J),aR⟩)<|aF J<|bm J<|bm J<|aq<|ak ?_;cases so h;exact cC J J J

theorem Zo(b:Nat)(ix:OI)(r:cX)(n:am){R:(List (List ac))×Int}(h:jB r n=some R):c9 aO 52 [tV (aP b 0),tD aL n] (jn b r ix) (fun _:OI=>tT [bR (cK) R.1,bH R.2]) (fun _=>(jn b r ix)):=by
 refine PP Tryz.func52 J J J fun w0 S0=>?_;refine(show CG _ _ _ [bx (rH eD [(1,aS (ix.h 0).1 (ix.h 0).2 r.rows.length),(2,aS (ix.h 1).1 (ix.h 1).2 r.width.length)]) 96 b r,d5 d7 32 (ix.h 0).1 (ix.h 0).2 r.rows,d5 bY 3 (ix.h 1).1 (ix.h 1).2 r.width] _ from ?_);refine au<|zo J (jw J)<|bc (r:=d7) (x:=[]) hJ (fun _=>⟨none,0,J,dF _,ln _,.inl J⟩) J fun b1=>bc (r:=bY) (x:=(0:Int)) Lt (fun _=>J) J fun b2=>aq<|ah<|bv h fun e q_e h=>bv h fun e1 q_e1 h=>?_
 refine cJ (ts:=[_,_,_,_,_,_,_,_,_,_,_,_,_,_,_,_,_,_]) mixed J J
  ⟨ep 0 J J J (cD J),
  ⟨bT 16 0 J J J (dG (ht J)),
  ⟨bT 17 1 J J J (kG 1 qq J J J),
  ⟨bT 18 2 J J J (di yw J (.tail _ (.tail _ (.head _))) (.tail _ (.tail _ (.tail _ (.head _)))) (ht J)),
  ⟨ep 3 J J J (cY jR dX J J),
  ⟨bT 20 4 J J J (bB cv J J),
  ⟨dv 19 3 21 5 J J J J (bp p8 hJ J (k7 (ht J)) (ht J) q_e),
  ⟨bT 22 6 J J J (bB hJ J J),
  ⟨ep 0 J J J (cD J),
  ⟨bT 24 8 J J J (dG (ht J)),
  ⟨bT 25 9 J J J (kG 1 qq J J J),
  ⟨bT 26 10 J J J (di yw J (.tail _ (.tail _ (.head _))) (.tail _ (.tail _ (.tail _ (.head _)))) (ht J)),
  ⟨ep 3 J J J (cY rp kp J J),
  ⟨bT 28 12 J J J (bB cv J J),
  ⟨dv 27 11 29 13 J J J J (bp p8 hJ J (k7 (ht J)) (ht J) q_e1),
  ⟨bT 30 14 J J J (bB hJ J J),
  ⟨bT 23 7 J J J (tA J),
  ⟨bT 31 15 J J J (tA J),
  aR⟩⟩⟩⟩⟩⟩⟩⟩⟩⟩⟩⟩⟩⟩⟩⟩⟩⟩ ?_
 refine av<|ah<|au<|aF rfl<|zo rfl (iw gR rfl)<|aF rfl<|zo rfl (iw gR rfl)<|zo rfl (zy (ht rfl) (ht rfl))<|zo rfl (jm (ht rfl) hI)<|aq<|cU h rfl (fun h=>?_) (fun h=>?_)
 ·refine au<|bI<|ax hJ J an J (ht J) jA<|bI<|ax Lt J an J (ht J) hI<|aq<|ak<|ae<|bE<|bn 4 J<|bn 5 J<|aK<|aK<|aK<|rj ?_;cases so h;exact eg (ts:=[bR (cK) ([]),bH 3]) (rvs:=[.cell 4 32,.cell 5 33]) J J ⟨br hJ J J J,br Lt J J J,aR⟩ pm J J
 ·refine dR<|au<|aF J<|zo J (iw gR J)<|bv h fun mk q_mk h=>zN (R1 (r:=rB) (x:=false) IF J J J Tryz.underlying143 (fun _=>J) (ht J) (ht J) q_mk) J fun i=>bN false rB 4<|bc (x:=aS none 0 0) Nj (fun _=>Ee) J fun b3=>bI<|VK<|ax Nj J an J (ht J) (Rh (ht J))<|aq<|au<|bN false cK 43<|bc (x:=aS none 0 0) hJ (fun _=>Ee) J fun b4=>aq<|ah<|au ?_;refine aF J<|aF J<|bv h fun it q_it h=>GX abo (RV _ _ q_it) ⟨(ht J),(ht J),aR⟩ J fun v fp=>aq<|ay<|bv h fun r1 q_r1 h=>Yv ?_;refine G5 (fun(ix1:Option Nat×Nat×List (List ac)×Option Nat×Nat×List Bool×Int×(List (List ac)))=>[bx rV 32 b4 (aS ix1.1 ix1.2.1 ix1.2.2.1.length),fq cK 43 ix1.1 ix1.2.1 ix1.2.2.1,bx rV 143 b3 (aS ix1.2.2.2.1 ix1.2.2.2.2.1 ix1.2.2.2.2.2.1.length),fq rB 4 ix1.2.2.2.1 ix1.2.2.2.2.1 ix1.2.2.2.2.2.1,bx bY 33 b2 ix1.2.2.2.2.2.2.1,bx d7 32 b1 ix1.2.2.2.2.2.2.2,bx (rH eD [(1,aS (ix.h 0).1 (ix.h 0).2 r.rows.length),(2,aS (ix.h 1).1 (ix.h 1).2 r.width.length)]) 96 b r,d5 d7 32 (ix.h 0).1 (ix.h 0).2 r.rows,d5 bY 3 (ix.h 1).1 (ix.h 1).2 r.width]) (fun(ix1:Option Nat×Nat×List (List ac)×Option Nat×Nat×List Bool×Int×(List (List ac)))=>(ix1.2.2.1,ix1.2.2.2.2.2.1,ix1.2.2.2.2.2.2.1,ix1.2.2.2.2.2.2.2)) (fun _=> .ret) J (ht J) (none,0,Ft,(i.h 0).1,(i.h 0).2,mk,(0:Int),[]) J q_r1 (fun _=>J) J (fun ix1 x r2 h lp rec1 _ _ _=>?_) (fun i1 j hi bd=>⟨fun hj=>?_,fun _ hj=>?_⟩)
  ·obtain⟨l,c,xs,l1,c1,xs1,x1,x2⟩:=ix1
   replace h:gQ n x xs xs1 x1 x2=some r2:=h
   refine(show CG _ _ _ [qX lp rec1 .ready none,bx rV 32 b4 (aS l c xs.length),fq cK 43 l c xs,bx rV 143 b3 (aS l1 c1 xs1.length),fq rB 4 l1 c1 xs1,bx bY 33 b2 x1,bx d7 32 b1 x2,bx (rH eD [(1,aS (ix.h 0).1 (ix.h 0).2 r.rows.length),(2,aS (ix.h 1).1 (ix.h 1).2 r.width.length)]) 96 b r,d5 d7 32 (ix.h 0).1 (ix.h 0).2 r.rows,d5 bY 3 (ix.h 1).1 (ix.h 1).2 r.width] _ from ?_);refine Fg (G' :=[(0,tV (aP b 0)),(1,tD aL n),(3,bK aL n),(4,tV (aP b1 0)),(5,tV (aP b2 0)),(6,bR (cK) e),(7,bR (cK) e1),(8,tV (aP b3 0)),(9,tV (aP b4 0)),(16,tV (aP b 0)),(17,tV (aP b 0)),(18,tV (aP b 1)),(19,tO d7 (ix.h 0).1 (ix.h 0).2 r.rows),(20,bK bY n.A),(21,bH n.A),(22,bK d7 e),(23,bR (cK) e),(24,tV (aP b 0)),(25,tV (aP b 0)),(26,tV (aP b 1)),(27,tO d7 (ix.h 0).1 (ix.h 0).2 r.rows),(28,bK bY n.B),(29,bH n.B),(30,bK d7 e1),(31,bR (cK) e1),(32,bR (cK) e),(33,kg e),(34,bR (cK) e1),(35,kg e1),(36,bH (IntKind.i64.wrap ((e.length:Int)*(e1.length:Int)))),(37,gY (decide ((40000:Int)<(IntKind.i64.wrap ((e.length:Int)*(e1.length:Int)))))),(38,bR (cK) e),(39,kg e),(41,bR (cK) e),(42,bR (cK) e1),(44,bH x.1),(45,bR (af) x.2)]) ?_ ⟨J,J,J,J,J,J,J,J,J,J,J,J,J,J,J,J,J,J,J,J,J,J,J,J,J,J,J,J,J,J,J,J,J,J,J,J,J,aR⟩;refine au<|bm J<|aq<|aw<|bm J<|aQ<|Ha<|ay<|au<|zo J (cY vN oU J J)<|zo J (bB mJ J J)<|aF J<|bv h fun r3 q_r3 h=>zo J (aA Wv (Ok _ _ q_r3) ⟨(ht J),(ht J),aR⟩)<|aF J<|zo J (hZ J J)<|zo J (hZ J J)<|bm J<|bm J<|aq ?_;refine ah<|au<|aF J<|zo J (tE J)<|aq<|cU h J (fun h=>?_) (fun h=>?_)
   ·refine au<|aF J<|yg<|ax hJ J an J (ht J) jA<|yg<|ax Lt J an J (ht J) (ht J)<|aq<|ak ?_;refine ae (aD ?_);refine eJ<|eJ<|eJ<|fz<|fz<|eJ<|eJ<|eJ<|eJ<|eJ ?_;cases so h;exact Bk 0 J (l,c,xs,l1,c1,xs1,r3.2,[]) J J
   ·refine dR<|au<|aF J<|aq<|cU h J (fun h=>?_) (fun h=>?_)
    ·refine au<|zo J (gU Nj (.tail _ (.tail _ (.tail _ (.head _)))) (ht J))<|aF J<|bv h fun e2 q_e2 h=>zo J (ca Tryz.underlying143 IF (.tail _ (.tail _ (.tail _ (.tail _ (.head _))))) (ht J) (ht J) q_e2)<|yh<|bv h fun st q_st h=>pf IF J an J q_e2 (so q_st) (ht J) hB<|fy (jx (so q_st)) 57 J<|E4 (O' :=[fq rB 4 l1 c1 st,qX lp rec1 .busy none,bx rV 32 b4 (aS l c xs.length),fq cK 43 l c xs,bx rV 143 b3 (aS l1 c1 st.length),bx bY 33 b2 x1,bx d7 32 b1 x2,bx (rH eD [(1,aS (ix.h 0).1 (ix.h 0).2 r.rows.length),(2,aS (ix.h 1).1 (ix.h 1).2 r.width.length)]) 96 b r,d5 d7 32 (ix.h 0).1 (ix.h 0).2 r.rows,d5 bY 3 (ix.h 1).1 (ix.h 1).2 r.width]) (by rw [jx (so q_st)])<|aq<|aw<|zo J (gU hJ (.tail _ (.tail _ (.head _))) (ht J))<|aF J<|zo J (aV (r:=cK) (ys:=[x.2]) (xs:=[.tmp 61]) gR cO J J J J J ⟨(ht J),aR⟩)<|qz<|bv h fun l2 q_l2 h=>cT cO J J J J gR J J (ht J) (ht J) q_l2 fun l3 c2=>qz<|ax hJ J an J (ht J) (Rh (ht J))<|aQ<|ap ?_;refine eJ<|eJ<|eJ<|eJ<|eJ<|Qd<|eJ<|G8<|G8<|eJ ?_;cases so h;exact wb (l3,c2,l2,l1,c1,st,x1,x2) J J
    ·refine bw<|ap ?_;cases so h;exact wb (l,c,xs,l1,c1,xs1,x1,x2) J J
  ·skip
   obtain⟨l4,c3,xs2,l5,c4,xs3,x3,x4⟩:=i1
   obtain rfl:xs2=r1.1.2.1:=congrArg (fun q:List (List ac)×List Bool×Int×(List (List ac))=>q.1) hi
   obtain rfl:xs3=r1.1.2.2.1:=congrArg (fun q:List (List ac)×List Bool×Int×(List (List ac))=>q.2.1) hi
   obtain rfl:x3=r1.1.2.2.2.1:=congrArg (fun q:List (List ac)×List Bool×Int×(List (List ac))=>q.2.2.1) hi
   obtain rfl:x4=r1.1.2.2.2.2:=congrArg (fun q:List (List ac)×List Bool×Int×(List (List ac))=>q.2.2.2) hi
   have h:=ct h (by rw [hj];rfl);refine(show AT _ _ _ [A4 bd,bx rV 32 b4 (aS l4 c3 r1.1.2.1.length),fq cK 43 l4 c3 r1.1.2.1,bx rV 143 b3 (aS l5 c4 r1.1.2.2.1.length),fq rB 4 l5 c4 r1.1.2.2.1,bx bY 33 b2 r1.1.2.2.2.1,bx d7 32 b1 r1.1.2.2.2.2,bx (rH eD [(1,aS (ix.h 0).1 (ix.h 0).2 r.rows.length),(2,aS (ix.h 1).1 (ix.h 1).2 r.width.length)]) 96 b r,d5 d7 32 (ix.h 0).1 (ix.h 0).2 r.rows,d5 bY 3 (ix.h 1).1 (ix.h 1).2 r.width] _ from ?_);refine cM (G' :=[(0,tV (aP b 0)),(1,tD aL n),(3,bK aL n),(4,tV (aP b1 0)),(5,tV (aP b2 0)),(6,bR (cK) e),(7,bR (cK) e1),(8,tV (aP b3 0)),(9,tV (aP b4 0)),(16,tV (aP b 0)),(17,tV (aP b 0)),(18,tV (aP b 1)),(19,tO d7 (ix.h 0).1 (ix.h 0).2 r.rows),(20,bK bY n.A),(21,bH n.A),(22,bK d7 e),(23,bR (cK) e),(24,tV (aP b 0)),(25,tV (aP b 0)),(26,tV (aP b 1)),(27,tO d7 (ix.h 0).1 (ix.h 0).2 r.rows),(28,bK bY n.B),(29,bH n.B),(30,bK d7 e1),(31,bR (cK) e1),(32,bR (cK) e),(33,kg e),(34,bR (cK) e1),(35,kg e1),(36,bH (IntKind.i64.wrap ((e.length:Int)*(e1.length:Int)))),(37,gY (decide ((40000:Int)<(IntKind.i64.wrap ((e.length:Int)*(e1.length:Int)))))),(38,bR (cK) e),(39,kg e),(41,bR (cK) e),(42,bR (cK) e1)]) ?_ ⟨J,J,J,J,J,J,J,J,J,J,J,J,J,J,J,J,J,J,J,J,J,J,J,J,J,J,J,J,J,J,J,J,J,J,J,aR⟩;refine ap<|av<|ah<|au<|aF rfl<|zo rfl (iw gR rfl)<|zo rfl (bJ hI)<|aq<|ay<|ba (k:=64) J fun hN=>bG<|yj<|yj<|yj<|pg<|G0<|G1<|G1<|G0<|PU<|yj ?_;refine aT (jL (Z:=fun ls i2 out l6 c5=>(e.drop i2=ls)∧gO r n r1 ls i2 out=some R) (Of:=fun _ i2 out l6 c5=>[bx d7 32 b1 r1.1.2.2.2.2,bx bY 33 b2 r1.1.2.2.2.1,bx rV 143 b3 (aS l5 c4 r1.1.2.2.1.length),bx rV 32 b4 (aS l6 c5 out.length),fq cK 43 l6 c5 out,fq rB 4 l5 c4 r1.1.2.2.1,A4 bd,bx (rH eD [(1,aS (ix.h 0).1 (ix.h 0).2 r.rows.length),(2,aS (ix.h 1).1 (ix.h 1).2 r.width.length)]) 96 b r,d5 d7 32 (ix.h 0).1 (ix.h 0).2 r.rows,d5 bY 3 (ix.h 1).1 (ix.h 1).2 r.width]) (Gf:=fun _ i2 out l6 c5=>[(0,tV (aP b 0)),(3,bK aL n),(4,tV (aP b1 0)),(5,tV (aP b2 0)),(8,tV (aP b3 0)),(9,tV (aP b4 0)),(64,bR (cK) e),(65,kg e),(66,bH (i2:Int))]) (fun i2 out l6 c5 h=>?_) (fun e3 tl ih i2 out l6 c5 h=>?_) e 0 r1.1.2.1 l4 c3 ⟨J,h⟩) (bt J)
   ·obtain⟨hx,h⟩:=h
    refine aC<|au<|zo J (fG J J)<|aq<|ah<|bA (ht J) (dC hx)<|bu ?_;refine ai (ai (aN ?_));refine av<|au<|zo rfl (gU hJ (.tail _ (.tail _ (.tail _ (.head _)))) (ht rfl))<|yh<|j8<|jt 96 rfl<|bI<|ax hJ rfl an rfl (ht rfl) (k7 (ht rfl))<|gX<|ax Lt rfl an rfl (ht rfl) hI<|aq<|ak<|bE<|bn 4 rfl<|bn 5 rfl<|bk<|bk<|bk<|bk<|cN<|cN<|cN ?_;refine cN<|Bj<|rj ?_;cases so h;exact eg (ts:=[bR (cK) out,bH 0]) (rvs:=[.cell 4 32,.cell 5 33]) J J ⟨br hJ J J J,br Lt J J J,aR⟩ pm J J
   ·obtain⟨hx,h⟩:=h
    refine aC<|au<|zo J (fG J J)<|aq<|ah<|bz (ht J) (du hx)<|dR<|ah<|ay<|au<|aF J<|zo J (lq gR cO J J J (cW hx))<|zo J (bB cO J J)<|bm J<|bm J<|aq<|au<|zo J (cY Mv EF J J) ?_;refine zo J (bB IF J J)<|aF J<|bv h fun t q_t h=>cR J J (fun hg=>gU Nj (.tail _ (.tail _ (.head _))) (ht J))<|cR J J (fun hg=>cD J) ?_
    obtain⟨e4,h1t,h0t⟩:=og q_t
    have q_e4g:=fun hb=>(h1t hb).1
    refine cR J J (fun hg=>ca Tryz.underlying143 IF (.tail _ (.tail _ (.tail _ (.tail _ (.tail _ (.head _)))))) (bD J hg) (bD J hg) (q_e4g hg))<|cR J J (fun hg=>fM (r:=rB) (i:=(i2:Int)) (foff:=0) IF J J bQ J (.tail _ (.tail _ (.tail _ (.tail _ (.tail _ (.head _)))))) (q_e4g hg) (bD J hg))<|cR J J (fun hg=>ei (bD J hg))<|zo J (dP (ht J) (fun hb=>(bD J hb)) (fun hb=>(h1t hb).2) h0t)<|aq<|cU h J (fun h=>?_) (fun h=>?_)
    ·refine bv h fun e5 q_e5 h=>bv h fun mk1 q_mk1 h=>bv h fun r4 q_r4 h=>?_
     refine oA 14 [tc (qM l6 c5 out),tc (bR (af) e3),tc (tV (aP b 0)),tc (tV (aP b 0)),tc (tV (aP b 2)),tc (tO bY (ix.h 1).1 (ix.h 1).2 r.width),tc (bK bY n.B),tc (bH n.B),tc (bK bY e5),tc (bH e5),([10],fun s=>tO af ((s.getD 0 pm).h 0).1 ((s.getD 0 pm).h 0).2 mk1),tc (bR (cK) ([e3,mk1])),tc (bR (af) r4),tc (bR (cK) ([r4]))] [false,false,false,false,false,false,false,false,false,false,true,false,false,false] [fun _=>[bx d7 32 b1 r1.1.2.2.2.2,bx bY 33 b2 r1.1.2.2.2.1,bx rV 143 b3 (aS l5 c4 r1.1.2.2.1.length),bx rV 32 b4 (aS l6 c5 out.length),fq cK 43 l6 c5 out,fq rB 4 l5 c4 r1.1.2.2.1,A4 bd,bx (rH eD [(1,aS (ix.h 0).1 (ix.h 0).2 r.rows.length),(2,aS (ix.h 1).1 (ix.h 1).2 r.width.length)]) 96 b r,d5 d7 32 (ix.h 0).1 (ix.h 0).2 r.rows,d5 bY 3 (ix.h 1).1 (ix.h 1).2 r.width],fun sg=>[d5 af 46 ((sg 10).h 0).1 ((sg 10).h 0).2 mk1,bx d7 32 b1 r1.1.2.2.2.2,bx bY 33 b2 r1.1.2.2.2.1,bx rV 143 b3 (aS l5 c4 r1.1.2.2.1.length),bx rV 32 b4 (aS l6 c5 out.length),fq cK 43 l6 c5 out,fq rB 4 l5 c4 r1.1.2.2.1,A4 bd,bx (rH eD [(1,aS (ix.h 0).1 (ix.h 0).2 r.rows.length),(2,aS (ix.h 1).1 (ix.h 1).2 r.width.length)]) 96 b r,d5 d7 32 (ix.h 0).1 (ix.h 0).2 r.rows,d5 bY 3 (ix.h 1).1 (ix.h 1).2 r.width]] J mixed J J J J J
      ⟨⟨[⟨9,fun _=>tV (aP b4 0),none⟩],_,0,1,J,⟨(fun _=>J),aR⟩,J,J,J,J,J,Fu (fun sg=>aB J (gU hJ (.tail _ (.tail _ (.tail _ (.head _)))) (ht J))) (ze (fun sg=>aB J (gU hJ (.tail _ (.tail _ (.tail _ (.tail _ (.head _))))) (ht J))))⟩,
      ⟨⟨[⟨15,fun _=>tD cK e3,none⟩],_,0,1,J,⟨(fun _=>J),aR⟩,J,J,J,J,J,fun _ sg _ _=>aB J (cD J)⟩,
      ⟨⟨[⟨0,fun _=>tV (aP b 0),none⟩],_,0,0,J,⟨(fun _=>J),aR⟩,J,J,J,J,J,fun _ sg _ _=>aB J (cD J)⟩,
      ⟨⟨[⟨82,fun _=>tV (aP b 0),some 2⟩],_,0,0,J,⟨(fun _=>J),aR⟩,J,J,J,J,J,fun _ sg _ _=>aB J (dG (ht J))⟩,
      ⟨⟨[⟨83,fun _=>tV (aP b 0),some 3⟩],_,0,0,J,⟨(fun _=>J),aR⟩,J,J,J,J,J,fun _ sg _ _=>aB J (kG 2 Mu J J J)⟩,
      ⟨⟨[⟨84,fun _=>tV (aP b 2),some 4⟩],_,0,0,J,⟨(fun _=>J),aR⟩,J,J,J,J,J,ze (fun sg=>aB J (di eC J (.tail _ (.tail _ (.tail _ (.tail _ (.tail _ (.tail _ (.tail _ (.head _)))))))) (.tail _ (.tail _ (.tail _ (.tail _ (.tail _ (.tail _ (.tail _ (.tail _ (.tail _ (.head _)))))))))) (ht J)))⟩,
      ⟨⟨[⟨3,fun _=>bK aL n,none⟩],_,0,0,J,⟨(fun _=>J),aR⟩,J,J,J,J,J,fun _ sg _ _=>aB J (cY rp kp J J)⟩,
      ⟨⟨[⟨86,fun _=>bK bY n.B,some 6⟩],_,0,0,J,⟨(fun _=>J),aR⟩,J,J,J,J,J,fun _ sg _ _=>aB J (bB cv J J)⟩,
      ⟨⟨[⟨85,fun _=>tO bY (ix.h 1).1 (ix.h 1).2 r.width,some 5⟩,⟨87,fun _=>tD bY n.B,some 7⟩],_,0,0,J,⟨(fun _=>J),(fun _=>J),aR⟩,J,J,J,J,J,fun _ sg _ _=>aB J (bp g9 cv J (k7 (ht J)) (ht J) q_e5)⟩,
      ⟨⟨[⟨88,fun _=>bK bY e5,some 8⟩],_,0,0,J,⟨(fun _=>J),aR⟩,J,J,J,J,J,fun _ sg _ _=>aB J (bB cv J J)⟩,
      ⟨⟨[⟨89,fun _=>tD bY e5,some 9⟩],_,J,⟨(fun _=>J),aR⟩,J,J,J,fun sg=>eI J (PD (r:=af) (x:=hX) aH J J J gc (fun _=>bf _) (ht J) (ht J) q_mk1)⟩,
      ⟨⟨[⟨81,fun _=>tD cK e3,some 1⟩,⟨90,fun sg=>tO af ((sg 10).h 0).1 ((sg 10).h 0).2 mk1,some 10⟩],_,1,1,J,⟨(fun _=>J),(fun _=>J),aR⟩,J,J,J,J,J,fun _ sg _ _=>aB J (aV (r:=cK) (ys:=[e3,mk1]) (xs:=[.tmp 81,.tmp 90]) gR cO J J J J J ⟨(ht J),(k7 (ht J)),aR⟩)⟩,
      ⟨⟨[⟨91,fun _=>tD d7 ([e3,mk1]),some 11⟩],_,1,1,J,⟨(fun _=>J),aR⟩,J,J,J,J,J,fun _ sg _ _=>aB J (aA Wu (Vm _ q_r4) ⟨(ht J),aR⟩)⟩,
      ⟨⟨[⟨92,fun _=>tD cK r4,some 12⟩],_,1,1,J,⟨(fun _=>J),aR⟩,J,J,J,J,J,fun _ sg _ _=>aB J (aV (r:=cK) (ys:=[r4]) (xs:=[.tmp 92]) gR cO J J J J J ⟨(ht J),aR⟩)⟩,
      aR⟩⟩⟩⟩⟩⟩⟩⟩⟩⟩⟩⟩⟩⟩ (fun sg=>?_)
     refine(show RG _ _ _ _ [d5 af 46 ((sg 10).h 0).1 ((sg 10).h 0).2 mk1,bx d7 32 b1 r1.1.2.2.2.2,bx bY 33 b2 r1.1.2.2.2.1,bx rV 143 b3 (aS l5 c4 r1.1.2.2.1.length),bx rV 32 b4 (aS l6 c5 out.length),fq cK 43 l6 c5 out,fq rB 4 l5 c4 r1.1.2.2.1,A4 bd,bx (rH eD [(1,aS (ix.h 0).1 (ix.h 0).2 r.rows.length),(2,aS (ix.h 1).1 (ix.h 1).2 r.width.length)]) 96 b r,d5 d7 32 (ix.h 0).1 (ix.h 0).2 r.rows,d5 bY 3 (ix.h 1).1 (ix.h 1).2 r.width] _ from ?_);refine GV<|bv h fun l7 q_l7 h=>cT cO J J J J gR J J (ht J) (ht J) q_l7 fun l8 c6=>GV<|ax hJ J an J (ht J) (Rh (ht J))<|aQ<|ap<|av<|aw<|zo rfl (mI (cQ hx hN) rfl)<|aF rfl<|aQ<|aK<|bk<|eJ<|eJ<|eJ<|eJ<|eJ<|vm<|vm<|eJ<|eJ<|eJ ?_;exact bg (aT (ih (i2+1) l7 l8 c6 ⟨cP hx,h⟩) (bt J))
    ·refine bw<|ap<|av<|aw<|zo rfl (mI (cQ hx hN) rfl)<|aF rfl<|aQ ?_;exact bg (aT (ih (i2+1) out l6 c5 ⟨cP hx,h⟩) (bt J))
  ·skip
   obtain⟨l9,c7,xs4,l10,c8,xs5,x5,x6⟩:=i1
   obtain rfl:xs4=r1.1.2.1:=congrArg (fun q:List (List ac)×List Bool×Int×(List (List ac))=>q.1) hi
   obtain rfl:xs5=r1.1.2.2.1:=congrArg (fun q:List (List ac)×List Bool×Int×(List (List ac))=>q.2.1) hi
   obtain rfl:x5=r1.1.2.2.2.1:=congrArg (fun q:List (List ac)×List Bool×Int×(List (List ac))=>q.2.2.1) hi
   obtain rfl:x6=r1.1.2.2.2.2:=congrArg (fun q:List (List ac)×List Bool×Int×(List (List ac))=>q.2.2.2) hi
   have h:=cf h (by rw [hj];rfl);refine(show CG _ _ _ [A4 bd,bx rV 32 b4 (aS l9 c7 r1.1.2.1.length),fq cK 43 l9 c7 r1.1.2.1,bx rV 143 b3 (aS l10 c8 r1.1.2.2.1.length),fq rB 4 l10 c8 r1.1.2.2.1,bx bY 33 b2 r1.1.2.2.2.1,bx d7 32 b1 r1.1.2.2.2.2,bx (rH eD [(1,aS (ix.h 0).1 (ix.h 0).2 r.rows.length),(2,aS (ix.h 1).1 (ix.h 1).2 r.width.length)]) 96 b r,d5 d7 32 (ix.h 0).1 (ix.h 0).2 r.rows,d5 bY 3 (ix.h 1).1 (ix.h 1).2 r.width] _ from ?_);refine Fg (G' :=[(0,tV (aP b 0)),(1,tD aL n),(3,bK aL n),(4,tV (aP b1 0)),(5,tV (aP b2 0)),(6,bR (cK) e),(7,bR (cK) e1),(8,tV (aP b3 0)),(9,tV (aP b4 0)),(16,tV (aP b 0)),(17,tV (aP b 0)),(18,tV (aP b 1)),(19,tO d7 (ix.h 0).1 (ix.h 0).2 r.rows),(20,bK bY n.A),(21,bH n.A),(22,bK d7 e),(23,bR (cK) e),(24,tV (aP b 0)),(25,tV (aP b 0)),(26,tV (aP b 1)),(27,tO d7 (ix.h 0).1 (ix.h 0).2 r.rows),(28,bK bY n.B),(29,bH n.B),(30,bK d7 e1),(31,bR (cK) e1),(32,bR (cK) e),(33,kg e),(34,bR (cK) e1),(35,kg e1),(36,bH (IntKind.i64.wrap ((e.length:Int)*(e1.length:Int)))),(37,gY (decide ((40000:Int)<(IntKind.i64.wrap ((e.length:Int)*(e1.length:Int)))))),(38,bR (cK) e),(39,kg e),(41,bR (cK) e),(42,bR (cK) e1)]) ?_ ⟨J,J,J,J,J,J,J,J,J,J,J,J,J,J,J,J,J,J,J,J,J,J,J,J,J,J,J,J,J,J,J,J,J,J,J,aR⟩;refine ak ?_;refine aD (ae ?_);refine vm<|bn 4 J<|G9<|bn 5 J<|bE<|bk<|bE<|bk<|bE<|bk<|bE<|bk<|cN<|cN<|cN<|cN<|Bj<|rj ?_;cases so h;exact eg (ts:=[bR (cK) r1.1.2.2.2.2,bH r1.1.2.2.2.1]) (rvs:=[.cell 4 32,.cell 5 33]) J J ⟨br hJ J J J,br Lt J J J,aR⟩ pm J J

end Go.Proofs.YtfhhakidodmdfaaGreatDoor

