/- cU of this claim: P7. -/
import Derived.Test.YtfhhakidodmdfaaGreatDoorJfT
import Derived.Test.YtfhhakidodmdfaaGreatDoorJfP6
set_option linter.all false
namespace Go.Proofs.YtfhhakidodmdfaaGreatDoor
open Go
set_option maxRecDepth 100000

theorem V6(e:bJ)(do1:(bp→(List ac)→Option (ac×Int))){R:ac×Int}(h:iS e do1=some R):aW aQ 184 [tD co e,(dR aQ Ui tE (fun(x:bp×(List ac))=>do1 x.1 x.2))] (tT [tD af R.1,bN R.2]):=by
 refine aW.of Tryz.func184 J J J fun w0 S0=>aw<|zo J (js J)<|aX (r:=af) (x:=iy) aI (fun _=>bk _) J fun b=>zo J (cy)<|av<|Mr<|aw<|bP false af 46<|aX (x:=aT none 0 0) Ir (fun _=>Fg) J fun b1=>av<|aw<|aX (r:=af) (x:=iy) aI (fun _=>bk _) J fun b2=>aV 7 J<|av<|aw<|zo J (KT (cts:=[tV (aO b1 0)]) (caps:=[.tmp 6]) ⟨(ht J),aS⟩) ?_;refine bq J<|av<|aw<|zo J (cy)<|av<|ah<|Ms<|ax<|ah<|aw<|zo rfl (c9 qx mj rfl rfl)<|zo rfl (bC Bf rfl rfl)<|zo rfl (i7 xw rfl)<|zo rfl (bE hI)<|av ?_;refine H6 (Z:=fun bad stack l c=>gB bad stack=some R) (Of:=fun bad stack l c=>[bx af 46 b iy,bx rV 42 b1 (aT l c stack.length),fE af 46 l c stack]) (Gf:=fun bad stack l c=>[(4,tV (aO b 0)),(6,tV (aO b1 0)),(7,bM af iy),(9,bN bad)]) (fun bad stack l c h=>?_) (fun K=>?_)
 ·skip
  refine ax<|ah<|aw<|aG rfl<|zo rfl (s8 rfl)<|av<|c0 h rfl (fun h=>?_) (fun h=>?_)
  ·refine aw<|zo J (bC aI J J)<|aG J<|aq aI J an J (ht J) (ht J)<|bq J<|av<|am ?_;refine ae (zx ?_);refine bj 4 J<|bf<|bf ?_;cases so h;exact bQ J J ⟨bt aI J J J,aZ J,aS⟩
  ·refine dP<|aw<|zo J (ii Ir (.tail _ (.head _)) (ht J))<|bB h fun e1 q_e1 h=>zo J (cM kC aI (.tail _ (.tail _ (.head _))) (ht J) hI q_e1)<|zo J (gG (r:=af) (i:=(0:Int)) (foff:=0) aI J J bU J (.tail _ (.tail _ (.head _))) q_e1 (ht J))<|aq aI J an J (ht J) (ht J)<|zo J (cy)<|av<|am<|zx<|bj 4 J<|bf<|bf ?_;cases so h;exact bQ J J ⟨bt aI J J J,aZ J,aS⟩
 ·skip
  refine ba (k:=16) J fun hN=>bL<|im<|im<|rt ?_;refine aR (uA (Z:=fun ls i bad1 stack1 l1 c1=>(e.Nodes.drop i=ls)∧dH do1 ls bad1 stack1=some R) (Of:=fun _ i bad1 stack1 l1 c1=>[bx af 46 b iy,bx rV 42 b1 (aT l1 c1 stack1.length),fE af 46 l1 c1 stack1]) (Gf:=fun _ i bad1 stack1 l1 c1=>[(1,(dR aQ Ui tE (fun(x:bp×(List ac))=>do1 x.1 x.2))),(4,tV (aO b 0)),(6,tV (aO b1 0)),(7,bM af iy),(8,tC 275 [tV (aO b1 0)]),(9,bN bad1),(16,bW (bO) e.Nodes),(17,jr e.Nodes),(18,bN (i:Int))]) (fun i bad1 stack1 l1 c1 h=>?_) (fun e2 tl ih i bad1 stack1 l1 c1 h=>?_) e.Nodes 0 (0:Int) If none 0 ⟨J,h⟩) (bu J)
  ·obtain⟨hx,h⟩:=h
   refine aA<|aw<|zo J (fF J J)<|av<|ah<|bz (ht J) (dm hx)<|bv ?_;refine ai (ai (aN ?_));exact cF (K bad1 stack1 l1 c1 h) (bu J)
  ·obtain⟨hx,h⟩:=h
   refine aA<|aw<|zo J (fF J J)<|av<|ah<|bw (ht J) (dg hx)<|dP<|ah<|ay<|aw<|zo J (mz xw p8 J J J (cT hx))<|zo J (bC p8 J J)<|aX (r:=bO) (x:=Rt) p8 (fun _=>vv _) J fun b3=>aq p8 J an J (ht J) (ht J)<|aV 11 J<|av<|ah<|bB h fun r q_r h=>bB h fun r1 q_r1 h=>?_
   obtain⟨r2,q_r2,h⟩:=bs h
   refine TZ 13 [tc ((dR aQ Ui tE (fun(x:bp×(List ac))=>do1 x.1 x.2))),tc (tD bO e2),tc (tC 275 [tV (aO b1 0)]),tc (bM ca e2.Tag),tc (bN e2.Tag),tc (bN r),tc (bW (af) r1.1),tc (tT [tD af r2.1,bN r2.2]),tc (tT [tD af r2.1,bN r2.2]),tc (tD af r2.1),tc (bN r2.2),([11],fun s=>tV (aO ((s.getD 0 p7).h 0).2 0)),tc (DW)] [false,false,false,false,false,false,true,false,false,false,false,true,true] [([],fun _=>[bx af 46 b iy,bx rV 42 b1 (aT l1 c1 stack1.length),fE af 46 l1 c1 stack1]),([6],fun sg=>[bx rV 42 b1 (aT ((sg 6).h 0).1 ((sg 6).h 0).2 r1.2.length),fE af 46 ((sg 6).h 0).1 ((sg 6).h 0).2 r1.2,bx af 46 b iy]),([11],fun sg=>[bx af 46 ((sg 11).h 0).2 iy,bx af 46 b iy,bx rV 42 b1 (aT l1 c1 stack1.length),fE af 46 l1 c1 stack1]),([6,11],fun sg=>[bx af 46 ((sg 11).h 0).2 iy,bx rV 42 b1 (aT ((sg 6).h 0).1 ((sg 6).h 0).2 r1.2.length),fE af 46 ((sg 6).h 0).1 ((sg 6).h 0).2 r1.2,bx af 46 b iy]),([6,11,12],fun sg=>[bx af 46 ((sg 11).h 0).2 r2.1,bx rV 42 b1 (aT ((sg 6).h 0).1 ((sg 6).h 0).2 r1.2.length),fE af 46 ((sg 6).h 0).1 ((sg 6).h 0).2 r1.2,bx af 46 b iy])] (fun _=>J) mixed J J J J
    ⟨⟨[⟨1,fun _=>(dR aQ Ug DQ (fun(x:bp×(List ac))=>do1 x.1 x.2)),none⟩],_,[[],[6],[11],[6,11]],J,⟨(fun _=>J),aS⟩,J,J,J,J,J,⟨fun sg=>aC J (de J),fun sg=>aC J (de J),fun sg=>aC J (de J),fun sg=>aC J (de J),aS⟩⟩,
    ⟨⟨[⟨11,fun _=>bM bO e2,none⟩],_,[[],[6],[11],[6,11]],J,⟨(fun _=>J),aS⟩,J,J,J,J,J,⟨fun sg=>aC J (bC p8 J J),fun sg=>aC J (bC p8 J J),fun sg=>aC J (bC p8 J J),fun sg=>aC J (bC p8 J J),aS⟩⟩,
    ⟨⟨[⟨8,fun _=>tC 275 [tV (aO b1 0)],none⟩],_,[[],[11]],J,⟨(fun _=>J),aS⟩,J,J,J,J,J,⟨fun sg=>aC J (de J),fun sg=>aC J (de J),aS⟩⟩,
    ⟨⟨[⟨11,fun _=>bM bO e2,none⟩],_,[[],[11]],J,⟨(fun _=>J),aS⟩,J,J,J,J,J,⟨fun sg=>aC J (c9 qu iM J J),fun sg=>aC J (c9 qu iM J J),aS⟩⟩,
    ⟨⟨[⟨26,fun _=>bM ca e2.Tag,some 3⟩],_,[[],[11]],J,⟨(fun _=>J),aS⟩,J,J,J,J,J,⟨fun sg=>aC J (bC cr J J),fun sg=>aC J (bC cr J J),aS⟩⟩,
    ⟨⟨[⟨27,fun _=>tD ca e2.Tag,some 4⟩],_,[[],[11]],J,⟨(fun _=>J),aS⟩,J,J,J,J,J,⟨fun sg=>aC J (aB PL (Ek _ q_r) ⟨(ht J),aS⟩),fun sg=>aC J (aB PL (Ek _ q_r) ⟨(ht J),aS⟩),aS⟩⟩,
    ⟨⟨[⟨25,fun _=>tC 275 [tV (aO b1 0)],some 2⟩,⟨28,fun _=>tD ca r,some 5⟩],_,[([],[6]),([11],[6,11])],J,⟨(fun _=>J),(fun _=>J),aS⟩,J,J,J,J,J,⟨fun sg=>eC J (EffOK.fr2 (EffOK.fr2 (CL (xs:=[.tmp 28]) (ts:=[tD ca r]) (cts:=[tV (aO b1 0)]) [bx rV 42 b1 (aT l1 c1 stack1.length),fE af 46 l1 c1 stack1] _ J XJ (SS b1 l1 c1 _ _ q_r1) (ht J) ⟨(ht J),aS⟩ (fun _=>J)))),fun sg=>eC J (EffOK.post_imp (post:=fun x__=>(fun(sg:Nat→OI)=>[bx rV 42 b1 (aT ((sg 6).h 0).1 ((sg 6).h 0).2 r1.2.length),fE af 46 ((sg 6).h 0).1 ((sg 6).h 0).2 r1.2,bx af 46 ((sg 11).h 0).2 iy,bx af 46 b iy]) (MG sg 6 x__)) (EffOK.fr3 (EffOK.fr3 (CL (xs:=[.tmp 28]) (ts:=[tD ca r]) (cts:=[tV (aO b1 0)]) [bx rV 42 b1 (aT l1 c1 stack1.length),fE af 46 l1 c1 stack1] _ J XJ (SS b1 l1 c1 _ _ q_r1) (ht J) ⟨(ht J),aS⟩ (fun _=>J)))) (fun h=>cL.pick [2,0,1,3] J h)),aS⟩⟩,
    ⟨⟨[⟨23,fun _=>(dR aQ Ug DQ (fun(x:bp×(List ac))=>do1 x.1 x.2)),some 0⟩,⟨24,fun _=>tD bO e2,some 1⟩,⟨29,fun _=>tD cR r1.1,some 6⟩],_,[[6],[6,11]],J,⟨(fun _=>J),(fun _=>J),(fun _=>J),aS⟩,J,J,J,J,J,⟨fun sg=>aC J (eU (args:=Ug) (res:=DQ) (f:=(fun(x:bp×(List ac))=>do1 x.1 x.2)) (x:=((e2,r1.1):bp×(List ac))) (ht J) q_r2 ⟨(ht J),(ht J),aS⟩),fun sg=>aC J (eU (args:=Ug) (res:=DQ) (f:=(fun(x:bp×(List ac))=>do1 x.1 x.2)) (x:=((e2,r1.1):bp×(List ac))) (ht J) q_r2 ⟨(ht J),(ht J),aS⟩),aS⟩⟩,
    ⟨⟨[⟨30,fun _=>tT [tD af r2.1,tD ca r2.2],some 7⟩],_,[[6],[6,11]],J,⟨(fun _=>J),aS⟩,J,J,J,J,J,⟨fun sg=>aC J (de J),fun sg=>aC J (de J),aS⟩⟩,
    ⟨⟨[⟨22,fun _=>tT [tD af r2.1,tD ca r2.2],some 8⟩],_,[[6],[6,11]],J,⟨(fun _=>J),aS⟩,J,J,J,J,J,⟨fun sg=>aC J (gE J J),fun sg=>aC J (gE J J),aS⟩⟩,
    ⟨⟨[⟨22,fun _=>tT [tD af r2.1,tD ca r2.2],some 8⟩],_,[[6],[6,11],[6,11,12]],J,⟨(fun _=>J),aS⟩,J,J,J,J,J,⟨fun sg=>aC J (gE J J),fun sg=>aC J (gE J J),fun sg=>aC J (gE J J),aS⟩⟩,
    ⟨⟨[],_,[([],[11]),([6],[6,11])],J,aS,J,J,J,J,J,⟨fun sg=>eC J (zk (r:=af) (x:=iy) aI (fun _=>bk _)),fun sg=>eC J (zk (r:=af) (x:=iy) aI (fun _=>bk _)),aS⟩⟩,
    ⟨⟨[⟨12,fun sg=>tV (aO ((sg 11).h 0).2 0),some 11⟩,⟨31,fun _=>tD af r2.1,some 9⟩],_,[([6,11],[6,11,12])],J,⟨(fun _=>J),(fun _=>J),aS⟩,J,J,J,J,J,⟨fun sg=>eC J (oG aI J (Au an) J (ht J) (ht J)),aS⟩⟩,
    aS⟩⟩⟩⟩⟩⟩⟩⟩⟩⟩⟩⟩⟩ (fun sg=>?_)
   refine(show RG _ _ _ _ [bx af 46 ((sg 11).h 0).2 r2.1,bx rV 42 b1 (aT ((sg 6).h 0).1 ((sg 6).h 0).2 r1.2.length),fE af 46 ((sg 6).h 0).1 ((sg 6).h 0).2 r1.2,bx af 46 b iy] _ from ?_);refine aV 12 J<|bq J<|av<|ah<|aw<|aG J<|zo J (s8 J)<|av<|c0 h J (fun h=>?_) (fun h=>?_)
   ·refine aw<|aG J<|bq J<|av<|bv ?_;refine ai (ck J (ai (ai (aN ?_))));refine bD<|bD<|aL ?_;exact cF (K r2.2 r1.2 ((sg 6).h 0).1 ((sg 6).h 0).2 h) (bu J)
   ·refine dP<|au<|zo J (ii Ir (.head _) (ht J))<|zo J (bC aI J J)<|zo J (aU (r:=af) (ys:=[r2.1]) (xs:=[.tmp 37]) kC aI J J J J J ⟨(ht J),aS⟩)<|bH<|bB h fun l2 q_l2 h=>db aI J J J J kC J J (ht J) (ht J) q_l2 fun l3 c2=>bH<|aq Ir J an J (ht J) (QK (ht J))<|aP<|ap<|ax<|au<|zo rfl (lT (cx hx hN) rfl)<|aG rfl<|aP<|bD<|bD<|aL ?_;exact bg (aR (ih (i+1) bad1 l2 l3 c2 ⟨cw hx,h⟩) (bu J))

theorem V5(r:(List ac))(do1:(List (Int×(ac→ac→Option (ac×Int)))))(n:bp)(l:(List ac)){R:ac×Int}(h:i6 r do1 n l=some R):aW aQ 185 [tD bO n,bW (af) l,bM cR r,bM (rT (OH (fun y:(ac→ac→Option (ac×Int))=>zC aQ qK tE (fun(x:ac×ac)=>y x.1 x.2)) n9 do1)) ()] (tT [tD af R.1,bN R.2]):=by
 refine aW.of Tryz.func185 J J J fun w0 S0=>aw<|zo J (js J)<|aX (r:=af) (x:=iy) aI (fun _=>bk _) J fun b=>zo J (cy)<|av<|ah<|aw<|zo J (c9 qu iM J J)<|zo J (bC cr J J)<|av<|ay<|aw<|zo J (nX J)<|bq J<|av<|c0 h J (fun h=>?_) (fun h=>?_)
 ·refine aw<|zo J (c9 CE rh J J)<|zo J (bC aI J J)<|aq aI J an J (ht J) (ht J)<|zo J (cy)<|av<|am ?_;refine aD (ae ?_);refine bj 6 J ?_;cases so h;exact bQ J J ⟨bt aI J J J,aZ J,aS⟩
 ·refine aw<|zo J (nX J)<|bq J<|av<|c0 h J (fun h=>?_) (fun h=>?_)
  ·refine aw<|zo J (bC dy J J)<|zo J (c9 AF pJ J J)<|zo J (bC cr J J)<|bB h fun e q_e h=>zo J (mz jf aI J J J q_e)<|zo J (bC aI J J)<|aq aI J an J (ht J) (ht J)<|zo J (cy)<|av<|am ?_;refine aD (ae ?_);refine bj 6 J ?_;cases so h;exact bQ J J ⟨bt aI J J J,aZ J,aS⟩
  ·refine bA<|ap<|ax<|ah<|bB h fun e1 q_e1 h=>bB h fun e2 q_e2 h=>bB h fun r1 q_r1 h=>?_
   refine pn 19 [tc (OH (fun y:(ac→ac→Option (ac×Int))=>zC aQ qK tE (fun(x:ac×ac)=>y x.1 x.2)) n9 do1),tc (bM ca n.Tag),tc (bN n.Tag),tc (zC aQ qK tE (fun(x:ac×ac)=>((pH do1 n.Tag).getD (fun _ _=>none)) x.1 x.2)),tc (bW (af) l),tc (bM af e1),tc (tD af e1),tc (bW (af) l),tc (bW (af) l),tc (jr l),tc (bN (IntKind.i64.wrap ((l.length:Int)-(1:Int)))),tc (bM af e2),tc (tD af e2),tc (tT [tD af r1.1,bN r1.2]),tc (tT [tD af r1.1,bN r1.2]),tc (tD af r1.1),tc (bN r1.2),([17],fun s=>tV (aO ((s.getD 0 p7).h 0).2 0)),tc (DW)] [false,false,false,false,false,false,false,false,false,false,false,false,false,false,false,false,false,true,true] [fun _=>[bx af 46 b iy],fun sg=>[bx af 46 ((sg 17).h 0).2 iy,bx af 46 b iy],fun sg=>[bx af 46 ((sg 17).h 0).2 r1.1,bx af 46 b iy]] J mixed J J J J J
    ⟨⟨[⟨3,fun _=>bM (rT (OH (fun y:(ac→ac→Option (ac×Int))=>zC aQ qK DQ (fun(x:ac×ac)=>y x.1 x.2)) n9 do1)) (),none⟩],_,0,1,J,⟨(fun _=>J),aS⟩,J,J,J,J,J,fun _ sg _ _=>aC J (vM RE (ht J))⟩,
    ⟨⟨[⟨4,fun _=>bM bO n,none⟩],_,0,1,J,⟨(fun _=>J),aS⟩,J,J,J,J,J,fun _ sg _ _=>aC J (c9 qu iM J J)⟩,
    ⟨⟨[⟨25,fun _=>bM ca n.Tag,some 1⟩],_,0,1,J,⟨(fun _=>J),aS⟩,J,J,J,J,J,fun _ sg _ _=>aC J (bC cr J J)⟩,
    ⟨⟨[⟨24,fun _=>OH (fun y:(ac→ac→Option (ac×Int))=>zC aQ qK DQ (fun(x:ac×ac)=>y x.1 x.2)) n9 do1,some 0⟩,⟨26,fun _=>tD ca n.Tag,some 2⟩],_,0,1,J,⟨(fun _=>J),(fun _=>J),aS⟩,J,J,J,J,J,fun _ sg _ _=>aC J (KV (γ:=(fun y:(ac→ac→Option (ac×Int))=>zC aQ qK DQ (fun(x:ac×ac)=>y x.1 x.2))) (z:=(fun _ _=>none)) xI (d6 lk) ZU (fun _=>Un) (ht J) (oz (ht J)))⟩,
    ⟨⟨[⟨1,fun _=>tD cR l,none⟩],_,0,1,J,⟨(fun _=>J),aS⟩,J,J,J,J,J,fun _ sg _ _=>aC J (de J)⟩,
    ⟨⟨[⟨28,fun _=>tD cR l,some 4⟩],_,0,1,J,⟨(fun _=>J),aS⟩,J,J,J,J,J,fun _ sg _ _=>aC J (br kC aI J (ht J) hI q_e1)⟩,
    ⟨⟨[⟨29,fun _=>bM af e1,some 5⟩],_,0,1,J,⟨(fun _=>J),aS⟩,J,J,J,J,J,fun _ sg _ _=>aC J (bC aI J J)⟩,
    ⟨⟨[⟨1,fun _=>tD cR l,none⟩],_,0,1,J,⟨(fun _=>J),aS⟩,J,J,J,J,J,fun _ sg _ _=>aC J (de J)⟩,
    ⟨⟨[⟨1,fun _=>tD cR l,none⟩],_,0,1,J,⟨(fun _=>J),aS⟩,J,J,J,J,J,fun _ sg _ _=>aC J (de J)⟩,
    ⟨⟨[⟨32,fun _=>tD cR l,some 8⟩],_,0,1,J,⟨(fun _=>J),aS⟩,J,J,J,J,J,fun _ sg _ _=>aC J (i7 kC J)⟩,
    ⟨⟨[⟨33,fun _=>tD ca (l.length:Int),some 9⟩],_,0,1,J,⟨(fun _=>J),aS⟩,J,J,J,J,J,fun _ sg _ _=>aC J (iq (ht J) hI)⟩,
    ⟨⟨[⟨31,fun _=>tD cR l,some 7⟩,⟨34,fun _=>tD ca (IntKind.i64.wrap ((l.length:Int)-(1:Int))),some 10⟩],_,0,1,J,⟨(fun _=>J),(fun _=>J),aS⟩,J,J,J,J,J,fun _ sg _ _=>aC J (mz kC aI J J J q_e2)⟩,
    ⟨⟨[⟨35,fun _=>bM af e2,some 11⟩],_,0,1,J,⟨(fun _=>J),aS⟩,J,J,J,J,J,fun _ sg _ _=>aC J (bC aI J J)⟩,
    ⟨⟨[⟨27,fun _=>zC aQ qK DQ (fun(x:ac×ac)=>((pH do1 n.Tag).getD (fun _ _=>none)) x.1 x.2),some 3⟩,⟨30,fun _=>tD af e1,some 6⟩,⟨36,fun _=>tD af e2,some 12⟩],_,0,1,J,⟨(fun _=>J),(fun _=>J),(fun _=>J),aS⟩,J,J,J,J,J,fun _ sg _ _=>aC J (Qy (args:=qK) (res:=DQ) (f:=(fun(x:ac×ac)=>((pH do1 n.Tag).getD (fun _ _=>none)) x.1 x.2)) (x:=((e1,e2):ac×ac)) (ht J) q_r1 ⟨(ht J),(ht J),aS⟩)⟩,
    ⟨⟨[⟨37,fun _=>tT [tD af r1.1,tD ca r1.2],some 13⟩],_,0,1,J,⟨(fun _=>J),aS⟩,J,J,J,J,J,fun _ sg _ _=>aC J (de J)⟩,
    ⟨⟨[⟨23,fun _=>tT [tD af r1.1,tD ca r1.2],some 14⟩],_,0,1,J,⟨(fun _=>J),aS⟩,J,J,J,J,J,fun _ sg _ _=>aC J (gE J J)⟩,
    ⟨⟨[⟨23,fun _=>tT [tD af r1.1,tD ca r1.2],some 14⟩],_,0,2,J,⟨(fun _=>J),aS⟩,J,J,J,J,J,fun _ sg _ _=>aC J (gE J J)⟩,
    ⟨⟨[],_,J,aS,J,J,J,fun sg=>eC J (zk (r:=af) (x:=iy) aI (fun _=>bk _))⟩,
    ⟨⟨[⟨8,fun sg=>tV (aO ((sg 17).h 0).2 0),some 17⟩,⟨38,fun _=>tD af r1.1,some 15⟩],_,J,⟨(fun _=>J),(fun _=>J),aS⟩,J,J,J,fun sg=>eC J (oG aI J (Au an) J (ht J) (ht J))⟩,
    aS⟩⟩⟩⟩⟩⟩⟩⟩⟩⟩⟩⟩⟩⟩⟩⟩⟩⟩⟩ (fun sg=>?_)
   refine(show RG _ _ _ _ [bx af 46 ((sg 17).h 0).2 r1.1,bx af 46 b iy] _ from ?_);refine aV 8 J<|bq J<|av ?_;refine kL (Z:=fun no=>qz r1 no=some R) (Of:=fun no=>[bx af 46 b iy]) (Gf:=fun no=>[(6,tV (aO b 0)),(8,bM af r1.1),(9,bN no)]) (fun no h=>?_) (fun K=>?_)
   ·skip
    refine aw<|zo J (bC aI J J)<|aG J<|aq aI J an J (ht J) (ht J)<|bq J<|av<|am<|bj 6 J ?_;cases so h;exact bQ J J ⟨bt aI J J J,aZ J,aS⟩
   ·skip
    refine aw<|aG J<|zo J (s8 J)<|aG J<|dN J J (fun hg=>de J)<|dN J J (fun hg=>ft (bG J hg) hI)<|zo J (vn J J)<|av<|c0 h J (fun h=>?_) (fun h=>?_)
    ·refine au<|zo J (cy)<|aP ?_;exact cF (K (201:Int) h) (bu J)
    ·refine bA ?_;exact cF (K r1.2 h) (bu J)

theorem Jt(e:bJ)(r:(List ac)){R:ac×Int}(h:tq e r=some R):aW aQ 107 [tD co e,bW (af) r] (tT [tD af R.1,bN R.2]):=by
 refine aW.of Tryz.func107 J J J fun w0 S0=>aw<|zo J (js J)<|zo J (js J)<|aX (r:=af) (x:=iy) aI (fun _=>bk _) J fun b=>zo J (cy)<|av<|ah<|aw<|zo J (bC kQ J J)<|bB h fun r1 q_r1 h=>zo J (aB ZE (NW _ q_r1) ⟨(ht J),aS⟩)<|bq J<|av<|aw<|aG J<|zo J (s8 J)<|av ?_;refine c0 h J (fun h=>?_) (fun h=>?_)
 ·refine aw<|zo J (bY (y:=iy) aI qO bk (J))<|aG J<|aq aI J an J (ht J) (ht J)<|bq J<|av<|am<|ae<|bj 4 J ?_;cases so h;exact bQ J J ⟨bt aI J J J,aZ J,aS⟩
 ·refine dP<|ah<|aw<|zo J (bC kQ J J)<|bB h fun r2 q_r2 h=>jd XQ (LI _ q_r2) ⟨(ht J),aS⟩ J fun l c=>zo J (jO hX (.head _) (ht J))<|zo J (bE hI)<|av<|ay<|o0 (.head _) fun hN=>bL ?_;refine aR (nE (Z:=fun ls i x=>(r2.drop i=ls)∧oW e r ls x=some R) (Of:=fun _ i x=>[fE ca 3 l c r2,bx af 46 b x]) (Gf:=fun _ i x=>[(2,bM co e),(3,bM cR r),(4,tV (aO b 0)),(17,sH l c r2),(18,jr r2),(19,bN (i:Int))]) (fun i x h=>?_) (fun e1 tl ih i x h=>?_) r2 0 iy ⟨J,h⟩) (bu J)
  ·obtain⟨hx,h⟩:=h
   refine aA<|aw<|zo J (fF J J)<|av<|ah<|bz (ht J) (dm hx)<|bv ?_;refine ai (ai (aN ?_));refine ax<|aw<|bB h fun r3 q_r3 h=>zo J (aB acc (V7 q_r3) trivial)<|aX (r:=rV) (x:= .map none) RE (fun _=>⟨J,J⟩) J fun b1=>xb (oG (r' :=rT (OH (fun y:(ac→ac→Option (ac×Int))=>zC aQ qK tE (fun(x:ac×ac)=>y x.1 x.2)) n9 r3)) (x' :=()) (q:=rT (OH (fun y:(ac→ac→Option (ac×Int))=>zC aQ qK tE (fun(x:ac×ac)=>y x.1 x.2)) n9 r3)) (y:=()) RE J (yW J) J (ht J) (hTT UF (show aJ _ _ _ (OH (fun y:(ac→ac→Option (ac×Int))=>zC aQ qK tE (fun(x:ac×ac)=>y x.1 x.2)) n9 r3)from(ht J)))) fun _=>?_;refine(show RG _ _ _ _ (bx (rT (OH (fun y:(ac→ac→Option (ac×Int))=>zC aQ qK tE (fun(x:ac×ac)=>y x.1 x.2)) n9 r3)) 219 b1 ()::_) _ from ?_);refine aV 9 J<|av<|aw<|zo J (bC kQ J J)<|zo J ((show bR _ _ _ _ ((dR aQ Ui tE (fun(x:bp×(List ac))=>(i6 r r3) x.1 x.2)))from ig (cts:=[bM cR r,bM (rT (OH (fun y:(ac→ac→Option (ac×Int))=>zC aQ qK tE (fun(x:ac×ac)=>y x.1 x.2)) n9 r3)) ()]) (caps:=[.tmp 3,.tmp 9]) aca ⟨(ht J),(ht J),aS⟩ (fun x y h=>V5 _ _ _ _ h)))<|bB h fun r4 q_r4 h=>zo J (aB acb (V6 _ _ q_r4) ⟨(ht J),(ht J),aS⟩)<|zo J (gE J J)<|zo J (gE J J)<|bH<|aq aI J an J (ht J) (ht J)<|bq J<|av<|am<|bj 4 J<|bf ?_;cases so h;exact bQ J J ⟨bt aI J J J,aZ J,aS⟩
  ·obtain⟨hx,h⟩:=h
   refine aA<|aw<|zo J (fF J J)<|av<|ah<|bw (ht J) (dg hx)<|dP<|ah<|ay<|aw<|zo J (cM hX cr (.head _) (ht J) (ht J) (cT hx))<|zo J (gG (r:=ca) (i:=(i:Int)) (foff:=0) cr J J bU J (.head _) (cT hx) (ht J))<|bq J<|av<|aw<|aG J<|zo J (bC dy J J)<|zo J (i7 jf J) ?_;refine zo J (ir (ht J) (ht J))<|aG J<|bB h fun t q_t h=>eG J J (fun hg=>bC dy J J)<|eG J J (fun hg=>de J) ?_
   obtain⟨e2,h1t,h0t⟩:=og q_t
   have q_e2g:=fun hb=>(h1t hb).1
   refine eG J J (fun hg=>br jf aI J (bG J hg) (bG J hg) (q_e2g hg))<|eG J J (fun hg=>bI aI J J (bG J hg)) ?_
   obtain⟨r5,h1t⟩:=Xn (fun hb=>(h1t hb).2)
   have q_r5g:=fun hb=>(h1t hb).1
   refine eG J J (fun hg=>aB PM (El _ (q_r5g hg)) ⟨(bG J hg),aS⟩)<|eG J J (fun hg=>fj (bG J hg))<|zo J (gZ (ht J) (fun hb=>(bG J (wK hb))) (fun hb=>(h1t hb).2) h0t)<|av<|c0 h J (fun h=>?_) (fun h=>?_)
   ·refine aw<|zo J (bY (y:=iy) aI qO bk (J))<|bH<|aq aI J an J (ht J) (ht J)<|zo J (cy)<|av<|am ?_;refine aD (ae (ae (aD (ae ?_))));refine bj 4 J<|bf ?_;cases so h;exact bQ J J ⟨bt aI J J J,aZ J,aS⟩
   ·refine bA<|ap<|ax<|au<|zo rfl (lT (cx hx hN) rfl)<|aG rfl<|aP ?_;exact bg (aR (ih (i+1) x ⟨cw hx,h⟩) (bu J))

theorem Wc(a1:ac){R:Bool}(h:wt a1=some R):aW aQ 171 [tD af a1] (iO R):=by
 refine aW.of Tryz.func171 J J J fun w0 S0=>aw<|zo J (js J)<|zo J (jy)<|av<|ah<|bB h fun r q_r h=>?_
 refine da (ts:=[_,_,_,_]) mixed J J
  ⟨eH 1 J J J (bC aI J J),
  ⟨Qg J J (aB To (Jo _ q_r) ⟨hB,aS⟩),
  ⟨d3 3 0 4 1 J J J J (Eb QS (ht J) (ht J)),
  ⟨bZ 5 2 J J J (vx J),
  aS⟩⟩⟩⟩ ?_
 refine ax<|am ?_;cases so h;exact aH J J

theorem Px(e:bJ)(r:(List ac)){R:Bool×Int}(h:qB e r=some R):aW aQ 103 [tD co e,bW (af) r] (tT [iO R.1,bN R.2]):=by
 refine aW.of Tryz.func103 J J J fun w0 S0=>aw<|zo J (js J)<|zo J (jy)<|zo J (cy)<|av<|aw<|zo J (bC kQ J J)<|aG J<|bB h fun r1 q_r1 h=>zo J (aB Tz (Jt _ _ q_r1) ⟨(ht J),(ht J),aS⟩)<|aG J<|zo J (gE J J)<|zo J (gE J J)<|aX (r:=af) (x:=iy) aI (fun _=>bk _) J fun b=>aq aI J an J (ht J) (ht J)<|aV 6 J<|bq J<|av<|ah ?_;refine au<|zo J (bC aI J J)<|bB h fun r2 q_r2 h=>zo J (aB acj (Wc _ q_r2) ⟨(ht J),aS⟩)<|aG J<|bq J<|bq J<|av<|am ?_;cases so h;exact cP J J J

theorem aaO(b:Nat)(ix:OI)(r:cZ)(n:aj){R:(List (List ac))×Int}(h:jT r n=some R):dd aQ 52 [tV (aO b 0),tD aF n] (jC b r ix) (fun _:OI=>tT [bW (cR) R.1,bN R.2]) (fun _=>(jC b r ix)):=by
 refine Q8 Tryz.func52 J J J fun w0 S0=>?_;refine(show CG _ _ _ [bx (rH ee [(1,aT (ix.h 0).1 (ix.h 0).2 r.rows.length),(2,aT (ix.h 1).1 (ix.h 1).2 r.width.length)]) 96 b r,dW dU 32 (ix.h 0).1 (ix.h 0).2 r.rows,dW ca 3 (ix.h 1).1 (ix.h 1).2 r.width] _ from ?_);refine aw<|zo J (js J)<|aX (r:=dU) (x:=[]) gU (fun _=>⟨none,0,J,dh _,lS _,.inl J⟩) J fun b1=>aX (r:=ca) (x:=(0:Int)) ML (fun _=>J) J fun b2=>av<|ah<|bB h fun e q_e h=>bB h fun e1 q_e1 h=>?_
 refine da (ts:=[_,_,_,_,_,_,_,_,_,_,_,_,_,_,_,_,_,_]) mixed J J
  ⟨eH 0 J J J (de J),
  ⟨bZ 16 0 J J J (dF (ht J)),
  ⟨bZ 17 1 J J J (jY 1 rj J J J),
  ⟨bZ 18 2 J J J (dl vB J (.tail _ (.tail _ (.head _))) (.tail _ (.tail _ (.tail _ (.head _)))) (ht J)),
  ⟨eH 3 J J J (c9 jH dS J J),
  ⟨bZ 20 4 J J J (bC cr J J),
  ⟨d3 19 3 21 5 J J J J (br o3 gU J (lb (ht J)) (ht J) q_e),
  ⟨bZ 22 6 J J J (bC gU J J),
  ⟨eH 0 J J J (de J),
  ⟨bZ 24 8 J J J (dF (ht J)),
  ⟨bZ 25 9 J J J (jY 1 rj J J J),
  ⟨bZ 26 10 J J J (dl vB J (.tail _ (.tail _ (.head _))) (.tail _ (.tail _ (.tail _ (.head _)))) (ht J)),
  ⟨eH 3 J J J (c9 qv kV J J),
  ⟨bZ 28 12 J J J (bC cr J J),
  ⟨d3 27 11 29 13 J J J J (br o3 gU J (lb (ht J)) (ht J) q_e1),
  ⟨bZ 30 14 J J J (bC gU J J),
  ⟨bZ 23 7 J J J (vx J),
  ⟨bZ 31 15 J J J (vx J),
  aS⟩⟩⟩⟩⟩⟩⟩⟩⟩⟩⟩⟩⟩⟩⟩⟩⟩⟩ ?_
 refine ax<|ah<|aw<|aG rfl<|zo rfl (i7 i9 rfl)<|aG rfl<|zo rfl (i7 i9 rfl)<|zo rfl (yp (ht rfl) (ht rfl))<|zo rfl (fU (ht rfl) hI)<|av<|c0 h rfl (fun h=>?_) (fun h=>?_)
 ·refine aw<|bH<|aq gU J an J (ht J) kE<|bH<|aq ML J an J (ht J) hI<|av<|am<|ae<|bD<|bj 4 J<|bj 5 J<|aL<|aL<|aL<|ss ?_;cases so h;exact d8 (ts:=[bW (cR) ([]),bN 3]) (rvs:=[.cell 4 32,.cell 5 33]) J J ⟨bt gU J J J,bt ML J J J,aS⟩ p7 J J
 ·refine dP<|aw<|aG J<|zo J (i7 i9 J)<|bB h fun mk q_mk h=>AP (Tb (r:=rB) (x:=false) Km J J J Tryz.underlying143 (fun _=>J) (ht J) (ht J) q_mk) J fun i=>bP false rB 4<|aX (x:=aT none 0 0) OD (fun _=>Fg) J fun b3=>bH<|WZ<|aq OD J an J (ht J) (QK (ht J))<|av<|aw<|bP false cR 43<|aX (x:=aT none 0 0) gU (fun _=>Fg) J fun b4=>av<|ah<|aw ?_;refine aG J<|aG J<|bB h fun it q_it h=>HY acH (S6 _ _ q_it) ⟨(ht J),(ht J),aS⟩ J fun v fp=>av<|ay<|bB h fun r1 q_r1 h=>ZP ?_;refine H5 (fun(ix1:Option Nat×Nat×List (List ac)×Option Nat×Nat×List Bool×Int×(List (List ac)))=>[bx rV 32 b4 (aT ix1.1 ix1.2.1 ix1.2.2.1.length),fE cR 43 ix1.1 ix1.2.1 ix1.2.2.1,bx rV 143 b3 (aT ix1.2.2.2.1 ix1.2.2.2.2.1 ix1.2.2.2.2.2.1.length),fE rB 4 ix1.2.2.2.1 ix1.2.2.2.2.1 ix1.2.2.2.2.2.1,bx ca 33 b2 ix1.2.2.2.2.2.2.1,bx dU 32 b1 ix1.2.2.2.2.2.2.2,bx (rH ee [(1,aT (ix.h 0).1 (ix.h 0).2 r.rows.length),(2,aT (ix.h 1).1 (ix.h 1).2 r.width.length)]) 96 b r,dW dU 32 (ix.h 0).1 (ix.h 0).2 r.rows,dW ca 3 (ix.h 1).1 (ix.h 1).2 r.width]) (fun(ix1:Option Nat×Nat×List (List ac)×Option Nat×Nat×List Bool×Int×(List (List ac)))=>(ix1.2.2.1,ix1.2.2.2.2.2.1,ix1.2.2.2.2.2.2.1,ix1.2.2.2.2.2.2.2)) (fun _=> .ret) J (ht J) (none,0,Ig,(i.h 0).1,(i.h 0).2,mk,(0:Int),[]) J q_r1 (fun _=>J) J (fun ix1 x r2 h lp rec1 _ _ _=>?_) (fun i1 j hi bd=>⟨fun hj=>?_,fun _ hj=>?_⟩)
  ·obtain⟨l,c,xs,l1,c1,xs1,x1,x2⟩:=ix1
   replace h:hT n x xs xs1 x1 x2=some r2:=h
   refine(show CG _ _ _ [sa lp rec1 .ready none,bx rV 32 b4 (aT l c xs.length),fE cR 43 l c xs,bx rV 143 b3 (aT l1 c1 xs1.length),fE rB 4 l1 c1 xs1,bx ca 33 b2 x1,bx dU 32 b1 x2,bx (rH ee [(1,aT (ix.h 0).1 (ix.h 0).2 r.rows.length),(2,aT (ix.h 1).1 (ix.h 1).2 r.width.length)]) 96 b r,dW dU 32 (ix.h 0).1 (ix.h 0).2 r.rows,dW ca 3 (ix.h 1).1 (ix.h 1).2 r.width] _ from ?_);refine Gq (G' :=[(0,tV (aO b 0)),(1,tD aF n),(3,bM aF n),(4,tV (aO b1 0)),(5,tV (aO b2 0)),(6,bW (cR) e),(7,bW (cR) e1),(8,tV (aO b3 0)),(9,tV (aO b4 0)),(16,tV (aO b 0)),(17,tV (aO b 0)),(18,tV (aO b 1)),(19,tO dU (ix.h 0).1 (ix.h 0).2 r.rows),(20,bM ca n.A),(21,bN n.A),(22,bM dU e),(23,bW (cR) e),(24,tV (aO b 0)),(25,tV (aO b 0)),(26,tV (aO b 1)),(27,tO dU (ix.h 0).1 (ix.h 0).2 r.rows),(28,bM ca n.B),(29,bN n.B),(30,bM dU e1),(31,bW (cR) e1),(32,bW (cR) e),(33,jr e),(34,bW (cR) e1),(35,jr e1),(36,bN (IntKind.i64.wrap ((e.length:Int)*(e1.length:Int)))),(37,iO (decide ((40000:Int)<(IntKind.i64.wrap ((e.length:Int)*(e1.length:Int)))))),(38,bW (cR) e),(39,jr e),(41,bW (cR) e),(42,bW (cR) e1),(44,bN x.1),(45,bW (af) x.2)]) ?_ ⟨J,J,J,J,J,J,J,J,J,J,J,J,J,J,J,J,J,J,J,J,J,J,J,J,J,J,J,J,J,J,J,J,J,J,J,J,J,aS⟩;refine aw<|bq J<|av<|au<|bq J<|aP<|Ia<|ay<|aw<|zo J (c9 sE lM J J)<|zo J (bC kQ J J)<|aG J<|bB h fun r3 q_r3 h=>zo J (aB XX (Px _ _ q_r3) ⟨(ht J),(ht J),aS⟩)<|aG J<|zo J (gE J J)<|zo J (gE J J)<|bq J<|bq J<|av ?_;refine ah<|aw<|aG J<|zo J (s8 J)<|av<|c0 h J (fun h=>?_) (fun h=>?_)
   ·refine aw<|aG J<|zr<|aq gU J an J (ht J) kE<|zr<|aq ML J an J (ht J) (ht J)<|av<|am ?_;refine ae (aD ?_);refine eE<|eE<|eE<|fC<|fC<|eE<|eE<|eE<|eE<|eE ?_;cases so h;exact Cc 0 J (l,c,xs,l1,c1,xs1,r3.2,[]) J J
   ·refine dP<|aw<|aG J<|av<|c0 h J (fun h=>?_) (fun h=>?_)
    ·refine aw<|zo J (ii OD (.tail _ (.tail _ (.tail _ (.head _)))) (ht J))<|aG J<|bB h fun e2 q_e2 h=>zo J (cM Tryz.underlying143 Km (.tail _ (.tail _ (.tail _ (.tail _ (.head _))))) (ht J) (ht J) q_e2)<|zt<|bB h fun st q_st h=>tw Km J an J q_e2 (so q_st) (ht J) hB<|iX (mP (so q_st)) 57 J<|Gc (O' :=[fE rB 4 l1 c1 st,sa lp rec1 .busy none,bx rV 32 b4 (aT l c xs.length),fE cR 43 l c xs,bx rV 143 b3 (aT l1 c1 st.length),bx ca 33 b2 x1,bx dU 32 b1 x2,bx (rH ee [(1,aT (ix.h 0).1 (ix.h 0).2 r.rows.length),(2,aT (ix.h 1).1 (ix.h 1).2 r.width.length)]) 96 b r,dW dU 32 (ix.h 0).1 (ix.h 0).2 r.rows,dW ca 3 (ix.h 1).1 (ix.h 1).2 r.width]) (by rw [mP (so q_st)])<|av<|au<|zo J (ii gU (.tail _ (.tail _ (.head _))) (ht J))<|aG J<|zo J (aU (r:=cR) (ys:=[x.2]) (xs:=[.tmp 61]) i9 dy J J J J J ⟨(ht J),aS⟩)<|kI<|bB h fun l2 q_l2 h=>db dy J J J J i9 J J (ht J) (ht J) q_l2 fun l3 c2=>kI<|aq gU J an J (ht J) (QK (ht J))<|aP<|ap ?_;refine eE<|eE<|eE<|eE<|eE<|Rm<|eE<|H8<|H8<|eE ?_;cases so h;exact xe (l3,c2,l2,l1,c1,st,x1,x2) J J
    ·refine bA<|ap ?_;cases so h;exact xe (l,c,xs,l1,c1,xs1,x1,x2) J J
  ·skip
   obtain⟨l4,c3,xs2,l5,c4,xs3,x3,x4⟩:=i1
   obtain rfl:xs2=r1.1.2.1:=congrArg (fun q:List (List ac)×List Bool×Int×(List (List ac))=>q.1) hi
   obtain rfl:xs3=r1.1.2.2.1:=congrArg (fun q:List (List ac)×List Bool×Int×(List (List ac))=>q.2.1) hi
   obtain rfl:x3=r1.1.2.2.2.1:=congrArg (fun q:List (List ac)×List Bool×Int×(List (List ac))=>q.2.2.1) hi
   obtain rfl:x4=r1.1.2.2.2.2:=congrArg (fun q:List (List ac)×List Bool×Int×(List (List ac))=>q.2.2.2) hi
   have h:=ct h (by rw [hj];rfl);refine(show AT _ _ _ [BU bd,bx rV 32 b4 (aT l4 c3 r1.1.2.1.length),fE cR 43 l4 c3 r1.1.2.1,bx rV 143 b3 (aT l5 c4 r1.1.2.2.1.length),fE rB 4 l5 c4 r1.1.2.2.1,bx ca 33 b2 r1.1.2.2.2.1,bx dU 32 b1 r1.1.2.2.2.2,bx (rH ee [(1,aT (ix.h 0).1 (ix.h 0).2 r.rows.length),(2,aT (ix.h 1).1 (ix.h 1).2 r.width.length)]) 96 b r,dW dU 32 (ix.h 0).1 (ix.h 0).2 r.rows,dW ca 3 (ix.h 1).1 (ix.h 1).2 r.width] _ from ?_);refine cF (G' :=[(0,tV (aO b 0)),(1,tD aF n),(3,bM aF n),(4,tV (aO b1 0)),(5,tV (aO b2 0)),(6,bW (cR) e),(7,bW (cR) e1),(8,tV (aO b3 0)),(9,tV (aO b4 0)),(16,tV (aO b 0)),(17,tV (aO b 0)),(18,tV (aO b 1)),(19,tO dU (ix.h 0).1 (ix.h 0).2 r.rows),(20,bM ca n.A),(21,bN n.A),(22,bM dU e),(23,bW (cR) e),(24,tV (aO b 0)),(25,tV (aO b 0)),(26,tV (aO b 1)),(27,tO dU (ix.h 0).1 (ix.h 0).2 r.rows),(28,bM ca n.B),(29,bN n.B),(30,bM dU e1),(31,bW (cR) e1),(32,bW (cR) e),(33,jr e),(34,bW (cR) e1),(35,jr e1),(36,bN (IntKind.i64.wrap ((e.length:Int)*(e1.length:Int)))),(37,iO (decide ((40000:Int)<(IntKind.i64.wrap ((e.length:Int)*(e1.length:Int)))))),(38,bW (cR) e),(39,jr e),(41,bW (cR) e),(42,bW (cR) e1)]) ?_ ⟨J,J,J,J,J,J,J,J,J,J,J,J,J,J,J,J,J,J,J,J,J,J,J,J,J,J,J,J,J,J,J,J,J,J,J,aS⟩;refine ap<|ax<|ah<|aw<|aG rfl<|zo rfl (i7 i9 rfl)<|zo rfl (bE hI)<|av<|ay<|ba (k:=64) J fun hN=>bL<|zu<|zu<|zu<|nV<|H1<|H2<|H2<|H1<|Rd<|zu ?_;refine aR (j8 (Z:=fun ls i2 out l6 c5=>(e.drop i2=ls)∧hM r n r1 ls i2 out=some R) (Of:=fun _ i2 out l6 c5=>[bx dU 32 b1 r1.1.2.2.2.2,bx ca 33 b2 r1.1.2.2.2.1,bx rV 143 b3 (aT l5 c4 r1.1.2.2.1.length),bx rV 32 b4 (aT l6 c5 out.length),fE cR 43 l6 c5 out,fE rB 4 l5 c4 r1.1.2.2.1,BU bd,bx (rH ee [(1,aT (ix.h 0).1 (ix.h 0).2 r.rows.length),(2,aT (ix.h 1).1 (ix.h 1).2 r.width.length)]) 96 b r,dW dU 32 (ix.h 0).1 (ix.h 0).2 r.rows,dW ca 3 (ix.h 1).1 (ix.h 1).2 r.width]) (Gf:=fun _ i2 out l6 c5=>[(0,tV (aO b 0)),(3,bM aF n),(4,tV (aO b1 0)),(5,tV (aO b2 0)),(8,tV (aO b3 0)),(9,tV (aO b4 0)),(64,bW (cR) e),(65,jr e),(66,bN (i2:Int))]) (fun i2 out l6 c5 h=>?_) (fun e3 tl ih i2 out l6 c5 h=>?_) e 0 r1.1.2.1 l4 c3 ⟨J,h⟩) (bu J)
   ·obtain⟨hx,h⟩:=h
    refine aA<|aw<|zo J (fF J J)<|av<|ah<|bz (ht J) (dm hx)<|bv ?_;refine ai (ai (aN ?_));refine ax<|aw<|zo rfl (ii gU (.tail _ (.tail _ (.tail _ (.head _)))) (ht rfl))<|zt<|kJ<|jM 96 rfl<|bH<|aq gU rfl an rfl (ht rfl) (lb (ht rfl))<|il<|aq ML rfl an rfl (ht rfl) hI<|av<|am<|bD<|bj 4 rfl<|bj 5 rfl<|bf<|bf<|bf<|bf<|cD<|cD<|cD ?_;refine cD<|Cb<|ss ?_;cases so h;exact d8 (ts:=[bW (cR) out,bN 0]) (rvs:=[.cell 4 32,.cell 5 33]) J J ⟨bt gU J J J,bt ML J J J,aS⟩ p7 J J
   ·obtain⟨hx,h⟩:=h
    refine aA<|aw<|zo J (fF J J)<|av<|ah<|bw (ht J) (dg hx)<|dP<|ah<|ay<|aw<|aG J<|zo J (mz i9 dy J J J (cT hx))<|zo J (bC dy J J)<|bq J<|bq J<|av<|aw<|zo J (c9 NR FO J J) ?_;refine zo J (bC Km J J)<|aG J<|bB h fun t q_t h=>dN J J (fun hg=>ii OD (.tail _ (.tail _ (.head _))) (ht J))<|dN J J (fun hg=>de J) ?_
    obtain⟨e4,h1t,h0t⟩:=og q_t
    have q_e4g:=fun hb=>(h1t hb).1
    refine dN J J (fun hg=>cM Tryz.underlying143 Km (.tail _ (.tail _ (.tail _ (.tail _ (.tail _ (.head _)))))) (bG J hg) (bG J hg) (q_e4g hg))<|dN J J (fun hg=>gG (r:=rB) (i:=(i2:Int)) (foff:=0) Km J J bU J (.tail _ (.tail _ (.tail _ (.tail _ (.tail _ (.head _)))))) (q_e4g hg) (bG J hg))<|dN J J (fun hg=>fj (bG J hg))<|zo J (eT (ht J) (fun hb=>(bG J hb)) (fun hb=>(h1t hb).2) h0t)<|av<|c0 h J (fun h=>?_) (fun h=>?_)
    ·refine bB h fun e5 q_e5 h=>bB h fun mk1 q_mk1 h=>bB h fun r4 q_r4 h=>?_
     refine pn 14 [tc (sH l6 c5 out),tc (bW (af) e3),tc (tV (aO b 0)),tc (tV (aO b 0)),tc (tV (aO b 2)),tc (tO ca (ix.h 1).1 (ix.h 1).2 r.width),tc (bM ca n.B),tc (bN n.B),tc (bM ca e5),tc (bN e5),([10],fun s=>tO af ((s.getD 0 p7).h 0).1 ((s.getD 0 p7).h 0).2 mk1),tc (bW (cR) ([e3,mk1])),tc (bW (af) r4),tc (bW (cR) ([r4]))] [false,false,false,false,false,false,false,false,false,false,true,false,false,false] [fun _=>[bx dU 32 b1 r1.1.2.2.2.2,bx ca 33 b2 r1.1.2.2.2.1,bx rV 143 b3 (aT l5 c4 r1.1.2.2.1.length),bx rV 32 b4 (aT l6 c5 out.length),fE cR 43 l6 c5 out,fE rB 4 l5 c4 r1.1.2.2.1,BU bd,bx (rH ee [(1,aT (ix.h 0).1 (ix.h 0).2 r.rows.length),(2,aT (ix.h 1).1 (ix.h 1).2 r.width.length)]) 96 b r,dW dU 32 (ix.h 0).1 (ix.h 0).2 r.rows,dW ca 3 (ix.h 1).1 (ix.h 1).2 r.width],fun sg=>[dW af 46 ((sg 10).h 0).1 ((sg 10).h 0).2 mk1,bx dU 32 b1 r1.1.2.2.2.2,bx ca 33 b2 r1.1.2.2.2.1,bx rV 143 b3 (aT l5 c4 r1.1.2.2.1.length),bx rV 32 b4 (aT l6 c5 out.length),fE cR 43 l6 c5 out,fE rB 4 l5 c4 r1.1.2.2.1,BU bd,bx (rH ee [(1,aT (ix.h 0).1 (ix.h 0).2 r.rows.length),(2,aT (ix.h 1).1 (ix.h 1).2 r.width.length)]) 96 b r,dW dU 32 (ix.h 0).1 (ix.h 0).2 r.rows,dW ca 3 (ix.h 1).1 (ix.h 1).2 r.width]] J mixed J J J J J
      ⟨⟨[⟨9,fun _=>tV (aO b4 0),none⟩],_,0,1,J,⟨(fun _=>J),aS⟩,J,J,J,J,J,Gv (fun sg=>aC J (ii gU (.tail _ (.tail _ (.tail _ (.head _)))) (ht J))) (Ar (fun sg=>aC J (ii gU (.tail _ (.tail _ (.tail _ (.tail _ (.head _))))) (ht J))))⟩,
      ⟨⟨[⟨15,fun _=>tD cR e3,none⟩],_,0,1,J,⟨(fun _=>J),aS⟩,J,J,J,J,J,fun _ sg _ _=>aC J (de J)⟩,
      ⟨⟨[⟨0,fun _=>tV (aO b 0),none⟩],_,0,0,J,⟨(fun _=>J),aS⟩,J,J,J,J,J,fun _ sg _ _=>aC J (de J)⟩,
      ⟨⟨[⟨82,fun _=>tV (aO b 0),some 2⟩],_,0,0,J,⟨(fun _=>J),aS⟩,J,J,J,J,J,fun _ sg _ _=>aC J (dF (ht J))⟩,
      ⟨⟨[⟨83,fun _=>tV (aO b 0),some 3⟩],_,0,0,J,⟨(fun _=>J),aS⟩,J,J,J,J,J,fun _ sg _ _=>aC J (jY 2 NQ J J J)⟩,
      ⟨⟨[⟨84,fun _=>tV (aO b 2),some 4⟩],_,0,0,J,⟨(fun _=>J),aS⟩,J,J,J,J,J,Ar (fun sg=>aC J (dl ea J (.tail _ (.tail _ (.tail _ (.tail _ (.tail _ (.tail _ (.tail _ (.head _)))))))) (.tail _ (.tail _ (.tail _ (.tail _ (.tail _ (.tail _ (.tail _ (.tail _ (.tail _ (.head _)))))))))) (ht J)))⟩,
      ⟨⟨[⟨3,fun _=>bM aF n,none⟩],_,0,0,J,⟨(fun _=>J),aS⟩,J,J,J,J,J,fun _ sg _ _=>aC J (c9 qv kV J J)⟩,
      ⟨⟨[⟨86,fun _=>bM ca n.B,some 6⟩],_,0,0,J,⟨(fun _=>J),aS⟩,J,J,J,J,J,fun _ sg _ _=>aC J (bC cr J J)⟩,
      ⟨⟨[⟨85,fun _=>tO ca (ix.h 1).1 (ix.h 1).2 r.width,some 5⟩,⟨87,fun _=>tD ca n.B,some 7⟩],_,0,0,J,⟨(fun _=>J),(fun _=>J),aS⟩,J,J,J,J,J,fun _ sg _ _=>aC J (br hX cr J (lb (ht J)) (ht J) q_e5)⟩,
      ⟨⟨[⟨88,fun _=>bM ca e5,some 8⟩],_,0,0,J,⟨(fun _=>J),aS⟩,J,J,J,J,J,fun _ sg _ _=>aC J (bC cr J J)⟩,
      ⟨⟨[⟨89,fun _=>tD ca e5,some 9⟩],_,J,⟨(fun _=>J),aS⟩,J,J,J,fun sg=>eC J (QT (r:=af) (x:=iy) aI J J J jf (fun _=>bk _) (ht J) (ht J) q_mk1)⟩,
      ⟨⟨[⟨81,fun _=>tD cR e3,some 1⟩,⟨90,fun sg=>tO af ((sg 10).h 0).1 ((sg 10).h 0).2 mk1,some 10⟩],_,1,1,J,⟨(fun _=>J),(fun _=>J),aS⟩,J,J,J,J,J,fun _ sg _ _=>aC J (aU (r:=cR) (ys:=[e3,mk1]) (xs:=[.tmp 81,.tmp 90]) i9 dy J J J J J ⟨(ht J),(lb (ht J)),aS⟩)⟩,
      ⟨⟨[⟨91,fun _=>tD dU ([e3,mk1]),some 11⟩],_,1,1,J,⟨(fun _=>J),aS⟩,J,J,J,J,J,fun _ sg _ _=>aC J (aB XW (Wy _ q_r4) ⟨(ht J),aS⟩)⟩,
      ⟨⟨[⟨92,fun _=>tD cR r4,some 12⟩],_,1,1,J,⟨(fun _=>J),aS⟩,J,J,J,J,J,fun _ sg _ _=>aC J (aU (r:=cR) (ys:=[r4]) (xs:=[.tmp 92]) i9 dy J J J J J ⟨(ht J),aS⟩)⟩,
      aS⟩⟩⟩⟩⟩⟩⟩⟩⟩⟩⟩⟩⟩⟩ (fun sg=>?_)
     refine(show RG _ _ _ _ [dW af 46 ((sg 10).h 0).1 ((sg 10).h 0).2 mk1,bx dU 32 b1 r1.1.2.2.2.2,bx ca 33 b2 r1.1.2.2.2.1,bx rV 143 b3 (aT l5 c4 r1.1.2.2.1.length),bx rV 32 b4 (aT l6 c5 out.length),fE cR 43 l6 c5 out,fE rB 4 l5 c4 r1.1.2.2.1,BU bd,bx (rH ee [(1,aT (ix.h 0).1 (ix.h 0).2 r.rows.length),(2,aT (ix.h 1).1 (ix.h 1).2 r.width.length)]) 96 b r,dW dU 32 (ix.h 0).1 (ix.h 0).2 r.rows,dW ca 3 (ix.h 1).1 (ix.h 1).2 r.width] _ from ?_);refine HW<|bB h fun l7 q_l7 h=>db dy J J J J i9 J J (ht J) (ht J) q_l7 fun l8 c6=>HW<|aq gU J an J (ht J) (QK (ht J))<|aP<|ap<|ax<|au<|zo rfl (lT (cx hx hN) rfl)<|aG rfl<|aP<|aL<|bf<|eE<|eE<|eE<|eE<|eE<|wi<|wi<|eE<|eE<|eE ?_;exact bg (aR (ih (i2+1) l7 l8 c6 ⟨cw hx,h⟩) (bu J))
    ·refine bA<|ap<|ax<|au<|zo rfl (lT (cx hx hN) rfl)<|aG rfl<|aP ?_;exact bg (aR (ih (i2+1) out l6 c5 ⟨cw hx,h⟩) (bu J))
  ·skip
   obtain⟨l9,c7,xs4,l10,c8,xs5,x5,x6⟩:=i1
   obtain rfl:xs4=r1.1.2.1:=congrArg (fun q:List (List ac)×List Bool×Int×(List (List ac))=>q.1) hi
   obtain rfl:xs5=r1.1.2.2.1:=congrArg (fun q:List (List ac)×List Bool×Int×(List (List ac))=>q.2.1) hi
   obtain rfl:x5=r1.1.2.2.2.1:=congrArg (fun q:List (List ac)×List Bool×Int×(List (List ac))=>q.2.2.1) hi
   obtain rfl:x6=r1.1.2.2.2.2:=congrArg (fun q:List (List ac)×List Bool×Int×(List (List ac))=>q.2.2.2) hi
   have h:=cf h (by rw [hj];rfl);refine(show CG _ _ _ [BU bd,bx rV 32 b4 (aT l9 c7 r1.1.2.1.length),fE cR 43 l9 c7 r1.1.2.1,bx rV 143 b3 (aT l10 c8 r1.1.2.2.1.length),fE rB 4 l10 c8 r1.1.2.2.1,bx ca 33 b2 r1.1.2.2.2.1,bx dU 32 b1 r1.1.2.2.2.2,bx (rH ee [(1,aT (ix.h 0).1 (ix.h 0).2 r.rows.length),(2,aT (ix.h 1).1 (ix.h 1).2 r.width.length)]) 96 b r,dW dU 32 (ix.h 0).1 (ix.h 0).2 r.rows,dW ca 3 (ix.h 1).1 (ix.h 1).2 r.width] _ from ?_);refine Gq (G' :=[(0,tV (aO b 0)),(1,tD aF n),(3,bM aF n),(4,tV (aO b1 0)),(5,tV (aO b2 0)),(6,bW (cR) e),(7,bW (cR) e1),(8,tV (aO b3 0)),(9,tV (aO b4 0)),(16,tV (aO b 0)),(17,tV (aO b 0)),(18,tV (aO b 1)),(19,tO dU (ix.h 0).1 (ix.h 0).2 r.rows),(20,bM ca n.A),(21,bN n.A),(22,bM dU e),(23,bW (cR) e),(24,tV (aO b 0)),(25,tV (aO b 0)),(26,tV (aO b 1)),(27,tO dU (ix.h 0).1 (ix.h 0).2 r.rows),(28,bM ca n.B),(29,bN n.B),(30,bM dU e1),(31,bW (cR) e1),(32,bW (cR) e),(33,jr e),(34,bW (cR) e1),(35,jr e1),(36,bN (IntKind.i64.wrap ((e.length:Int)*(e1.length:Int)))),(37,iO (decide ((40000:Int)<(IntKind.i64.wrap ((e.length:Int)*(e1.length:Int)))))),(38,bW (cR) e),(39,jr e),(41,bW (cR) e),(42,bW (cR) e1)]) ?_ ⟨J,J,J,J,J,J,J,J,J,J,J,J,J,J,J,J,J,J,J,J,J,J,J,J,J,J,J,J,J,J,J,J,J,J,J,aS⟩;refine am ?_;refine aD (ae ?_);refine wi<|bj 4 J<|H9<|bj 5 J<|bD<|bf<|bD<|bf<|bD<|bf<|bD<|bf<|cD<|cD<|cD<|cD<|Cb<|ss ?_;cases so h;exact d8 (ts:=[bW (cR) r1.1.2.2.2.2,bN r1.1.2.2.2.1]) (rvs:=[.cell 4 32,.cell 5 33]) J J ⟨bt gU J J J,bt ML J J J,aS⟩ p7 J J

end Go.Proofs.YtfhhakidodmdfaaGreatDoor

