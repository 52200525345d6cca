/- cP of this claim: P7. -/
import Derived.Test.YtfhhakidodmdfaaGreatDoorJgT
import Derived.Test.YtfhhakidodmdfaaGreatDoorJgP6
set_option linter.all false
namespace Go.Proofs.YtfhhakidodmdfaaGreatDoor
open Go
set_option maxRecDepth 100000

theorem Vt(e:bG)(do1:(bo→(List ac)→Option (ac×Int))){R:ac×Int}(h:iD e do1=some R):aX aQ 184 [tD cj e,(dX aQ Tx s5 (fun(x:bo×(List ac))=>do1 x.1 x.2))] (tT [tD af R.1,bM R.2]):=by
 refine aX.of Tryz.func184 J J J fun w0 S0=>aw<|zo J (jm J)<|aW (r:=af) (x:=ig) aH (fun _=>bj _) J fun b=>zo J (cD)<|av<|LJ<|aw<|bQ false af 46<|aW (x:=aR none 0 0) H3 (fun _=>ES) J fun b1=>av<|aw<|aW (r:=af) (x:=ig) aH (fun _=>bj _) J fun b2=>aV 7 J<|av<|aw<|zo J (Kt (cts:=[tV (aN b1 0)]) (caps:=[.tmp 6]) ⟨(ht J),aT⟩) ?_;refine bp J<|av<|aw<|zo J (cD)<|av<|ah<|LK<|ax<|ah<|aw<|zo rfl (df qn lX rfl rfl)<|zo rfl (bB AU rfl rfl)<|zo rfl (jg vP rfl)<|zo rfl (bI hI)<|av ?_;refine HG (Z:=fun bad stack l c=>gm bad stack=some R) (Of:=fun bad stack l c=>[bx af 46 b ig,bx rV 42 b1 (aR l c stack.length),fj af 46 l c stack]) (Gf:=fun bad stack l c=>[(4,tV (aN b 0)),(6,tV (aN b1 0)),(7,bK af ig),(9,bM bad)]) (fun bad stack l c h=>?_) (fun K=>?_)
 ·skip
  refine ax<|ah<|aw<|aG rfl<|zo rfl (s4 rfl)<|av<|cU h rfl (fun h=>?_) (fun h=>?_)
  ·refine aw<|zo J (bB aH J J)<|aG J<|ap aH J an J (ht J) (ht J)<|bp J<|av<|am ?_;refine ae (yY ?_);refine bk 4 J<|ba<|ba ?_;cases so h;exact bR J J ⟨bq aH J J J,aZ J,aT⟩
  ·refine dS<|aw<|zo J (gY H3 (.tail _ (.head _)) (ht J))<|bC h fun e1 q_e1 h=>zo J (cK ki aH (.tail _ (.tail _ (.head _))) (ht J) hI q_e1)<|zo J (gq (r:=af) (i:=(0:Int)) (foff:=0) aH J J bT J (.tail _ (.tail _ (.head _))) q_e1 (ht J))<|ap aH J an J (ht J) (ht J)<|zo J (cD)<|av<|am<|yY<|bk 4 J<|ba<|ba ?_;cases so h;exact bR J J ⟨bq aH J J J,aZ J,aT⟩
 ·skip
  refine be (k:=16) J fun hN=>bL<|hU<|hU<|q9 ?_;refine aU (ub (Z:=fun ls i bad1 stack1 l1 c1=>(e.Nodes.drop i=ls)∧dD do1 ls bad1 stack1=some R) (Of:=fun _ i bad1 stack1 l1 c1=>[bx af 46 b ig,bx rV 42 b1 (aR l1 c1 stack1.length),fj af 46 l1 c1 stack1]) (Gf:=fun _ i bad1 stack1 l1 c1=>[(1,(dX aQ Tx s5 (fun(x:bo×(List ac))=>do1 x.1 x.2))),(4,tV (aN b 0)),(6,tV (aN b1 0)),(7,bK af ig),(8,tC 275 [tV (aN b1 0)]),(9,bM bad1),(16,ca (bJ) e.Nodes),(17,jz e.Nodes),(18,bM (i:Int))]) (fun i bad1 stack1 l1 c1 h=>?_) (fun e2 tl ih i bad1 stack1 l1 c1 h=>?_) e.Nodes 0 (0:Int) HQ none 0 ⟨J,h⟩) (bu J)
  ·obtain⟨hx,h⟩:=h
   refine aB<|aw<|zo J (fM J J)<|av<|ah<|bz (ht J) (du hx)<|bv ?_;refine ai (ai (aO ?_));exact cw (K bad1 stack1 l1 c1 h) (bu J)
  ·obtain⟨hx,h⟩:=h
   refine aB<|aw<|zo J (fM J J)<|av<|ah<|bw (ht J) (di hx)<|dS<|ah<|aA<|aw<|zo J (my vP oW J J J (da hx))<|zo J (bB oW J J)<|aW (r:=bJ) (x:=QM) oW (fun _=>s0 _) J fun b3=>ap oW J an J (ht J) (ht J)<|aV 11 J<|av<|ah<|bC h fun r q_r h=>bC h fun r1 q_r1 h=>?_
   obtain⟨r2,q_r2,h⟩:=bs h
   refine Tg 13 [tc ((dX aQ Tx s5 (fun(x:bo×(List ac))=>do1 x.1 x.2))),tc (tD bJ e2),tc (tC 275 [tV (aN b1 0)]),tc (bK cd e2.Tag),tc (bM e2.Tag),tc (bM r),tc (ca (af) r1.1),tc (tT [tD af r2.1,bM r2.2]),tc (tT [tD af r2.1,bM r2.2]),tc (tD af r2.1),tc (bM r2.2),([11],fun s=>tV (aN ((s.getD 0 pS).h 0).2 0)),tc (Dq)] [false,false,false,false,false,false,true,false,false,false,false,true,true] [([],fun _=>[bx af 46 b ig,bx rV 42 b1 (aR l1 c1 stack1.length),fj af 46 l1 c1 stack1]),([6],fun sg=>[bx rV 42 b1 (aR ((sg 6).h 0).1 ((sg 6).h 0).2 r1.2.length),fj af 46 ((sg 6).h 0).1 ((sg 6).h 0).2 r1.2,bx af 46 b ig]),([11],fun sg=>[bx af 46 ((sg 11).h 0).2 ig,bx af 46 b ig,bx rV 42 b1 (aR l1 c1 stack1.length),fj af 46 l1 c1 stack1]),([6,11],fun sg=>[bx af 46 ((sg 11).h 0).2 ig,bx rV 42 b1 (aR ((sg 6).h 0).1 ((sg 6).h 0).2 r1.2.length),fj af 46 ((sg 6).h 0).1 ((sg 6).h 0).2 r1.2,bx af 46 b ig]),([6,11,12],fun sg=>[bx af 46 ((sg 11).h 0).2 r2.1,bx rV 42 b1 (aR ((sg 6).h 0).1 ((sg 6).h 0).2 r1.2.length),fj af 46 ((sg 6).h 0).1 ((sg 6).h 0).2 r1.2,bx af 46 b ig])] (fun _=>J) mixed J J J J
    ⟨⟨[⟨1,fun _=>(dX aQ Tv Dp (fun(x:bo×(List ac))=>do1 x.1 x.2)),none⟩],_,[[],[6],[11],[6,11]],J,⟨(fun _=>J),aT⟩,J,J,J,J,J,⟨fun sg=>ay J (dl J),fun sg=>ay J (dl J),fun sg=>ay J (dl J),fun sg=>ay J (dl J),aT⟩⟩,
    ⟨⟨[⟨11,fun _=>bK bJ e2,none⟩],_,[[],[6],[11],[6,11]],J,⟨(fun _=>J),aT⟩,J,J,J,J,J,⟨fun sg=>ay J (bB oW J J),fun sg=>ay J (bB oW J J),fun sg=>ay J (bB oW J J),fun sg=>ay J (bB oW J J),aT⟩⟩,
    ⟨⟨[⟨8,fun _=>tC 275 [tV (aN b1 0)],none⟩],_,[[],[11]],J,⟨(fun _=>J),aT⟩,J,J,J,J,J,⟨fun sg=>ay J (dl J),fun sg=>ay J (dl J),aT⟩⟩,
    ⟨⟨[⟨11,fun _=>bK bJ e2,none⟩],_,[[],[11]],J,⟨(fun _=>J),aT⟩,J,J,J,J,J,⟨fun sg=>ay J (df ql iv J J),fun sg=>ay J (df ql iv J J),aT⟩⟩,
    ⟨⟨[⟨26,fun _=>bK cd e2.Tag,some 3⟩],_,[[],[11]],J,⟨(fun _=>J),aT⟩,J,J,J,J,J,⟨fun sg=>ay J (bB cx J J),fun sg=>ay J (bB cx J J),aT⟩⟩,
    ⟨⟨[⟨27,fun _=>tD cd e2.Tag,some 4⟩],_,[[],[11]],J,⟨(fun _=>J),aT⟩,J,J,J,J,J,⟨fun sg=>ay J (aC Pa (DN _ q_r) ⟨(ht J),aT⟩),fun sg=>ay J (aC Pa (DN _ q_r) ⟨(ht J),aT⟩),aT⟩⟩,
    ⟨⟨[⟨25,fun _=>tC 275 [tV (aN b1 0)],some 2⟩,⟨28,fun _=>tD cd r,some 5⟩],_,[([],[6]),([11],[6,11])],J,⟨(fun _=>J),(fun _=>J),aT⟩,J,J,J,J,J,⟨fun sg=>ei J (EffOK.fr2 (EffOK.fr2 (Cs (xs:=[.tmp 28]) (ts:=[tD cd r]) (cts:=[tV (aN b1 0)]) [bx rV 42 b1 (aR l1 c1 stack1.length),fj af 46 l1 c1 stack1] _ J WT (Sa b1 l1 c1 _ _ q_r1) (ht J) ⟨(ht J),aT⟩ (fun _=>J)))),fun sg=>ei J (EffOK.post_imp (post:=fun x__=>(fun(sg:Nat→OI)=>[bx rV 42 b1 (aR ((sg 6).h 0).1 ((sg 6).h 0).2 r1.2.length),fj af 46 ((sg 6).h 0).1 ((sg 6).h 0).2 r1.2,bx af 46 ((sg 11).h 0).2 ig,bx af 46 b ig]) (LY sg 6 x__)) (EffOK.fr3 (EffOK.fr3 (Cs (xs:=[.tmp 28]) (ts:=[tD cd r]) (cts:=[tV (aN b1 0)]) [bx rV 42 b1 (aR l1 c1 stack1.length),fj af 46 l1 c1 stack1] _ J WT (Sa b1 l1 c1 _ _ q_r1) (ht J) ⟨(ht J),aT⟩ (fun _=>J)))) (fun h=>cJ.pick [2,0,1,3] J h)),aT⟩⟩,
    ⟨⟨[⟨23,fun _=>(dX aQ Tv Dp (fun(x:bo×(List ac))=>do1 x.1 x.2)),some 0⟩,⟨24,fun _=>tD bJ e2,some 1⟩,⟨29,fun _=>tD cY r1.1,some 6⟩],_,[[6],[6,11]],J,⟨(fun _=>J),(fun _=>J),(fun _=>J),aT⟩,J,J,J,J,J,⟨fun sg=>ay J (gZ (args:=Tv) (res:=Dp) (f:=(fun(x:bo×(List ac))=>do1 x.1 x.2)) (x:=((e2,r1.1):bo×(List ac))) (ht J) q_r2 ⟨(ht J),(ht J),aT⟩),fun sg=>ay J (gZ (args:=Tv) (res:=Dp) (f:=(fun(x:bo×(List ac))=>do1 x.1 x.2)) (x:=((e2,r1.1):bo×(List ac))) (ht J) q_r2 ⟨(ht J),(ht J),aT⟩),aT⟩⟩,
    ⟨⟨[⟨30,fun _=>tT [tD af r2.1,tD cd r2.2],some 7⟩],_,[[6],[6,11]],J,⟨(fun _=>J),aT⟩,J,J,J,J,J,⟨fun sg=>ay J (dl J),fun sg=>ay J (dl J),aT⟩⟩,
    ⟨⟨[⟨22,fun _=>tT [tD af r2.1,tD cd r2.2],some 8⟩],_,[[6],[6,11]],J,⟨(fun _=>J),aT⟩,J,J,J,J,J,⟨fun sg=>ay J (gp J J),fun sg=>ay J (gp J J),aT⟩⟩,
    ⟨⟨[⟨22,fun _=>tT [tD af r2.1,tD cd r2.2],some 8⟩],_,[[6],[6,11],[6,11,12]],J,⟨(fun _=>J),aT⟩,J,J,J,J,J,⟨fun sg=>ay J (gp J J),fun sg=>ay J (gp J J),fun sg=>ay J (gp J J),aT⟩⟩,
    ⟨⟨[],_,[([],[11]),([6],[6,11])],J,aT,J,J,J,J,J,⟨fun sg=>ei J (yO (r:=af) (x:=ig) aH (fun _=>bj _)),fun sg=>ei J (yO (r:=af) (x:=ig) aH (fun _=>bj _)),aT⟩⟩,
    ⟨⟨[⟨12,fun sg=>tV (aN ((sg 11).h 0).2 0),some 11⟩,⟨31,fun _=>tD af r2.1,some 9⟩],_,[([6,11],[6,11,12])],J,⟨(fun _=>J),(fun _=>J),aT⟩,J,J,J,J,J,⟨fun sg=>ei J (oq aH J (zX an) J (ht J) (ht J)),aT⟩⟩,
    aT⟩⟩⟩⟩⟩⟩⟩⟩⟩⟩⟩⟩⟩ (fun sg=>?_)
   refine(show RG _ _ _ _ [bx af 46 ((sg 11).h 0).2 r2.1,bx rV 42 b1 (aR ((sg 6).h 0).1 ((sg 6).h 0).2 r1.2.length),fj af 46 ((sg 6).h 0).1 ((sg 6).h 0).2 r1.2,bx af 46 b ig] _ from ?_);refine aV 12 J<|bp J<|av<|ah<|aw<|aG J<|zo J (s4 J)<|av<|cU h J (fun h=>?_) (fun h=>?_)
   ·refine aw<|aG J<|bp J<|av<|bv ?_;refine ai (cm J (ai (ai (aO ?_))));refine bD<|bD<|aK ?_;exact cw (K r2.2 r1.2 ((sg 6).h 0).1 ((sg 6).h 0).2 h) (bu J)
   ·refine dS<|au<|zo J (gY H3 (.head _) (ht J))<|zo J (bB aH J J)<|zo J (aS (r:=af) (ys:=[r2.1]) (xs:=[.tmp 37]) ki aH J J J J J ⟨(ht J),aT⟩)<|bF<|bC h fun l2 q_l2 h=>cT aH J J J J ki J J (ht J) (ht J) q_l2 fun l3 c2=>bF<|ap H3 J an J (ht J) (PZ (ht J))<|aP<|aq<|ax<|au<|zo rfl (mz (cM hx hN) rfl)<|aG rfl<|aP<|bD<|bD<|aK ?_;exact bm (aU (ih (i+1) bad1 l2 l3 c2 ⟨cL hx,h⟩) (bu J))

theorem Vs(r:(List ac))(do1:(List (Int×(ac→ac→Option (ac×Int)))))(n:bo)(l:(List ac)){R:ac×Int}(h:iL r do1 n l=some R):aX aQ 185 [tD bJ n,ca (af) l,bK cY r,bK (rT (NV (fun y:(ac→ac→Option (ac×Int))=>y7 aQ qx s5 (fun(x:ac×ac)=>y x.1 x.2)) nN do1)) ()] (tT [tD af R.1,bM R.2]):=by
 refine aX.of Tryz.func185 J J J fun w0 S0=>aw<|zo J (jm J)<|aW (r:=af) (x:=ig) aH (fun _=>bj _) J fun b=>zo J (cD)<|av<|ah<|aw<|zo J (df ql iv J J)<|zo J (bB cx J J)<|av<|aA<|aw<|zo J (nI J)<|bp J<|av<|cU h J (fun h=>?_) (fun h=>?_)
 ·refine aw<|zo J (df Cn qT J J)<|zo J (bB aH J J)<|ap aH J an J (ht J) (ht J)<|zo J (cD)<|av<|am ?_;refine aD (ae ?_);refine bk 6 J ?_;cases so h;exact bR J J ⟨bq aH J J J,aZ J,aT⟩
 ·refine aw<|zo J (nI J)<|bp J<|av<|cU h J (fun h=>?_) (fun h=>?_)
  ·refine aw<|zo J (bB dW J J)<|zo J (df Ag pz J J)<|zo J (bB cx J J)<|bC h fun e q_e h=>zo J (my jh aH J J J q_e)<|zo J (bB aH J J)<|ap aH J an J (ht J) (ht J)<|zo J (cD)<|av<|am ?_;refine aD (ae ?_);refine bk 6 J ?_;cases so h;exact bR J J ⟨bq aH J J J,aZ J,aT⟩
  ·refine bA<|aq<|ax<|ah<|bC h fun e1 q_e1 h=>bC h fun e2 q_e2 h=>bC h fun r1 q_r1 h=>?_
   refine o9 19 [tc (NV (fun y:(ac→ac→Option (ac×Int))=>y7 aQ qx s5 (fun(x:ac×ac)=>y x.1 x.2)) nN do1),tc (bK cd n.Tag),tc (bM n.Tag),tc (y7 aQ qx s5 (fun(x:ac×ac)=>((pw do1 n.Tag).getD (fun _ _=>none)) x.1 x.2)),tc (ca (af) l),tc (bK af e1),tc (tD af e1),tc (ca (af) l),tc (ca (af) l),tc (jz l),tc (bM (IntKind.i64.wrap ((l.length:Int)-(1:Int)))),tc (bK af e2),tc (tD af e2),tc (tT [tD af r1.1,bM r1.2]),tc (tT [tD af r1.1,bM r1.2]),tc (tD af r1.1),tc (bM r1.2),([17],fun s=>tV (aN ((s.getD 0 pS).h 0).2 0)),tc (Dq)] [false,false,false,false,false,false,false,false,false,false,false,false,false,false,false,false,false,true,true] [fun _=>[bx af 46 b ig],fun sg=>[bx af 46 ((sg 17).h 0).2 ig,bx af 46 b ig],fun sg=>[bx af 46 ((sg 17).h 0).2 r1.1,bx af 46 b ig]] J mixed J J J J J
    ⟨⟨[⟨3,fun _=>bK (rT (NV (fun y:(ac→ac→Option (ac×Int))=>y7 aQ qx Dp (fun(x:ac×ac)=>y x.1 x.2)) nN do1)) (),none⟩],_,0,1,J,⟨(fun _=>J),aT⟩,J,J,J,J,J,fun _ sg _ _=>ay J (vn QX (ht J))⟩,
    ⟨⟨[⟨4,fun _=>bK bJ n,none⟩],_,0,1,J,⟨(fun _=>J),aT⟩,J,J,J,J,J,fun _ sg _ _=>ay J (df ql iv J J)⟩,
    ⟨⟨[⟨25,fun _=>bK cd n.Tag,some 1⟩],_,0,1,J,⟨(fun _=>J),aT⟩,J,J,J,J,J,fun _ sg _ _=>ay J (bB cx J J)⟩,
    ⟨⟨[⟨24,fun _=>NV (fun y:(ac→ac→Option (ac×Int))=>y7 aQ qx Dp (fun(x:ac×ac)=>y x.1 x.2)) nN do1,some 0⟩,⟨26,fun _=>tD cd n.Tag,some 2⟩],_,0,1,J,⟨(fun _=>J),(fun _=>J),aT⟩,J,J,J,J,J,fun _ sg _ _=>ay J (Kv (γ:=(fun y:(ac→ac→Option (ac×Int))=>y7 aQ qx Dp (fun(x:ac×ac)=>y x.1 x.2))) (z:=(fun _ _=>none)) xg (d5 kY) Zl (fun _=>TF) (ht J) (oe (ht J)))⟩,
    ⟨⟨[⟨1,fun _=>tD cY l,none⟩],_,0,1,J,⟨(fun _=>J),aT⟩,J,J,J,J,J,fun _ sg _ _=>ay J (dl J)⟩,
    ⟨⟨[⟨28,fun _=>tD cY l,some 4⟩],_,0,1,J,⟨(fun _=>J),aT⟩,J,J,J,J,J,fun _ sg _ _=>ay J (br ki aH J (ht J) hI q_e1)⟩,
    ⟨⟨[⟨29,fun _=>bK af e1,some 5⟩],_,0,1,J,⟨(fun _=>J),aT⟩,J,J,J,J,J,fun _ sg _ _=>ay J (bB aH J J)⟩,
    ⟨⟨[⟨1,fun _=>tD cY l,none⟩],_,0,1,J,⟨(fun _=>J),aT⟩,J,J,J,J,J,fun _ sg _ _=>ay J (dl J)⟩,
    ⟨⟨[⟨1,fun _=>tD cY l,none⟩],_,0,1,J,⟨(fun _=>J),aT⟩,J,J,J,J,J,fun _ sg _ _=>ay J (dl J)⟩,
    ⟨⟨[⟨32,fun _=>tD cY l,some 8⟩],_,0,1,J,⟨(fun _=>J),aT⟩,J,J,J,J,J,fun _ sg _ _=>ay J (jg ki J)⟩,
    ⟨⟨[⟨33,fun _=>tD cd (l.length:Int),some 9⟩],_,0,1,J,⟨(fun _=>J),aT⟩,J,J,J,J,J,fun _ sg _ _=>ay J (iQ (ht J) hI)⟩,
    ⟨⟨[⟨31,fun _=>tD cY l,some 7⟩,⟨34,fun _=>tD cd (IntKind.i64.wrap ((l.length:Int)-(1:Int))),some 10⟩],_,0,1,J,⟨(fun _=>J),(fun _=>J),aT⟩,J,J,J,J,J,fun _ sg _ _=>ay J (my ki aH J J J q_e2)⟩,
    ⟨⟨[⟨35,fun _=>bK af e2,some 11⟩],_,0,1,J,⟨(fun _=>J),aT⟩,J,J,J,J,J,fun _ sg _ _=>ay J (bB aH J J)⟩,
    ⟨⟨[⟨27,fun _=>y7 aQ qx Dp (fun(x:ac×ac)=>((pw do1 n.Tag).getD (fun _ _=>none)) x.1 x.2),some 3⟩,⟨30,fun _=>tD af e1,some 6⟩,⟨36,fun _=>tD af e2,some 12⟩],_,0,1,J,⟨(fun _=>J),(fun _=>J),(fun _=>J),aT⟩,J,J,J,J,J,fun _ sg _ _=>ay J (PO (args:=qx) (res:=Dp) (f:=(fun(x:ac×ac)=>((pw do1 n.Tag).getD (fun _ _=>none)) x.1 x.2)) (x:=((e1,e2):ac×ac)) (ht J) q_r1 ⟨(ht J),(ht J),aT⟩)⟩,
    ⟨⟨[⟨37,fun _=>tT [tD af r1.1,tD cd r1.2],some 13⟩],_,0,1,J,⟨(fun _=>J),aT⟩,J,J,J,J,J,fun _ sg _ _=>ay J (dl J)⟩,
    ⟨⟨[⟨23,fun _=>tT [tD af r1.1,tD cd r1.2],some 14⟩],_,0,1,J,⟨(fun _=>J),aT⟩,J,J,J,J,J,fun _ sg _ _=>ay J (gp J J)⟩,
    ⟨⟨[⟨23,fun _=>tT [tD af r1.1,tD cd r1.2],some 14⟩],_,0,2,J,⟨(fun _=>J),aT⟩,J,J,J,J,J,fun _ sg _ _=>ay J (gp J J)⟩,
    ⟨⟨[],_,J,aT,J,J,J,fun sg=>ei J (yO (r:=af) (x:=ig) aH (fun _=>bj _))⟩,
    ⟨⟨[⟨8,fun sg=>tV (aN ((sg 17).h 0).2 0),some 17⟩,⟨38,fun _=>tD af r1.1,some 15⟩],_,J,⟨(fun _=>J),(fun _=>J),aT⟩,J,J,J,fun sg=>ei J (oq aH J (zX an) J (ht J) (ht J))⟩,
    aT⟩⟩⟩⟩⟩⟩⟩⟩⟩⟩⟩⟩⟩⟩⟩⟩⟩⟩⟩ (fun sg=>?_)
   refine(show RG _ _ _ _ [bx af 46 ((sg 17).h 0).2 r1.1,bx af 46 b ig] _ from ?_);refine aV 8 J<|bp J<|av ?_;refine kw (Z:=fun no=>qp r1 no=some R) (Of:=fun no=>[bx af 46 b ig]) (Gf:=fun no=>[(6,tV (aN b 0)),(8,bK af r1.1),(9,bM no)]) (fun no h=>?_) (fun K=>?_)
   ·skip
    refine aw<|zo J (bB aH J J)<|aG J<|ap aH J an J (ht J) (ht J)<|bp J<|av<|am<|bk 6 J ?_;cases so h;exact bR J J ⟨bq aH J J J,aZ J,aT⟩
   ·skip
    refine aw<|aG J<|zo J (s4 J)<|aG J<|dQ J J (fun hg=>dl J)<|dQ J J (fun hg=>fe (bN J hg) hI)<|zo J (u6 J J)<|av<|cU h J (fun h=>?_) (fun h=>?_)
    ·refine au<|zo J (cD)<|aP ?_;exact cw (K (201:Int) h) (bu J)
    ·refine bA ?_;exact cw (K r1.2 h) (bu J)

theorem I6(e:bG)(r:(List ac)){R:ac×Int}(h:sS e r=some R):aX aQ 107 [tD cj e,ca (af) r] (tT [tD af R.1,bM R.2]):=by
 refine aX.of Tryz.func107 J J J fun w0 S0=>aw<|zo J (jm J)<|zo J (jm J)<|aW (r:=af) (x:=ig) aH (fun _=>bj _) J fun b=>zo J (cD)<|av<|ah<|aw<|zo J (bB j3 J J)<|bC h fun r1 q_r1 h=>zo J (aC Y6 (Nf _ q_r1) ⟨(ht J),aT⟩)<|bp J<|av<|aw<|aG J<|zo J (s4 J)<|av ?_;refine cU h J (fun h=>?_) (fun h=>?_)
 ·refine aw<|zo J (bU (y:=ig) aH qk bj (J))<|aG J<|ap aH J an J (ht J) (ht J)<|bp J<|av<|am<|ae<|bk 4 J ?_;cases so h;exact bR J J ⟨bq aH J J J,aZ J,aT⟩
 ·refine dS<|ah<|aw<|zo J (bB j3 J J)<|bC h fun r2 q_r2 h=>iy W0 (Lb _ q_r2) ⟨(ht J),aT⟩ J fun l c=>zo J (jA gT (.head _) (ht J))<|zo J (bI hI)<|av<|aA<|oN (.head _) fun hN=>bL ?_;refine aU (oz (Z:=fun ls i x=>(r2.drop i=ls)∧oJ e r ls x=some R) (Of:=fun _ i x=>[fj cd 3 l c r2,bx af 46 b x]) (Gf:=fun _ i x=>[(2,bK cj e),(3,bK cY r),(4,tV (aN b 0)),(17,sb l c r2),(18,jz r2),(19,bM (i:Int))]) (fun i x h=>?_) (fun e1 tl ih i x h=>?_) r2 0 ig ⟨J,h⟩) (bu J)
  ·obtain⟨hx,h⟩:=h
   refine aB<|aw<|zo J (fM J J)<|av<|ah<|bz (ht J) (du hx)<|bv ?_;refine ai (ai (aO ?_));refine ax<|aw<|bC h fun r3 q_r3 h=>zo J (aC abF (Vu q_r3) trivial)<|aW (r:=rV) (x:= .map none) QX (fun _=>⟨J,J⟩) J fun b1=>wC (oq (r' :=rT (NV (fun y:(ac→ac→Option (ac×Int))=>y7 aQ qx s5 (fun(x:ac×ac)=>y x.1 x.2)) nN r3)) (x' :=()) (q:=rT (NV (fun y:(ac→ac→Option (ac×Int))=>y7 aQ qx s5 (fun(x:ac×ac)=>y x.1 x.2)) nN r3)) (y:=()) QX J (yq J) J (ht J) (hTT T0 (show aI _ _ _ (NV (fun y:(ac→ac→Option (ac×Int))=>y7 aQ qx s5 (fun(x:ac×ac)=>y x.1 x.2)) nN r3)from(ht J)))) fun _=>?_;refine(show RG _ _ _ _ (bx (rT (NV (fun y:(ac→ac→Option (ac×Int))=>y7 aQ qx s5 (fun(x:ac×ac)=>y x.1 x.2)) nN r3)) 219 b1 ()::_) _ from ?_);refine aV 9 J<|av<|aw<|zo J (bB j3 J J)<|zo J ((show bS _ _ _ _ ((dX aQ Tx s5 (fun(x:bo×(List ac))=>(iL r r3) x.1 x.2)))from iK (cts:=[bK cY r,bK (rT (NV (fun y:(ac→ac→Option (ac×Int))=>y7 aQ qx s5 (fun(x:ac×ac)=>y x.1 x.2)) nN r3)) ()]) (caps:=[.tmp 3,.tmp 9]) abD ⟨(ht J),(ht J),aT⟩ (fun x y h=>Vs _ _ _ _ h)))<|bC h fun r4 q_r4 h=>zo J (aC abE (Vt _ _ q_r4) ⟨(ht J),(ht J),aT⟩)<|zo J (gp J J)<|zo J (gp J J)<|bF<|ap aH J an J (ht J) (ht J)<|bp J<|av<|am<|bk 4 J<|ba ?_;cases so h;exact bR J J ⟨bq aH J J J,aZ J,aT⟩
  ·obtain⟨hx,h⟩:=h
   refine aB<|aw<|zo J (fM J J)<|av<|ah<|bw (ht J) (di hx)<|dS<|ah<|aA<|aw<|zo J (cK gT cx (.head _) (ht J) (ht J) (da hx))<|zo J (gq (r:=cd) (i:=(i:Int)) (foff:=0) cx J J bT J (.head _) (da hx) (ht J))<|bp J<|av<|aw<|aG J<|zo J (bB dW J J)<|zo J (jg jh J) ?_;refine zo J (jq (ht J) (ht J))<|aG J<|bC h fun t q_t h=>gz J J (fun hg=>bB dW J J)<|gz J J (fun hg=>dl J) ?_
   obtain⟨e2,h1t,h0t⟩:=og q_t
   have q_e2g:=fun hb=>(h1t hb).1
   refine gz J J (fun hg=>br jh aH J (bN J hg) (bN J hg) (q_e2g hg))<|gz J J (fun hg=>bO aH J J (bN J hg)) ?_
   obtain⟨r5,h1t⟩:=X4 (fun hb=>(h1t hb).2)
   have q_r5g:=fun hb=>(h1t hb).1
   refine gz J J (fun hg=>aC Pb (DO _ (q_r5g hg)) ⟨(bN J hg),aT⟩)<|gz J J (fun hg=>gh (bN J hg))<|zo J (kG (ht J) (fun hb=>(bN J (Ae hb))) (fun hb=>(h1t hb).2) h0t)<|av<|cU h J (fun h=>?_) (fun h=>?_)
   ·refine aw<|zo J (bU (y:=ig) aH qk bj (J))<|bF<|ap aH J an J (ht J) (ht J)<|zo J (cD)<|av<|am ?_;refine aD (ae (ae (aD (ae ?_))));refine bk 4 J<|ba ?_;cases so h;exact bR J J ⟨bq aH J J J,aZ J,aT⟩
   ·refine bA<|aq<|ax<|au<|zo rfl (mz (cM hx hN) rfl)<|aG rfl<|aP ?_;exact bm (aU (ih (i+1) x ⟨cL hx,h⟩) (bu J))

theorem Vz(a1:ac){R:Bool}(h:vU a1=some R):aX aQ 171 [tD af a1] (iR R):=by
 refine aX.of Tryz.func171 J J J fun w0 S0=>aw<|zo J (jm J)<|zo J (jL)<|av<|ah<|bC h fun r q_r h=>?_
 refine c9 (ts:=[_,_,_,_]) mixed J J
  ⟨eM 1 J J J (bB aH J J),
  ⟨Pv J J (aC SJ (I0 _ q_r) ⟨hB,aT⟩),
  ⟨d8 3 0 4 1 J J J J (DD Qh (ht J) (ht J)),
  ⟨bY 5 2 J J J (u8 J),
  aT⟩⟩⟩⟩ ?_
 refine ax<|am ?_;cases so h;exact aJ J J

theorem OT(e:bG)(r:(List ac)){R:Bool×Int}(h:qq e r=some R):aX aQ 103 [tD cj e,ca (af) r] (tT [iR R.1,bM R.2]):=by
 refine aX.of Tryz.func103 J J J fun w0 S0=>aw<|zo J (jm J)<|zo J (jL)<|zo J (cD)<|av<|aw<|zo J (bB j3 J J)<|aG J<|bC h fun r1 q_r1 h=>zo J (aC SQ (I6 _ _ q_r1) ⟨(ht J),(ht J),aT⟩)<|aG J<|zo J (gp J J)<|zo J (gp J J)<|aW (r:=af) (x:=ig) aH (fun _=>bj _) J fun b=>ap aH J an J (ht J) (ht J)<|aV 6 J<|bp J<|av<|ah ?_;refine au<|zo J (bB aH J J)<|bC h fun r2 q_r2 h=>zo J (aC abM (Vz _ q_r2) ⟨(ht J),aT⟩)<|aG J<|bp J<|bp J<|av<|am ?_;cases so h;exact cC J J J

theorem aah(b:Nat)(ix:OI)(r:cS)(n:aj){R:(List (List ac))×Int}(h:jI r n=some R):cX aQ 52 [tV (aN b 0),tD aF n] (jr b r ix) (fun _:OI=>tT [ca (cY) R.1,bM R.2]) (fun _=>(jr b r ix)):=by
 refine Qu Tryz.func52 J J J fun w0 S0=>?_;refine(show CG _ _ _ [bx (rH ea [(1,aR (ix.h 0).1 (ix.h 0).2 r.rows.length),(2,aR (ix.h 1).1 (ix.h 1).2 r.width.length)]) 96 b r,dT dO 32 (ix.h 0).1 (ix.h 0).2 r.rows,dT cd 3 (ix.h 1).1 (ix.h 1).2 r.width] _ from ?_);refine aw<|zo J (jm J)<|aW (r:=dO) (x:=[]) gF (fun _=>⟨none,0,J,dy _,lF _,.inl J⟩) J fun b1=>aW (r:=cd) (x:=(0:Int)) Md (fun _=>J) J fun b2=>av<|ah<|bC h fun e q_e h=>bC h fun e1 q_e1 h=>?_
 refine c9 (ts:=[_,_,_,_,_,_,_,_,_,_,_,_,_,_,_,_,_,_]) mixed J J
  ⟨eM 0 J J J (dl J),
  ⟨bY 16 0 J J J (dB (ht J)),
  ⟨bY 17 1 J J J (jN 1 qV J J J),
  ⟨bY 18 2 J J J (dd vb J (.tail _ (.tail _ (.head _))) (.tail _ (.tail _ (.tail _ (.head _)))) (ht J)),
  ⟨eM 3 J J J (df ju dN J J),
  ⟨bY 20 4 J J J (bB cx J J),
  ⟨d8 19 3 21 5 J J J J (br oA gF J (kz (ht J)) (ht J) q_e),
  ⟨bY 22 6 J J J (bB gF J J),
  ⟨eM 0 J J J (dl J),
  ⟨bY 24 8 J J J (dB (ht J)),
  ⟨bY 25 9 J J J (jN 1 qV J J J),
  ⟨bY 26 10 J J J (dd vb J (.tail _ (.tail _ (.head _))) (.tail _ (.tail _ (.tail _ (.head _)))) (ht J)),
  ⟨eM 3 J J J (df qm kI J J),
  ⟨bY 28 12 J J J (bB cx J J),
  ⟨d8 27 11 29 13 J J J J (br oA gF J (kz (ht J)) (ht J) q_e1),
  ⟨bY 30 14 J J J (bB gF J J),
  ⟨bY 23 7 J J J (u8 J),
  ⟨bY 31 15 J J J (u8 J),
  aT⟩⟩⟩⟩⟩⟩⟩⟩⟩⟩⟩⟩⟩⟩⟩⟩⟩⟩ ?_
 refine ax<|ah<|aw<|aG rfl<|zo rfl (jg jF rfl)<|aG rfl<|zo rfl (jg jF rfl)<|zo rfl (xN (ht rfl) (ht rfl))<|zo rfl (gv (ht rfl) hI)<|av<|cU h rfl (fun h=>?_) (fun h=>?_)
 ·refine aw<|bF<|ap gF J an J (ht J) jQ<|bF<|ap Md J an J (ht J) hI<|av<|am<|ae<|bD<|bk 4 J<|bk 5 J<|aK<|aK<|aK<|rP ?_;cases so h;exact d6 (ts:=[ca (cY) ([]),bM 3]) (rvs:=[.cell 4 32,.cell 5 33]) J J ⟨bq gF J J J,bq Md J J J,aT⟩ pS J J
 ·refine dS<|aw<|aG J<|zo J (jg jF J)<|bC h fun mk q_mk h=>Ar (Su (r:=rB) (x:=false) H4 J J J Tryz.underlying143 (fun _=>J) (ht J) (ht J) q_mk) J fun i=>bQ false rB 4<|aW (x:=aR none 0 0) NR (fun _=>ES) J fun b3=>bF<|Wj<|ap NR J an J (ht J) (PZ (ht J))<|av<|aw<|bQ false cY 43<|aW (x:=aR none 0 0) gF (fun _=>ES) J fun b4=>av<|ah<|aw ?_;refine aG J<|aG J<|bC h fun it q_it h=>Hz ab7 (Sn _ _ q_it) ⟨(ht J),(ht J),aT⟩ J fun v fp=>av<|aA<|bC h fun r1 q_r1 h=>Zg ?_;refine HF (fun(ix1:Option Nat×Nat×List (List ac)×Option Nat×Nat×List Bool×Int×(List (List ac)))=>[bx rV 32 b4 (aR ix1.1 ix1.2.1 ix1.2.2.1.length),fj cY 43 ix1.1 ix1.2.1 ix1.2.2.1,bx rV 143 b3 (aR ix1.2.2.2.1 ix1.2.2.2.2.1 ix1.2.2.2.2.2.1.length),fj rB 4 ix1.2.2.2.1 ix1.2.2.2.2.1 ix1.2.2.2.2.2.1,bx cd 33 b2 ix1.2.2.2.2.2.2.1,bx dO 32 b1 ix1.2.2.2.2.2.2.2,bx (rH ea [(1,aR (ix.h 0).1 (ix.h 0).2 r.rows.length),(2,aR (ix.h 1).1 (ix.h 1).2 r.width.length)]) 96 b r,dT dO 32 (ix.h 0).1 (ix.h 0).2 r.rows,dT cd 3 (ix.h 1).1 (ix.h 1).2 r.width]) (fun(ix1:Option Nat×Nat×List (List ac)×Option Nat×Nat×List Bool×Int×(List (List ac)))=>(ix1.2.2.1,ix1.2.2.2.2.2.1,ix1.2.2.2.2.2.2.1,ix1.2.2.2.2.2.2.2)) (fun _=> .ret) J (ht J) (none,0,HR,(i.h 0).1,(i.h 0).2,mk,(0:Int),[]) J q_r1 (fun _=>J) J (fun ix1 x r2 h lp rec1 _ _ _=>?_) (fun i1 j hi bd=>⟨fun hj=>?_,fun _ hj=>?_⟩)
  ·obtain⟨l,c,xs,l1,c1,xs1,x1,x2⟩:=ix1
   replace h:gR n x xs xs1 x1 x2=some r2:=h
   refine(show CG _ _ _ [rC lp rec1 .ready none,bx rV 32 b4 (aR l c xs.length),fj cY 43 l c xs,bx rV 143 b3 (aR l1 c1 xs1.length),fj rB 4 l1 c1 xs1,bx cd 33 b2 x1,bx dO 32 b1 x2,bx (rH ea [(1,aR (ix.h 0).1 (ix.h 0).2 r.rows.length),(2,aR (ix.h 1).1 (ix.h 1).2 r.width.length)]) 96 b r,dT dO 32 (ix.h 0).1 (ix.h 0).2 r.rows,dT cd 3 (ix.h 1).1 (ix.h 1).2 r.width] _ from ?_);refine FZ (G' :=[(0,tV (aN b 0)),(1,tD aF n),(3,bK aF n),(4,tV (aN b1 0)),(5,tV (aN b2 0)),(6,ca (cY) e),(7,ca (cY) e1),(8,tV (aN b3 0)),(9,tV (aN b4 0)),(16,tV (aN b 0)),(17,tV (aN b 0)),(18,tV (aN b 1)),(19,tO dO (ix.h 0).1 (ix.h 0).2 r.rows),(20,bK cd n.A),(21,bM n.A),(22,bK dO e),(23,ca (cY) e),(24,tV (aN b 0)),(25,tV (aN b 0)),(26,tV (aN b 1)),(27,tO dO (ix.h 0).1 (ix.h 0).2 r.rows),(28,bK cd n.B),(29,bM n.B),(30,bK dO e1),(31,ca (cY) e1),(32,ca (cY) e),(33,jz e),(34,ca (cY) e1),(35,jz e1),(36,bM (IntKind.i64.wrap ((e.length:Int)*(e1.length:Int)))),(37,iR (decide ((40000:Int)<(IntKind.i64.wrap ((e.length:Int)*(e1.length:Int)))))),(38,ca (cY) e),(39,jz e),(41,ca (cY) e),(42,ca (cY) e1),(44,bM x.1),(45,ca (af) x.2)]) ?_ ⟨J,J,J,J,J,J,J,J,J,J,J,J,J,J,J,J,J,J,J,J,J,J,J,J,J,J,J,J,J,J,J,J,J,J,J,J,J,aT⟩;refine aw<|bp J<|av<|au<|bp J<|aP<|HM<|aA<|aw<|zo J (df uV ol J J)<|zo J (bB j3 J J)<|aG J<|bC h fun r3 q_r3 h=>zo J (aC Xe (OT _ _ q_r3) ⟨(ht J),(ht J),aT⟩)<|aG J<|zo J (gp J J)<|zo J (gp J J)<|bp J<|bp J<|av ?_;refine ah<|aw<|aG J<|zo J (s4 J)<|av<|cU h J (fun h=>?_) (fun h=>?_)
   ·refine aw<|aG J<|yU<|ap gF J an J (ht J) jQ<|yU<|ap Md J an J (ht J) (ht J)<|av<|am ?_;refine ae (aD ?_);refine ek<|ek<|ek<|fh<|fh<|ek<|ek<|ek<|ek<|ek ?_;cases so h;exact BT 0 J (l,c,xs,l1,c1,xs1,r3.2,[]) J J
   ·refine dS<|aw<|aG J<|av<|cU h J (fun h=>?_) (fun h=>?_)
    ·refine aw<|zo J (gY NR (.tail _ (.tail _ (.tail _ (.head _)))) (ht J))<|aG J<|bC h fun e2 q_e2 h=>zo J (cK Tryz.underlying143 H4 (.tail _ (.tail _ (.tail _ (.tail _ (.head _))))) (ht J) (ht J) q_e2)<|yV<|bC h fun st q_st h=>sW H4 J an J q_e2 (so q_st) (ht J) hB<|iH (mE (so q_st)) 57 J<|FN (O' :=[fj rB 4 l1 c1 st,rC lp rec1 .busy none,bx rV 32 b4 (aR l c xs.length),fj cY 43 l c xs,bx rV 143 b3 (aR l1 c1 st.length),bx cd 33 b2 x1,bx dO 32 b1 x2,bx (rH ea [(1,aR (ix.h 0).1 (ix.h 0).2 r.rows.length),(2,aR (ix.h 1).1 (ix.h 1).2 r.width.length)]) 96 b r,dT dO 32 (ix.h 0).1 (ix.h 0).2 r.rows,dT cd 3 (ix.h 1).1 (ix.h 1).2 r.width]) (by rw [mE (so q_st)])<|av<|au<|zo J (gY gF (.tail _ (.tail _ (.head _))) (ht J))<|aG J<|zo J (aS (r:=cY) (ys:=[x.2]) (xs:=[.tmp 61]) jF dW J J J J J ⟨(ht J),aT⟩)<|kq<|bC h fun l2 q_l2 h=>cT dW J J J J jF J J (ht J) (ht J) q_l2 fun l3 c2=>kq<|ap gF J an J (ht J) (PZ (ht J))<|aP<|aq ?_;refine ek<|ek<|ek<|ek<|ek<|QH<|ek<|HJ<|HJ<|ek ?_;cases so h;exact wG (l3,c2,l2,l1,c1,st,x1,x2) J J
    ·refine bA<|aq ?_;cases so h;exact wG (l,c,xs,l1,c1,xs1,x1,x2) J J
  ·skip
   obtain⟨l4,c3,xs2,l5,c4,xs3,x3,x4⟩:=i1
   obtain rfl:xs2=r1.1.2.1:=congrArg (fun q:List (List ac)×List Bool×Int×(List (List ac))=>q.1) hi
   obtain rfl:xs3=r1.1.2.2.1:=congrArg (fun q:List (List ac)×List Bool×Int×(List (List ac))=>q.2.1) hi
   obtain rfl:x3=r1.1.2.2.2.1:=congrArg (fun q:List (List ac)×List Bool×Int×(List (List ac))=>q.2.2.1) hi
   obtain rfl:x4=r1.1.2.2.2.2:=congrArg (fun q:List (List ac)×List Bool×Int×(List (List ac))=>q.2.2.2) hi
   have h:=ct h (by rw [hj];rfl);refine(show AT _ _ _ [BC bd,bx rV 32 b4 (aR l4 c3 r1.1.2.1.length),fj cY 43 l4 c3 r1.1.2.1,bx rV 143 b3 (aR l5 c4 r1.1.2.2.1.length),fj rB 4 l5 c4 r1.1.2.2.1,bx cd 33 b2 r1.1.2.2.2.1,bx dO 32 b1 r1.1.2.2.2.2,bx (rH ea [(1,aR (ix.h 0).1 (ix.h 0).2 r.rows.length),(2,aR (ix.h 1).1 (ix.h 1).2 r.width.length)]) 96 b r,dT dO 32 (ix.h 0).1 (ix.h 0).2 r.rows,dT cd 3 (ix.h 1).1 (ix.h 1).2 r.width] _ from ?_);refine cw (G' :=[(0,tV (aN b 0)),(1,tD aF n),(3,bK aF n),(4,tV (aN b1 0)),(5,tV (aN b2 0)),(6,ca (cY) e),(7,ca (cY) e1),(8,tV (aN b3 0)),(9,tV (aN b4 0)),(16,tV (aN b 0)),(17,tV (aN b 0)),(18,tV (aN b 1)),(19,tO dO (ix.h 0).1 (ix.h 0).2 r.rows),(20,bK cd n.A),(21,bM n.A),(22,bK dO e),(23,ca (cY) e),(24,tV (aN b 0)),(25,tV (aN b 0)),(26,tV (aN b 1)),(27,tO dO (ix.h 0).1 (ix.h 0).2 r.rows),(28,bK cd n.B),(29,bM n.B),(30,bK dO e1),(31,ca (cY) e1),(32,ca (cY) e),(33,jz e),(34,ca (cY) e1),(35,jz e1),(36,bM (IntKind.i64.wrap ((e.length:Int)*(e1.length:Int)))),(37,iR (decide ((40000:Int)<(IntKind.i64.wrap ((e.length:Int)*(e1.length:Int)))))),(38,ca (cY) e),(39,jz e),(41,ca (cY) e),(42,ca (cY) e1)]) ?_ ⟨J,J,J,J,J,J,J,J,J,J,J,J,J,J,J,J,J,J,J,J,J,J,J,J,J,J,J,J,J,J,J,J,J,J,J,aT⟩;refine aq<|ax<|ah<|aw<|aG rfl<|zo rfl (jg jF rfl)<|zo rfl (bI hI)<|av<|aA<|be (k:=64) J fun hN=>bL<|yW<|yW<|yW<|nG<|HB<|HC<|HC<|HB<|Qz<|yW ?_;refine aU (jW (Z:=fun ls i2 out l6 c5=>(e.drop i2=ls)∧gQ r n r1 ls i2 out=some R) (Of:=fun _ i2 out l6 c5=>[bx dO 32 b1 r1.1.2.2.2.2,bx cd 33 b2 r1.1.2.2.2.1,bx rV 143 b3 (aR l5 c4 r1.1.2.2.1.length),bx rV 32 b4 (aR l6 c5 out.length),fj cY 43 l6 c5 out,fj rB 4 l5 c4 r1.1.2.2.1,BC bd,bx (rH ea [(1,aR (ix.h 0).1 (ix.h 0).2 r.rows.length),(2,aR (ix.h 1).1 (ix.h 1).2 r.width.length)]) 96 b r,dT dO 32 (ix.h 0).1 (ix.h 0).2 r.rows,dT cd 3 (ix.h 1).1 (ix.h 1).2 r.width]) (Gf:=fun _ i2 out l6 c5=>[(0,tV (aN b 0)),(3,bK aF n),(4,tV (aN b1 0)),(5,tV (aN b2 0)),(8,tV (aN b3 0)),(9,tV (aN b4 0)),(64,ca (cY) e),(65,jz e),(66,bM (i2:Int))]) (fun i2 out l6 c5 h=>?_) (fun e3 tl ih i2 out l6 c5 h=>?_) e 0 r1.1.2.1 l4 c3 ⟨J,h⟩) (bu J)
   ·obtain⟨hx,h⟩:=h
    refine aB<|aw<|zo J (fM J J)<|av<|ah<|bz (ht J) (du hx)<|bv ?_;refine ai (ai (aO ?_));refine ax<|aw<|zo rfl (gY gF (.tail _ (.tail _ (.tail _ (.head _)))) (ht rfl))<|yV<|jC<|iW 96 rfl<|bF<|ap gF rfl an rfl (ht rfl) (kz (ht rfl))<|hT<|ap Md rfl an rfl (ht rfl) hI<|av<|am<|bD<|bk 4 rfl<|bk 5 rfl<|ba<|ba<|ba<|ba<|cA<|cA<|cA ?_;refine cA<|BS<|rP ?_;cases so h;exact d6 (ts:=[ca (cY) out,bM 0]) (rvs:=[.cell 4 32,.cell 5 33]) J J ⟨bq gF J J J,bq Md J J J,aT⟩ pS J J
   ·obtain⟨hx,h⟩:=h
    refine aB<|aw<|zo J (fM J J)<|av<|ah<|bw (ht J) (di hx)<|dS<|ah<|aA<|aw<|aG J<|zo J (my jF dW J J J (da hx))<|zo J (bB dW J J)<|bp J<|bp J<|av<|aw<|zo J (df M0 Fl J J) ?_;refine zo J (bB H4 J J)<|aG J<|bC h fun t q_t h=>dQ J J (fun hg=>gY NR (.tail _ (.tail _ (.head _))) (ht J))<|dQ J J (fun hg=>dl J) ?_
    obtain⟨e4,h1t,h0t⟩:=og q_t
    have q_e4g:=fun hb=>(h1t hb).1
    refine dQ J J (fun hg=>cK Tryz.underlying143 H4 (.tail _ (.tail _ (.tail _ (.tail _ (.tail _ (.head _)))))) (bN J hg) (bN J hg) (q_e4g hg))<|dQ J J (fun hg=>gq (r:=rB) (i:=(i2:Int)) (foff:=0) H4 J J bT J (.tail _ (.tail _ (.tail _ (.tail _ (.tail _ (.head _)))))) (q_e4g hg) (bN J hg))<|dQ J J (fun hg=>gh (bN J hg))<|zo J (fQ (ht J) (fun hb=>(bN J hb)) (fun hb=>(h1t hb).2) h0t)<|av<|cU h J (fun h=>?_) (fun h=>?_)
    ·refine bC h fun e5 q_e5 h=>bC h fun mk1 q_mk1 h=>bC h fun r4 q_r4 h=>?_
     refine o9 14 [tc (sb l6 c5 out),tc (ca (af) e3),tc (tV (aN b 0)),tc (tV (aN b 0)),tc (tV (aN b 2)),tc (tO cd (ix.h 1).1 (ix.h 1).2 r.width),tc (bK cd n.B),tc (bM n.B),tc (bK cd e5),tc (bM e5),([10],fun s=>tO af ((s.getD 0 pS).h 0).1 ((s.getD 0 pS).h 0).2 mk1),tc (ca (cY) ([e3,mk1])),tc (ca (af) r4),tc (ca (cY) ([r4]))] [false,false,false,false,false,false,false,false,false,false,true,false,false,false] [fun _=>[bx dO 32 b1 r1.1.2.2.2.2,bx cd 33 b2 r1.1.2.2.2.1,bx rV 143 b3 (aR l5 c4 r1.1.2.2.1.length),bx rV 32 b4 (aR l6 c5 out.length),fj cY 43 l6 c5 out,fj rB 4 l5 c4 r1.1.2.2.1,BC bd,bx (rH ea [(1,aR (ix.h 0).1 (ix.h 0).2 r.rows.length),(2,aR (ix.h 1).1 (ix.h 1).2 r.width.length)]) 96 b r,dT dO 32 (ix.h 0).1 (ix.h 0).2 r.rows,dT cd 3 (ix.h 1).1 (ix.h 1).2 r.width],fun sg=>[dT af 46 ((sg 10).h 0).1 ((sg 10).h 0).2 mk1,bx dO 32 b1 r1.1.2.2.2.2,bx cd 33 b2 r1.1.2.2.2.1,bx rV 143 b3 (aR l5 c4 r1.1.2.2.1.length),bx rV 32 b4 (aR l6 c5 out.length),fj cY 43 l6 c5 out,fj rB 4 l5 c4 r1.1.2.2.1,BC bd,bx (rH ea [(1,aR (ix.h 0).1 (ix.h 0).2 r.rows.length),(2,aR (ix.h 1).1 (ix.h 1).2 r.width.length)]) 96 b r,dT dO 32 (ix.h 0).1 (ix.h 0).2 r.rows,dT cd 3 (ix.h 1).1 (ix.h 1).2 r.width]] J mixed J J J J J
      ⟨⟨[⟨9,fun _=>tV (aN b4 0),none⟩],_,0,1,J,⟨(fun _=>J),aT⟩,J,J,J,J,J,F6 (fun sg=>ay J (gY gF (.tail _ (.tail _ (.tail _ (.head _)))) (ht J))) (zS (fun sg=>ay J (gY gF (.tail _ (.tail _ (.tail _ (.tail _ (.head _))))) (ht J))))⟩,
      ⟨⟨[⟨15,fun _=>tD cY e3,none⟩],_,0,1,J,⟨(fun _=>J),aT⟩,J,J,J,J,J,fun _ sg _ _=>ay J (dl J)⟩,
      ⟨⟨[⟨0,fun _=>tV (aN b 0),none⟩],_,0,0,J,⟨(fun _=>J),aT⟩,J,J,J,J,J,fun _ sg _ _=>ay J (dl J)⟩,
      ⟨⟨[⟨82,fun _=>tV (aN b 0),some 2⟩],_,0,0,J,⟨(fun _=>J),aT⟩,J,J,J,J,J,fun _ sg _ _=>ay J (dB (ht J))⟩,
      ⟨⟨[⟨83,fun _=>tV (aN b 0),some 3⟩],_,0,0,J,⟨(fun _=>J),aT⟩,J,J,J,J,J,fun _ sg _ _=>ay J (jN 2 MZ J J J)⟩,
      ⟨⟨[⟨84,fun _=>tV (aN b 2),some 4⟩],_,0,0,J,⟨(fun _=>J),aT⟩,J,J,J,J,J,zS (fun sg=>ay J (dd d9 J (.tail _ (.tail _ (.tail _ (.tail _ (.tail _ (.tail _ (.tail _ (.head _)))))))) (.tail _ (.tail _ (.tail _ (.tail _ (.tail _ (.tail _ (.tail _ (.tail _ (.tail _ (.head _)))))))))) (ht J)))⟩,
      ⟨⟨[⟨3,fun _=>bK aF n,none⟩],_,0,0,J,⟨(fun _=>J),aT⟩,J,J,J,J,J,fun _ sg _ _=>ay J (df qm kI J J)⟩,
      ⟨⟨[⟨86,fun _=>bK cd n.B,some 6⟩],_,0,0,J,⟨(fun _=>J),aT⟩,J,J,J,J,J,fun _ sg _ _=>ay J (bB cx J J)⟩,
      ⟨⟨[⟨85,fun _=>tO cd (ix.h 1).1 (ix.h 1).2 r.width,some 5⟩,⟨87,fun _=>tD cd n.B,some 7⟩],_,0,0,J,⟨(fun _=>J),(fun _=>J),aT⟩,J,J,J,J,J,fun _ sg _ _=>ay J (br gT cx J (kz (ht J)) (ht J) q_e5)⟩,
      ⟨⟨[⟨88,fun _=>bK cd e5,some 8⟩],_,0,0,J,⟨(fun _=>J),aT⟩,J,J,J,J,J,fun _ sg _ _=>ay J (bB cx J J)⟩,
      ⟨⟨[⟨89,fun _=>tD cd e5,some 9⟩],_,J,⟨(fun _=>J),aT⟩,J,J,J,fun sg=>ei J (Qi (r:=af) (x:=ig) aH J J J jh (fun _=>bj _) (ht J) (ht J) q_mk1)⟩,
      ⟨⟨[⟨81,fun _=>tD cY e3,some 1⟩,⟨90,fun sg=>tO af ((sg 10).h 0).1 ((sg 10).h 0).2 mk1,some 10⟩],_,1,1,J,⟨(fun _=>J),(fun _=>J),aT⟩,J,J,J,J,J,fun _ sg _ _=>ay J (aS (r:=cY) (ys:=[e3,mk1]) (xs:=[.tmp 81,.tmp 90]) jF dW J J J J J ⟨(ht J),(kz (ht J)),aT⟩)⟩,
      ⟨⟨[⟨91,fun _=>tD dO ([e3,mk1]),some 11⟩],_,1,1,J,⟨(fun _=>J),aT⟩,J,J,J,J,J,fun _ sg _ _=>ay J (aC Xd (VS _ q_r4) ⟨(ht J),aT⟩)⟩,
      ⟨⟨[⟨92,fun _=>tD cY r4,some 12⟩],_,1,1,J,⟨(fun _=>J),aT⟩,J,J,J,J,J,fun _ sg _ _=>ay J (aS (r:=cY) (ys:=[r4]) (xs:=[.tmp 92]) jF dW J J J J J ⟨(ht J),aT⟩)⟩,
      aT⟩⟩⟩⟩⟩⟩⟩⟩⟩⟩⟩⟩⟩⟩ (fun sg=>?_)
     refine(show RG _ _ _ _ [dT af 46 ((sg 10).h 0).1 ((sg 10).h 0).2 mk1,bx dO 32 b1 r1.1.2.2.2.2,bx cd 33 b2 r1.1.2.2.2.1,bx rV 143 b3 (aR l5 c4 r1.1.2.2.1.length),bx rV 32 b4 (aR l6 c5 out.length),fj cY 43 l6 c5 out,fj rB 4 l5 c4 r1.1.2.2.1,BC bd,bx (rH ea [(1,aR (ix.h 0).1 (ix.h 0).2 r.rows.length),(2,aR (ix.h 1).1 (ix.h 1).2 r.width.length)]) 96 b r,dT dO 32 (ix.h 0).1 (ix.h 0).2 r.rows,dT cd 3 (ix.h 1).1 (ix.h 1).2 r.width] _ from ?_);refine Hx<|bC h fun l7 q_l7 h=>cT dW J J J J jF J J (ht J) (ht J) q_l7 fun l8 c6=>Hx<|ap gF J an J (ht J) (PZ (ht J))<|aP<|aq<|ax<|au<|zo rfl (mz (cM hx hN) rfl)<|aG rfl<|aP<|aK<|ba<|ek<|ek<|ek<|ek<|ek<|vI<|vI<|ek<|ek<|ek ?_;exact bm (aU (ih (i2+1) l7 l8 c6 ⟨cL hx,h⟩) (bu J))
    ·refine bA<|aq<|ax<|au<|zo rfl (mz (cM hx hN) rfl)<|aG rfl<|aP ?_;exact bm (aU (ih (i2+1) out l6 c5 ⟨cL hx,h⟩) (bu J))
  ·skip
   obtain⟨l9,c7,xs4,l10,c8,xs5,x5,x6⟩:=i1
   obtain rfl:xs4=r1.1.2.1:=congrArg (fun q:List (List ac)×List Bool×Int×(List (List ac))=>q.1) hi
   obtain rfl:xs5=r1.1.2.2.1:=congrArg (fun q:List (List ac)×List Bool×Int×(List (List ac))=>q.2.1) hi
   obtain rfl:x5=r1.1.2.2.2.1:=congrArg (fun q:List (List ac)×List Bool×Int×(List (List ac))=>q.2.2.1) hi
   obtain rfl:x6=r1.1.2.2.2.2:=congrArg (fun q:List (List ac)×List Bool×Int×(List (List ac))=>q.2.2.2) hi
   have h:=cf h (by rw [hj];rfl);refine(show CG _ _ _ [BC bd,bx rV 32 b4 (aR l9 c7 r1.1.2.1.length),fj cY 43 l9 c7 r1.1.2.1,bx rV 143 b3 (aR l10 c8 r1.1.2.2.1.length),fj rB 4 l10 c8 r1.1.2.2.1,bx cd 33 b2 r1.1.2.2.2.1,bx dO 32 b1 r1.1.2.2.2.2,bx (rH ea [(1,aR (ix.h 0).1 (ix.h 0).2 r.rows.length),(2,aR (ix.h 1).1 (ix.h 1).2 r.width.length)]) 96 b r,dT dO 32 (ix.h 0).1 (ix.h 0).2 r.rows,dT cd 3 (ix.h 1).1 (ix.h 1).2 r.width] _ from ?_);refine FZ (G' :=[(0,tV (aN b 0)),(1,tD aF n),(3,bK aF n),(4,tV (aN b1 0)),(5,tV (aN b2 0)),(6,ca (cY) e),(7,ca (cY) e1),(8,tV (aN b3 0)),(9,tV (aN b4 0)),(16,tV (aN b 0)),(17,tV (aN b 0)),(18,tV (aN b 1)),(19,tO dO (ix.h 0).1 (ix.h 0).2 r.rows),(20,bK cd n.A),(21,bM n.A),(22,bK dO e),(23,ca (cY) e),(24,tV (aN b 0)),(25,tV (aN b 0)),(26,tV (aN b 1)),(27,tO dO (ix.h 0).1 (ix.h 0).2 r.rows),(28,bK cd n.B),(29,bM n.B),(30,bK dO e1),(31,ca (cY) e1),(32,ca (cY) e),(33,jz e),(34,ca (cY) e1),(35,jz e1),(36,bM (IntKind.i64.wrap ((e.length:Int)*(e1.length:Int)))),(37,iR (decide ((40000:Int)<(IntKind.i64.wrap ((e.length:Int)*(e1.length:Int)))))),(38,ca (cY) e),(39,jz e),(41,ca (cY) e),(42,ca (cY) e1)]) ?_ ⟨J,J,J,J,J,J,J,J,J,J,J,J,J,J,J,J,J,J,J,J,J,J,J,J,J,J,J,J,J,J,J,J,J,J,J,aT⟩;refine am ?_;refine aD (ae ?_);refine vI<|bk 4 J<|HK<|bk 5 J<|bD<|ba<|bD<|ba<|bD<|ba<|bD<|ba<|cA<|cA<|cA<|cA<|BS<|rP ?_;cases so h;exact d6 (ts:=[ca (cY) r1.1.2.2.2.2,bM r1.1.2.2.2.1]) (rvs:=[.cell 4 32,.cell 5 33]) J J ⟨bq gF J J J,bq Md J J J,aT⟩ pS J J

end Go.Proofs.YtfhhakidodmdfaaGreatDoor

