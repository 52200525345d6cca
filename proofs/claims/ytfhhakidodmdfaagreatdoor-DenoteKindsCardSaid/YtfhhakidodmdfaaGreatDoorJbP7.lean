/- db of this claim: P7. -/
import Derived.Test.YtfhhakidodmdfaaGreatDoorJbT
import Derived.Test.YtfhhakidodmdfaaGreatDoorJbP6
set_option linter.all false
namespace Go.Proofs.YtfhhakidodmdfaaGreatDoor
open Go
set_option maxRecDepth 100000

theorem U6(e:br)(do1:(aX→(List ac)→Option (ac×Int))){R:ac×Int}(h:iC e do1=some R):aU aO 184 [tD bT e,(dn aO S8 sK (fun(x:aX×(List ac))=>do1 x.1 x.2))] (tT [tD af R.1,bM R.2]):=by
 refine aU.of Tryz.func184 J J J fun w0 S0=>au<|zo J (je J)<|aZ (r:=af) (x:=ie) aH (fun _=>bh _) J fun b=>zo J (cw)<|aq<|Lg<|au<|bQ false af 46<|aZ (x:=aR none 0 0) Hz (fun _=>Et) J fun b1=>aq<|au<|aZ (r:=af) (x:=ie) aH (fun _=>bh _) J fun b2=>aW 7 J<|aq<|au<|zo J (JR (cts:=[tV (aP b1 0)]) (caps:=[.tmp 6]) ⟨(ht J),aT⟩) ?_;refine bp J<|aq<|au<|zo J (cw)<|aq<|ah<|Lh<|aw<|ah<|au<|zo rfl (cW ow ke rfl rfl)<|zo rfl (bB yz rfl rfl)<|zo rfl (iM uq rfl)<|zo rfl (bD hI)<|aq ?_;refine Hh (Z:=fun bad stack l c=>gk bad stack=some R) (Of:=fun bad stack l c=>[bx af 46 b ie,bx rV 42 b1 (aR l c stack.length),fx af 46 l c stack]) (Gf:=fun bad stack l c=>[(4,tV (aP b 0)),(6,tV (aP b1 0)),(7,bO af ie),(9,bM bad)]) (fun bad stack l c h=>?_) (fun K=>?_)
 ·skip
  refine aw<|ah<|au<|aF rfl<|zo rfl (tJ rfl)<|aq<|c9 h rfl (fun h=>?_) (fun h=>?_)
  ·refine au<|zo J (bB aH J J)<|aF J<|ax aH J an J (ht J) (ht J)<|bp J<|aq<|ak ?_;refine ae (yp ?_);refine bn 4 J<|bm<|bm ?_;cases so h;exact bR J J ⟨bt aH J J J,bc J,aT⟩
  ·refine dS<|au<|zo J (hM Hz (.tail _ (.head _)) (ht J))<|bC h fun e1 q_e1 h=>zo J (cH j7 aH (.tail _ (.tail _ (.head _))) (ht J) hI q_e1)<|zo J (gn (r:=af) (i:=(0:Int)) (foff:=0) aH J J bS J (.tail _ (.tail _ (.head _))) q_e1 (ht J))<|ax aH J an J (ht J) (ht J)<|zo J (cw)<|aq<|ak<|yp<|bn 4 J<|bm<|bm ?_;cases so h;exact bR J J ⟨bt aH J J J,bc J,aT⟩
 ·skip
  refine ba (k:=16) J fun hN=>bI<|jb<|jb<|qM ?_;refine aS (tE (Z:=fun ls i bad1 stack1 l1 c1=>(e.Nodes.drop i=ls)∧dG do1 ls bad1 stack1=some R) (Of:=fun _ i bad1 stack1 l1 c1=>[bx af 46 b ie,bx rV 42 b1 (aR l1 c1 stack1.length),fx af 46 l1 c1 stack1]) (Gf:=fun _ i bad1 stack1 l1 c1=>[(1,(dn aO S8 sK (fun(x:aX×(List ac))=>do1 x.1 x.2))),(4,tV (aP b 0)),(6,tV (aP b1 0)),(7,bO af ie),(8,tC 275 [tV (aP b1 0)]),(9,bM bad1),(16,ca (bG) e.Nodes),(17,jk e.Nodes),(18,bM (i:Int))]) (fun i bad1 stack1 l1 c1 h=>?_) (fun e2 tl ih i bad1 stack1 l1 c1 h=>?_) e.Nodes 0 (0:Int) Hq none 0 ⟨J,h⟩) (bv J)
  ·obtain⟨hx,h⟩:=h
   refine aC<|au<|zo J (fD J J)<|aq<|ah<|bz (ht J) (di hx)<|bu ?_;refine ai (ai (aN ?_));exact cO (K bad1 stack1 l1 c1 h) (bv J)
  ·obtain⟨hx,h⟩:=h
   refine aC<|au<|zo J (fD J J)<|aq<|ah<|bw (ht J) (dg hx)<|dS<|ah<|ay<|au<|zo J (lX uq oB J J J (cS hx))<|zo J (bB oB J J)<|aZ (r:=bG) (x:=Qq) oB (fun _=>uJ _) J fun b3=>ax oB J an J (ht J) (ht J)<|aW 11 J<|aq<|ah<|bC h fun r q_r h=>bC h fun r1 q_r1 h=>?_
   obtain⟨r2,q_r2,h⟩:=bs h
   refine SR 13 [tc ((dn aO S8 sK (fun(x:aX×(List ac))=>do1 x.1 x.2))),tc (tD bG e2),tc (tC 275 [tV (aP b1 0)]),tc (bO bX e2.Tag),tc (bM e2.Tag),tc (bM r),tc (ca (af) r1.1),tc (tT [tD af r2.1,bM r2.2]),tc (tT [tD af r2.1,bM r2.2]),tc (tD af r2.1),tc (bM r2.2),([11],fun s=>tV (aP ((s.getD 0 pE).h 0).2 0)),tc (C3)] [false,false,false,false,false,false,true,false,false,false,false,true,true] [([],fun _=>[bx af 46 b ie,bx rV 42 b1 (aR l1 c1 stack1.length),fx af 46 l1 c1 stack1]),([6],fun sg=>[bx rV 42 b1 (aR ((sg 6).h 0).1 ((sg 6).h 0).2 r1.2.length),fx af 46 ((sg 6).h 0).1 ((sg 6).h 0).2 r1.2,bx af 46 b ie]),([11],fun sg=>[bx af 46 ((sg 11).h 0).2 ie,bx af 46 b ie,bx rV 42 b1 (aR l1 c1 stack1.length),fx af 46 l1 c1 stack1]),([6,11],fun sg=>[bx af 46 ((sg 11).h 0).2 ie,bx rV 42 b1 (aR ((sg 6).h 0).1 ((sg 6).h 0).2 r1.2.length),fx af 46 ((sg 6).h 0).1 ((sg 6).h 0).2 r1.2,bx af 46 b ie]),([6,11,12],fun sg=>[bx af 46 ((sg 11).h 0).2 r2.1,bx rV 42 b1 (aR ((sg 6).h 0).1 ((sg 6).h 0).2 r1.2.length),fx af 46 ((sg 6).h 0).1 ((sg 6).h 0).2 r1.2,bx af 46 b ie])] (fun _=>J) mixed J J J J
    ⟨⟨[⟨1,fun _=>(dn aO S7 C1 (fun(x:aX×(List ac))=>do1 x.1 x.2)),none⟩],_,[[],[6],[11],[6,11]],J,⟨(fun _=>J),aT⟩,J,J,J,J,J,⟨fun sg=>aB J (dA J),fun sg=>aB J (dA J),fun sg=>aB J (dA J),fun sg=>aB J (dA J),aT⟩⟩,
    ⟨⟨[⟨11,fun _=>bO bG e2,none⟩],_,[[],[6],[11],[6,11]],J,⟨(fun _=>J),aT⟩,J,J,J,J,J,⟨fun sg=>aB J (bB oB J J),fun sg=>aB J (bB oB J J),fun sg=>aB J (bB oB J J),fun sg=>aB J (bB oB J J),aT⟩⟩,
    ⟨⟨[⟨8,fun _=>tC 275 [tV (aP b1 0)],none⟩],_,[[],[11]],J,⟨(fun _=>J),aT⟩,J,J,J,J,J,⟨fun sg=>aB J (dA J),fun sg=>aB J (dA J),aT⟩⟩,
    ⟨⟨[⟨11,fun _=>bO bG e2,none⟩],_,[[],[11]],J,⟨(fun _=>J),aT⟩,J,J,J,J,J,⟨fun sg=>aB J (cW pb gU J J),fun sg=>aB J (cW pb gU J J),aT⟩⟩,
    ⟨⟨[⟨26,fun _=>bO bX e2.Tag,some 3⟩],_,[[],[11]],J,⟨(fun _=>J),aT⟩,J,J,J,J,J,⟨fun sg=>aB J (bB cr J J),fun sg=>aB J (bB cr J J),aT⟩⟩,
    ⟨⟨[⟨27,fun _=>tD bX e2.Tag,some 4⟩],_,[[],[11]],J,⟨(fun _=>J),aT⟩,J,J,J,J,J,⟨fun sg=>aB J (aD OH (Dq _ q_r) ⟨(ht J),aT⟩),fun sg=>aB J (aD OH (Dq _ q_r) ⟨(ht J),aT⟩),aT⟩⟩,
    ⟨⟨[⟨25,fun _=>tC 275 [tV (aP b1 0)],some 2⟩,⟨28,fun _=>tD bX r,some 5⟩],_,[([],[6]),([11],[6,11])],J,⟨(fun _=>J),(fun _=>J),aT⟩,J,J,J,J,J,⟨fun sg=>eC J (EffOK.fr2 (EffOK.fr2 (B2 (xs:=[.tmp 28]) (ts:=[tD bX r]) (cts:=[tV (aP b1 0)]) [bx rV 42 b1 (aR l1 c1 stack1.length),fx af 46 l1 c1 stack1] _ J Wx (RP b1 l1 c1 _ _ q_r1) (ht J) ⟨(ht J),aT⟩ (fun _=>J)))),fun sg=>eC J (EffOK.post_imp (post:=fun x__=>(fun(sg:Nat→OI)=>[bx rV 42 b1 (aR ((sg 6).h 0).1 ((sg 6).h 0).2 r1.2.length),fx af 46 ((sg 6).h 0).1 ((sg 6).h 0).2 r1.2,bx af 46 ((sg 11).h 0).2 ie,bx af 46 b ie]) (Lv sg 6 x__)) (EffOK.fr3 (EffOK.fr3 (B2 (xs:=[.tmp 28]) (ts:=[tD bX r]) (cts:=[tV (aP b1 0)]) [bx rV 42 b1 (aR l1 c1 stack1.length),fx af 46 l1 c1 stack1] _ J Wx (RP b1 l1 c1 _ _ q_r1) (ht J) ⟨(ht J),aT⟩ (fun _=>J)))) (fun h=>cG.pick [2,0,1,3] J h)),aT⟩⟩,
    ⟨⟨[⟨23,fun _=>(dn aO S7 C1 (fun(x:aX×(List ac))=>do1 x.1 x.2)),some 0⟩,⟨24,fun _=>tD bG e2,some 1⟩,⟨29,fun _=>tD dj r1.1,some 6⟩],_,[[6],[6,11]],J,⟨(fun _=>J),(fun _=>J),(fun _=>J),aT⟩,J,J,J,J,J,⟨fun sg=>aB J (fJ (args:=S7) (res:=C1) (f:=(fun(x:aX×(List ac))=>do1 x.1 x.2)) (x:=((e2,r1.1):aX×(List ac))) (ht J) q_r2 ⟨(ht J),(ht J),aT⟩),fun sg=>aB J (fJ (args:=S7) (res:=C1) (f:=(fun(x:aX×(List ac))=>do1 x.1 x.2)) (x:=((e2,r1.1):aX×(List ac))) (ht J) q_r2 ⟨(ht J),(ht J),aT⟩),aT⟩⟩,
    ⟨⟨[⟨30,fun _=>tT [tD af r2.1,tD bX r2.2],some 7⟩],_,[[6],[6,11]],J,⟨(fun _=>J),aT⟩,J,J,J,J,J,⟨fun sg=>aB J (dA J),fun sg=>aB J (dA J),aT⟩⟩,
    ⟨⟨[⟨22,fun _=>tT [tD af r2.1,tD bX r2.2],some 8⟩],_,[[6],[6,11]],J,⟨(fun _=>J),aT⟩,J,J,J,J,J,⟨fun sg=>aB J (hY J J),fun sg=>aB J (hY J J),aT⟩⟩,
    ⟨⟨[⟨22,fun _=>tT [tD af r2.1,tD bX r2.2],some 8⟩],_,[[6],[6,11],[6,11,12]],J,⟨(fun _=>J),aT⟩,J,J,J,J,J,⟨fun sg=>aB J (hY J J),fun sg=>aB J (hY J J),fun sg=>aB J (hY J J),aT⟩⟩,
    ⟨⟨[],_,[([],[11]),([6],[6,11])],J,aT,J,J,J,J,J,⟨fun sg=>eC J (ye (r:=af) (x:=ie) aH (fun _=>bh _)),fun sg=>eC J (ye (r:=af) (x:=ie) aH (fun _=>bh _)),aT⟩⟩,
    ⟨⟨[⟨12,fun sg=>tV (aP ((sg 11).h 0).2 0),some 11⟩,⟨31,fun _=>tD af r2.1,some 9⟩],_,[([6,11],[6,11,12])],J,⟨(fun _=>J),(fun _=>J),aT⟩,J,J,J,J,J,⟨fun sg=>eC J (mI aH J (zq an) J (ht J) (ht J)),aT⟩⟩,
    aT⟩⟩⟩⟩⟩⟩⟩⟩⟩⟩⟩⟩⟩ (fun sg=>?_)
   refine(show RG _ _ _ _ [bx af 46 ((sg 11).h 0).2 r2.1,bx rV 42 b1 (aR ((sg 6).h 0).1 ((sg 6).h 0).2 r1.2.length),fx af 46 ((sg 6).h 0).1 ((sg 6).h 0).2 r1.2,bx af 46 b ie] _ from ?_);refine aW 12 J<|bp J<|aq<|ah<|au<|aF J<|zo J (tJ J)<|aq<|c9 h J (fun h=>?_) (fun h=>?_)
   ·refine au<|aF J<|bp J<|aq<|bu ?_;refine ai (ci J (ai (ai (aN ?_))));refine bF<|bF<|aK ?_;exact cO (K r2.2 r1.2 ((sg 6).h 0).1 ((sg 6).h 0).2 h) (bv J)
   ·refine dS<|av<|zo J (hM Hz (.head _) (ht J))<|zo J (bB aH J J)<|zo J (aV (r:=af) (ys:=[r2.1]) (xs:=[.tmp 37]) j7 aH J J J J J ⟨(ht J),aT⟩)<|bL<|bC h fun l2 q_l2 h=>cV aH J J J J j7 J J (ht J) (ht J) q_l2 fun l3 c2=>bL<|ax Hz J an J (ht J) (Ru (ht J))<|aQ<|ap<|aw<|av<|zo rfl (lY (cA hx hN) rfl)<|aF rfl<|aQ<|bF<|bF<|aK ?_;exact bf (aS (ih (i+1) bad1 l2 l3 c2 ⟨cz hx,h⟩) (bv J))

theorem U5(r:(List ac))(do1:(List (Int×(ac→ac→Option (ac×Int)))))(n:aX)(l:(List ac)){R:ac×Int}(h:iI r do1 n l=some R):aU aO 185 [tD bG n,ca (af) l,bO dj r,bO (rT (Nu (fun y:(ac→ac→Option (ac×Int))=>yA aO qh sK (fun(x:ac×ac)=>y x.1 x.2)) nu do1)) ()] (tT [tD af R.1,bM R.2]):=by
 refine aU.of Tryz.func185 J J J fun w0 S0=>au<|zo J (je J)<|aZ (r:=af) (x:=ie) aH (fun _=>bh _) J fun b=>zo J (cw)<|aq<|ah<|au<|zo J (cW pb gU J J)<|zo J (bB cr J J)<|aq<|ay<|au<|zo J (np J)<|bp J<|aq<|c9 h J (fun h=>?_) (fun h=>?_)
 ·refine au<|zo J (cW BW qD J J)<|zo J (bB aH J J)<|ax aH J an J (ht J) (ht J)<|zo J (cw)<|aq<|ak ?_;refine aA (ae ?_);refine bn 6 J ?_;cases so h;exact bR J J ⟨bt aH J J J,bc J,aT⟩
 ·refine au<|zo J (np J)<|bp J<|aq<|c9 h J (fun h=>?_) (fun h=>?_)
  ·refine au<|zo J (bB d3 J J)<|zo J (cW zG o9 J J)<|zo J (bB cr J J)<|bC h fun e q_e h=>zo J (lX iK aH J J J q_e)<|zo J (bB aH J J)<|ax aH J an J (ht J) (ht J)<|zo J (cw)<|aq<|ak ?_;refine aA (ae ?_);refine bn 6 J ?_;cases so h;exact bR J J ⟨bt aH J J J,bc J,aT⟩
  ·refine bA<|ap<|aw<|ah<|bC h fun e1 q_e1 h=>bC h fun e2 q_e2 h=>bC h fun r1 q_r1 h=>?_
   refine oM 19 [tc (Nu (fun y:(ac→ac→Option (ac×Int))=>yA aO qh sK (fun(x:ac×ac)=>y x.1 x.2)) nu do1),tc (bO bX n.Tag),tc (bM n.Tag),tc (yA aO qh sK (fun(x:ac×ac)=>((o6 do1 n.Tag).getD (fun _ _=>none)) x.1 x.2)),tc (ca (af) l),tc (bO af e1),tc (tD af e1),tc (ca (af) l),tc (ca (af) l),tc (jk l),tc (bM (IntKind.i64.wrap ((l.length:Int)-(1:Int)))),tc (bO af e2),tc (tD af e2),tc (tT [tD af r1.1,bM r1.2]),tc (tT [tD af r1.1,bM r1.2]),tc (tD af r1.1),tc (bM r1.2),([17],fun s=>tV (aP ((s.getD 0 pE).h 0).2 0)),tc (C3)] [false,false,false,false,false,false,false,false,false,false,false,false,false,false,false,false,false,true,true] [fun _=>[bx af 46 b ie],fun sg=>[bx af 46 ((sg 17).h 0).2 ie,bx af 46 b ie],fun sg=>[bx af 46 ((sg 17).h 0).2 r1.1,bx af 46 b ie]] J mixed J J J J J
    ⟨⟨[⟨3,fun _=>bO (rT (Nu (fun y:(ac→ac→Option (ac×Int))=>yA aO qh C1 (fun(x:ac×ac)=>y x.1 x.2)) nu do1)) (),none⟩],_,0,1,J,⟨(fun _=>J),aT⟩,J,J,J,J,J,fun _ sg _ _=>aB J (pV QB (ht J))⟩,
    ⟨⟨[⟨4,fun _=>bO bG n,none⟩],_,0,1,J,⟨(fun _=>J),aT⟩,J,J,J,J,J,fun _ sg _ _=>aB J (cW pb gU J J)⟩,
    ⟨⟨[⟨25,fun _=>bO bX n.Tag,some 1⟩],_,0,1,J,⟨(fun _=>J),aT⟩,J,J,J,J,J,fun _ sg _ _=>aB J (bB cr J J)⟩,
    ⟨⟨[⟨24,fun _=>Nu (fun y:(ac→ac→Option (ac×Int))=>yA aO qh C1 (fun(x:ac×ac)=>y x.1 x.2)) nu do1,some 0⟩,⟨26,fun _=>tD bX n.Tag,some 2⟩],_,0,1,J,⟨(fun _=>J),(fun _=>J),aT⟩,J,J,J,J,J,fun _ sg _ _=>aB J (JU (γ:=(fun y:(ac→ac→Option (ac×Int))=>yA aO qh C1 (fun(x:ac×ac)=>y x.1 x.2))) (z:=(fun _ _=>none)) wD (d6 kW) YU (fun _=>Td) (ht J) (nQ (ht J)))⟩,
    ⟨⟨[⟨1,fun _=>tD dj l,none⟩],_,0,1,J,⟨(fun _=>J),aT⟩,J,J,J,J,J,fun _ sg _ _=>aB J (dA J)⟩,
    ⟨⟨[⟨28,fun _=>tD dj l,some 4⟩],_,0,1,J,⟨(fun _=>J),aT⟩,J,J,J,J,J,fun _ sg _ _=>aB J (bq j7 aH J (ht J) hI q_e1)⟩,
    ⟨⟨[⟨29,fun _=>bO af e1,some 5⟩],_,0,1,J,⟨(fun _=>J),aT⟩,J,J,J,J,J,fun _ sg _ _=>aB J (bB aH J J)⟩,
    ⟨⟨[⟨1,fun _=>tD dj l,none⟩],_,0,1,J,⟨(fun _=>J),aT⟩,J,J,J,J,J,fun _ sg _ _=>aB J (dA J)⟩,
    ⟨⟨[⟨1,fun _=>tD dj l,none⟩],_,0,1,J,⟨(fun _=>J),aT⟩,J,J,J,J,J,fun _ sg _ _=>aB J (dA J)⟩,
    ⟨⟨[⟨32,fun _=>tD dj l,some 8⟩],_,0,1,J,⟨(fun _=>J),aT⟩,J,J,J,J,J,fun _ sg _ _=>aB J (iM j7 J)⟩,
    ⟨⟨[⟨33,fun _=>tD bX (l.length:Int),some 9⟩],_,0,1,J,⟨(fun _=>J),aT⟩,J,J,J,J,J,fun _ sg _ _=>aB J (jp (ht J) hI)⟩,
    ⟨⟨[⟨31,fun _=>tD dj l,some 7⟩,⟨34,fun _=>tD bX (IntKind.i64.wrap ((l.length:Int)-(1:Int))),some 10⟩],_,0,1,J,⟨(fun _=>J),(fun _=>J),aT⟩,J,J,J,J,J,fun _ sg _ _=>aB J (lX j7 aH J J J q_e2)⟩,
    ⟨⟨[⟨35,fun _=>bO af e2,some 11⟩],_,0,1,J,⟨(fun _=>J),aT⟩,J,J,J,J,J,fun _ sg _ _=>aB J (bB aH J J)⟩,
    ⟨⟨[⟨27,fun _=>yA aO qh C1 (fun(x:ac×ac)=>((o6 do1 n.Tag).getD (fun _ _=>none)) x.1 x.2),some 3⟩,⟨30,fun _=>tD af e1,some 6⟩,⟨36,fun _=>tD af e2,some 12⟩],_,0,1,J,⟨(fun _=>J),(fun _=>J),(fun _=>J),aT⟩,J,J,J,J,J,fun _ sg _ _=>aB J (Po (args:=qh) (res:=C1) (f:=(fun(x:ac×ac)=>((o6 do1 n.Tag).getD (fun _ _=>none)) x.1 x.2)) (x:=((e1,e2):ac×ac)) (ht J) q_r1 ⟨(ht J),(ht J),aT⟩)⟩,
    ⟨⟨[⟨37,fun _=>tT [tD af r1.1,tD bX r1.2],some 13⟩],_,0,1,J,⟨(fun _=>J),aT⟩,J,J,J,J,J,fun _ sg _ _=>aB J (dA J)⟩,
    ⟨⟨[⟨23,fun _=>tT [tD af r1.1,tD bX r1.2],some 14⟩],_,0,1,J,⟨(fun _=>J),aT⟩,J,J,J,J,J,fun _ sg _ _=>aB J (hY J J)⟩,
    ⟨⟨[⟨23,fun _=>tT [tD af r1.1,tD bX r1.2],some 14⟩],_,0,2,J,⟨(fun _=>J),aT⟩,J,J,J,J,J,fun _ sg _ _=>aB J (hY J J)⟩,
    ⟨⟨[],_,J,aT,J,J,J,fun sg=>eC J (ye (r:=af) (x:=ie) aH (fun _=>bh _))⟩,
    ⟨⟨[⟨8,fun sg=>tV (aP ((sg 17).h 0).2 0),some 17⟩,⟨38,fun _=>tD af r1.1,some 15⟩],_,J,⟨(fun _=>J),(fun _=>J),aT⟩,J,J,J,fun sg=>eC J (mI aH J (zq an) J (ht J) (ht J))⟩,
    aT⟩⟩⟩⟩⟩⟩⟩⟩⟩⟩⟩⟩⟩⟩⟩⟩⟩⟩⟩ (fun sg=>?_)
   refine(show RG _ _ _ _ [bx af 46 ((sg 17).h 0).2 r1.1,bx af 46 b ie] _ from ?_);refine aW 8 J<|bp J<|aq ?_;refine kV (Z:=fun no=>qa r1 no=some R) (Of:=fun no=>[bx af 46 b ie]) (Gf:=fun no=>[(6,tV (aP b 0)),(8,bO af r1.1),(9,bM no)]) (fun no h=>?_) (fun K=>?_)
   ·skip
    refine au<|zo J (bB aH J J)<|aF J<|ax aH J an J (ht J) (ht J)<|bp J<|aq<|ak<|bn 6 J ?_;cases so h;exact bR J J ⟨bt aH J J J,bc J,aT⟩
   ·skip
    refine au<|aF J<|zo J (tJ J)<|aF J<|dC J J (fun hg=>dA J)<|dC J J (fun hg=>fj (bK J hg) hI)<|zo J (uK J J)<|aq<|c9 h J (fun h=>?_) (fun h=>?_)
    ·refine av<|zo J (cw)<|aQ ?_;exact cO (K (201:Int) h) (bv J)
    ·refine bA ?_;exact cO (K r1.2 h) (bv J)

theorem IA(e:br)(r:(List ac)){R:ac×Int}(h:sC e r=some R):aU aO 107 [tD bT e,ca (af) r] (tT [tD af R.1,bM R.2]):=by
 refine aU.of Tryz.func107 J J J fun w0 S0=>au<|zo J (je J)<|zo J (je J)<|aZ (r:=af) (x:=ie) aH (fun _=>bh _) J fun b=>zo J (cw)<|aq<|ah<|au<|zo J (bB jC J J)<|bC h fun r1 q_r1 h=>zo J (aD VJ (Io _ q_r1) ⟨(ht J),aT⟩)<|bp J<|aq<|au<|aF J<|zo J (tJ J)<|aq ?_;refine c9 h J (fun h=>?_) (fun h=>?_)
 ·refine au<|zo J (ck (y:=ie) aH ql bh (J))<|aF J<|ax aH J an J (ht J) (ht J)<|bp J<|aq<|ak<|ae<|bn 4 J ?_;cases so h;exact bR J J ⟨bt aH J J J,bc J,aT⟩
 ·refine dS<|ah<|au<|zo J (bB jC J J)<|bC h fun r2 q_r2 h=>iR WE (KC _ q_r2) ⟨(ht J),aT⟩ J fun l c=>zo J (jy gM (.head _) (ht J))<|zo J (bD hI)<|aq<|ay<|oq (.head _) fun hN=>bI ?_;refine aS (n7 (Z:=fun ls i x=>(r2.drop i=ls)∧oj e r ls x=some R) (Of:=fun _ i x=>[fx bX 3 l c r2,bx af 46 b x]) (Gf:=fun _ i x=>[(2,bO bT e),(3,bO dj r),(4,tV (aP b 0)),(17,rL l c r2),(18,jk r2),(19,bM (i:Int))]) (fun i x h=>?_) (fun e1 tl ih i x h=>?_) r2 0 ie ⟨J,h⟩) (bv J)
  ·obtain⟨hx,h⟩:=h
   refine aC<|au<|zo J (fD J J)<|aq<|ah<|bz (ht J) (di hx)<|bu ?_;refine ai (ai (aN ?_));refine aw<|au<|bC h fun r3 q_r3 h=>zo J (aD abi (U7 q_r3) trivial)<|aZ (r:=rV) (x:= .map none) QB (fun _=>⟨J,J⟩) J fun b1=>uj (mI (r' :=rT (Nu (fun y:(ac→ac→Option (ac×Int))=>yA aO qh sK (fun(x:ac×ac)=>y x.1 x.2)) nu r3)) (x' :=()) (q:=rT (Nu (fun y:(ac→ac→Option (ac×Int))=>yA aO qh sK (fun(x:ac×ac)=>y x.1 x.2)) nu r3)) (y:=()) QB J (uR J) J (ht J) (hTT Tx (show aJ _ _ _ (Nu (fun y:(ac→ac→Option (ac×Int))=>yA aO qh sK (fun(x:ac×ac)=>y x.1 x.2)) nu r3)from(ht J)))) fun _=>?_;refine(show RG _ _ _ _ (bx (rT (Nu (fun y:(ac→ac→Option (ac×Int))=>yA aO qh sK (fun(x:ac×ac)=>y x.1 x.2)) nu r3)) 219 b1 ()::_) _ from ?_);refine aW 9 J<|aq<|au<|zo J (bB jC J J)<|zo J ((show bP _ _ _ _ ((dn aO S8 sK (fun(x:aX×(List ac))=>(iI r r3) x.1 x.2)))from hJ (cts:=[bO dj r,bO (rT (Nu (fun y:(ac→ac→Option (ac×Int))=>yA aO qh sK (fun(x:ac×ac)=>y x.1 x.2)) nu r3)) ()]) (caps:=[.tmp 3,.tmp 9]) abg ⟨(ht J),(ht J),aT⟩ (fun x y h=>U5 _ _ _ _ h)))<|bC h fun r4 q_r4 h=>zo J (aD abh (U6 _ _ q_r4) ⟨(ht J),(ht J),aT⟩)<|zo J (hY J J)<|zo J (hY J J)<|bL<|ax aH J an J (ht J) (ht J)<|bp J<|aq<|ak<|bn 4 J<|bm ?_;cases so h;exact bR J J ⟨bt aH J J J,bc J,aT⟩
  ·obtain⟨hx,h⟩:=h
   refine aC<|au<|zo J (fD J J)<|aq<|ah<|bw (ht J) (dg hx)<|dS<|ah<|ay<|au<|zo J (cH gM cr (.head _) (ht J) (ht J) (cS hx))<|zo J (gn (r:=bX) (i:=(i:Int)) (foff:=0) cr J J bS J (.head _) (cS hx) (ht J))<|bp J<|aq<|au<|aF J<|zo J (bB d3 J J)<|zo J (iM iK J) ?_;refine zo J (iu (ht J) (ht J))<|aF J<|bC h fun t q_t h=>gD J J (fun hg=>bB d3 J J)<|gD J J (fun hg=>dA J) ?_
   obtain⟨e2,h1t,h0t⟩:=og q_t
   have q_e2g:=fun hb=>(h1t hb).1
   refine gD J J (fun hg=>bq iK aH J (bK J hg) (bK J hg) (q_e2g hg))<|gD J J (fun hg=>bJ aH J J (bK J hg)) ?_
   obtain⟨r5,h1t⟩:=XF (fun hb=>(h1t hb).2)
   have q_r5g:=fun hb=>(h1t hb).1
   refine gD J J (fun hg=>aD OJ (Dr _ (q_r5g hg)) ⟨(bK J hg),aT⟩)<|gD J J (fun hg=>fS (bK J hg))<|zo J (ir (ht J) (fun hb=>(bK J (wv hb))) (fun hb=>(h1t hb).2) h0t)<|aq<|c9 h J (fun h=>?_) (fun h=>?_)
   ·refine au<|zo J (ck (y:=ie) aH ql bh (J))<|bL<|ax aH J an J (ht J) (ht J)<|zo J (cw)<|aq<|ak ?_;refine aA (ae (ae (aA (ae ?_))));refine bn 4 J<|bm ?_;cases so h;exact bR J J ⟨bt aH J J J,bc J,aT⟩
   ·refine bA<|ap<|aw<|av<|zo rfl (lY (cA hx hN) rfl)<|aF rfl<|aQ ?_;exact bf (aS (ih (i+1) x ⟨cz hx,h⟩) (bv J))

theorem Vc(a1:ac){R:Bool}(h:vB a1=some R):aU aO 171 [tD af a1] (ig R):=by
 refine aU.of Tryz.func171 J J J fun w0 S0=>au<|zo J (je J)<|zo J (jj)<|aq<|ah<|bC h fun r q_r h=>?_
 refine cU (ts:=[_,_,_,_]) mixed J J
  ⟨fd 1 J J J (bB aH J J),
  ⟨O4 J J (aD Sn (Iw _ q_r) ⟨hB,aT⟩),
  ⟨d8 3 0 4 1 J J J J (Dh PH (ht J) (ht J)),
  ⟨bW 5 2 J J J (uM J),
  aT⟩⟩⟩⟩ ?_
 refine aw<|ak ?_;cases so h;exact aG J J

theorem Oq(e:br)(r:(List ac)){R:Bool×Int}(h:qb e r=some R):aU aO 103 [tD bT e,ca (af) r] (tT [ig R.1,bM R.2]):=by
 refine aU.of Tryz.func103 J J J fun w0 S0=>au<|zo J (je J)<|zo J (jj)<|zo J (cw)<|aq<|au<|zo J (bB jC J J)<|aF J<|bC h fun r1 q_r1 h=>zo J (aD Sv (IA _ _ q_r1) ⟨(ht J),(ht J),aT⟩)<|aF J<|zo J (hY J J)<|zo J (hY J J)<|aZ (r:=af) (x:=ie) aH (fun _=>bh _) J fun b=>ax aH J an J (ht J) (ht J)<|aW 6 J<|bp J<|aq<|ah ?_;refine av<|zo J (bB aH J J)<|bC h fun r2 q_r2 h=>zo J (aD abp (Vc _ q_r2) ⟨(ht J),aT⟩)<|aF J<|bp J<|bp J<|aq<|ak ?_;cases so h;exact cJ J J J

theorem ZS(b:Nat)(ix:OI)(r:cT)(n:am){R:(List (List ac))×Int}(h:jE r n=some R):c0 aO 52 [tV (aP b 0),tD aI n] (jq b r ix) (fun _:OI=>tT [ca (dj) R.1,bM R.2]) (fun _=>(jq b r ix)):=by
 refine PV Tryz.func52 J J J fun w0 S0=>?_;refine(show CG _ _ _ [bx (rH ee [(1,aR (ix.h 0).1 (ix.h 0).2 r.rows.length),(2,aR (ix.h 1).1 (ix.h 1).2 r.width.length)]) 96 b r,dV dT 32 (ix.h 0).1 (ix.h 0).2 r.rows,dV bX 3 (ix.h 1).1 (ix.h 1).2 r.width] _ from ?_);refine au<|zo J (je J)<|aZ (r:=dT) (x:=[]) gF (fun _=>⟨none,0,J,dK _,lC _,.inl J⟩) J fun b1=>aZ (r:=bX) (x:=(0:Int)) LA (fun _=>J) J fun b2=>aq<|ah<|bC h fun e q_e h=>bC h fun e1 q_e1 h=>?_
 refine cU (ts:=[_,_,_,_,_,_,_,_,_,_,_,_,_,_,_,_,_,_]) mixed J J
  ⟨fd 0 J J J (dA J),
  ⟨bW 16 0 J J J (dE (ht J)),
  ⟨bW 17 1 J J J (kP 1 qF J J J),
  ⟨bW 18 2 J J J (df uP J (.tail _ (.tail _ (.head _))) (.tail _ (.tail _ (.tail _ (.head _)))) (ht J)),
  ⟨fd 3 J J J (cW jT dP J J),
  ⟨bW 20 4 J J J (bB cr J J),
  ⟨d8 19 3 21 5 J J J J (bq ot gF J (lk (ht J)) (ht J) q_e),
  ⟨bW 22 6 J J J (bB gF J J),
  ⟨fd 0 J J J (dA J),
  ⟨bW 24 8 J J J (dE (ht J)),
  ⟨bW 25 9 J J J (kP 1 qF J J J),
  ⟨bW 26 10 J J J (df uP J (.tail _ (.tail _ (.head _))) (.tail _ (.tail _ (.tail _ (.head _)))) (ht J)),
  ⟨fd 3 J J J (cW rG kC J J),
  ⟨bW 28 12 J J J (bB cr J J),
  ⟨d8 27 11 29 13 J J J J (bq ot gF J (lk (ht J)) (ht J) q_e1),
  ⟨bW 30 14 J J J (bB gF J J),
  ⟨bW 23 7 J J J (uM J),
  ⟨bW 31 15 J J J (uM J),
  aT⟩⟩⟩⟩⟩⟩⟩⟩⟩⟩⟩⟩⟩⟩⟩⟩⟩⟩ ?_
 refine aw<|ah<|au<|aF rfl<|zo rfl (iM jW rfl)<|aF rfl<|zo rfl (iM jW rfl)<|zo rfl (xg (ht rfl) (ht rfl))<|zo rfl (gu (ht rfl) hI)<|aq<|c9 h rfl (fun h=>?_) (fun h=>?_)
 ·refine au<|bL<|ax gF J an J (ht J) j9<|bL<|ax LA J an J (ht J) hI<|aq<|ak<|ae<|bF<|bn 4 J<|bn 5 J<|aK<|aK<|aK<|rz ?_;cases so h;exact d7 (ts:=[ca (dj) ([]),bM 3]) (rvs:=[.cell 4 32,.cell 5 33]) J J ⟨bt gF J J J,bt LA J J J,aT⟩ pE J J
 ·refine dS<|au<|aF J<|zo J (iM jW J)<|bC h fun mk q_mk h=>zU (R9 (r:=rB) (x:=false) Ji J J J Tryz.underlying143 (fun _=>J) (ht J) (ht J) q_mk) J fun i=>bQ false rB 4<|aZ (x:=aR none 0 0) Nr (fun _=>Et) J fun b3=>bL<|VW<|ax Nr J an J (ht J) (Ru (ht J))<|aq<|au<|bQ false dj 43<|aZ (x:=aR none 0 0) gF (fun _=>Et) J fun b4=>aq<|ah<|au ?_;refine aF J<|aF J<|bC h fun it q_it h=>G9 abP (R2 _ _ q_it) ⟨(ht J),(ht J),aT⟩ J fun v fp=>aq<|ay<|bC h fun r1 q_r1 h=>YP ?_;refine Hg (fun(ix1:Option Nat×Nat×List (List ac)×Option Nat×Nat×List Bool×Int×(List (List ac)))=>[bx rV 32 b4 (aR ix1.1 ix1.2.1 ix1.2.2.1.length),fx dj 43 ix1.1 ix1.2.1 ix1.2.2.1,bx rV 143 b3 (aR ix1.2.2.2.1 ix1.2.2.2.2.1 ix1.2.2.2.2.2.1.length),fx rB 4 ix1.2.2.2.1 ix1.2.2.2.2.1 ix1.2.2.2.2.2.1,bx bX 33 b2 ix1.2.2.2.2.2.2.1,bx dT 32 b1 ix1.2.2.2.2.2.2.2,bx (rH ee [(1,aR (ix.h 0).1 (ix.h 0).2 r.rows.length),(2,aR (ix.h 1).1 (ix.h 1).2 r.width.length)]) 96 b r,dV dT 32 (ix.h 0).1 (ix.h 0).2 r.rows,dV bX 3 (ix.h 1).1 (ix.h 1).2 r.width]) (fun(ix1:Option Nat×Nat×List (List ac)×Option Nat×Nat×List Bool×Int×(List (List ac)))=>(ix1.2.2.1,ix1.2.2.2.2.2.1,ix1.2.2.2.2.2.2.1,ix1.2.2.2.2.2.2.2)) (fun _=> .ret) J (ht J) (none,0,Hr,(i.h 0).1,(i.h 0).2,mk,(0:Int),[]) J q_r1 (fun _=>J) J (fun ix1 x r2 h lp rec1 _ _ _=>?_) (fun i1 j hi bd=>⟨fun hj=>?_,fun _ hj=>?_⟩)
  ·obtain⟨l,c,xs,l1,c1,xs1,x1,x2⟩:=ix1
   replace h:gW n x xs xs1 x1 x2=some r2:=h
   refine(show CG _ _ _ [re lp rec1 .ready none,bx rV 32 b4 (aR l c xs.length),fx dj 43 l c xs,bx rV 143 b3 (aR l1 c1 xs1.length),fx rB 4 l1 c1 xs1,bx bX 33 b2 x1,bx dT 32 b1 x2,bx (rH ee [(1,aR (ix.h 0).1 (ix.h 0).2 r.rows.length),(2,aR (ix.h 1).1 (ix.h 1).2 r.width.length)]) 96 b r,dV dT 32 (ix.h 0).1 (ix.h 0).2 r.rows,dV bX 3 (ix.h 1).1 (ix.h 1).2 r.width] _ from ?_);refine FD (G' :=[(0,tV (aP b 0)),(1,tD aI n),(3,bO aI n),(4,tV (aP b1 0)),(5,tV (aP b2 0)),(6,ca (dj) e),(7,ca (dj) e1),(8,tV (aP b3 0)),(9,tV (aP b4 0)),(16,tV (aP b 0)),(17,tV (aP b 0)),(18,tV (aP b 1)),(19,tO dT (ix.h 0).1 (ix.h 0).2 r.rows),(20,bO bX n.A),(21,bM n.A),(22,bO dT e),(23,ca (dj) e),(24,tV (aP b 0)),(25,tV (aP b 0)),(26,tV (aP b 1)),(27,tO dT (ix.h 0).1 (ix.h 0).2 r.rows),(28,bO bX n.B),(29,bM n.B),(30,bO dT e1),(31,ca (dj) e1),(32,ca (dj) e),(33,jk e),(34,ca (dj) e1),(35,jk e1),(36,bM (IntKind.i64.wrap ((e.length:Int)*(e1.length:Int)))),(37,ig (decide ((40000:Int)<(IntKind.i64.wrap ((e.length:Int)*(e1.length:Int)))))),(38,ca (dj) e),(39,jk e),(41,ca (dj) e),(42,ca (dj) e1),(44,bM x.1),(45,ca (af) x.2)]) ?_ ⟨J,J,J,J,J,J,J,J,J,J,J,J,J,J,J,J,J,J,J,J,J,J,J,J,J,J,J,J,J,J,J,J,J,J,J,J,J,aT⟩;refine au<|bp J<|aq<|av<|bp J<|aQ<|Hl<|ay<|au<|zo J (cW tg mB J J)<|zo J (bB jC J J)<|aF J<|bC h fun r3 q_r3 h=>zo J (aD WK (Oq _ _ q_r3) ⟨(ht J),(ht J),aT⟩)<|aF J<|zo J (hY J J)<|zo J (hY J J)<|bp J<|bp J<|aq ?_;refine ah<|au<|aF J<|zo J (tJ J)<|aq<|c9 h J (fun h=>?_) (fun h=>?_)
   ·refine au<|aF J<|yk<|ax gF J an J (ht J) j9<|yk<|ax LA J an J (ht J) (ht J)<|aq<|ak ?_;refine ae (aA ?_);refine eE<|eE<|eE<|fq<|fq<|eE<|eE<|eE<|eE<|eE ?_;cases so h;exact Br 0 J (l,c,xs,l1,c1,xs1,r3.2,[]) J J
   ·refine dS<|au<|aF J<|aq<|c9 h J (fun h=>?_) (fun h=>?_)
    ·refine au<|zo J (hM Nr (.tail _ (.tail _ (.tail _ (.head _)))) (ht J))<|aF J<|bC h fun e2 q_e2 h=>zo J (cH Tryz.underlying143 Ji (.tail _ (.tail _ (.tail _ (.tail _ (.head _))))) (ht J) (ht J) q_e2)<|yl<|bC h fun st q_st h=>sF Ji J an J q_e2 (so q_st) (ht J) hB<|iG (mj (so q_st)) 57 J<|Fn (O' :=[fx rB 4 l1 c1 st,re lp rec1 .busy none,bx rV 32 b4 (aR l c xs.length),fx dj 43 l c xs,bx rV 143 b3 (aR l1 c1 st.length),bx bX 33 b2 x1,bx dT 32 b1 x2,bx (rH ee [(1,aR (ix.h 0).1 (ix.h 0).2 r.rows.length),(2,aR (ix.h 1).1 (ix.h 1).2 r.width.length)]) 96 b r,dV dT 32 (ix.h 0).1 (ix.h 0).2 r.rows,dV bX 3 (ix.h 1).1 (ix.h 1).2 r.width]) (by rw [mj (so q_st)])<|aq<|av<|zo J (hM gF (.tail _ (.tail _ (.head _))) (ht J))<|aF J<|zo J (aV (r:=dj) (ys:=[x.2]) (xs:=[.tmp 61]) jW d3 J J J J J ⟨(ht J),aT⟩)<|qL<|bC h fun l2 q_l2 h=>cV d3 J J J J jW J J (ht J) (ht J) q_l2 fun l3 c2=>qL<|ax gF J an J (ht J) (Ru (ht J))<|aQ<|ap ?_;refine eE<|eE<|eE<|eE<|eE<|Qj<|eE<|Hj<|Hj<|eE ?_;cases so h;exact wh (l3,c2,l2,l1,c1,st,x1,x2) J J
    ·refine bA<|ap ?_;cases so h;exact wh (l,c,xs,l1,c1,xs1,x1,x2) J J
  ·skip
   obtain⟨l4,c3,xs2,l5,c4,xs3,x3,x4⟩:=i1
   obtain rfl:xs2=r1.1.2.1:=congrArg (fun q:List (List ac)×List Bool×Int×(List (List ac))=>q.1) hi
   obtain rfl:xs3=r1.1.2.2.1:=congrArg (fun q:List (List ac)×List Bool×Int×(List (List ac))=>q.2.1) hi
   obtain rfl:x3=r1.1.2.2.2.1:=congrArg (fun q:List (List ac)×List Bool×Int×(List (List ac))=>q.2.2.1) hi
   obtain rfl:x4=r1.1.2.2.2.2:=congrArg (fun q:List (List ac)×List Bool×Int×(List (List ac))=>q.2.2.2) hi
   have h:=ct h (by rw [hj];rfl);refine(show AT _ _ _ [Ba bd,bx rV 32 b4 (aR l4 c3 r1.1.2.1.length),fx dj 43 l4 c3 r1.1.2.1,bx rV 143 b3 (aR l5 c4 r1.1.2.2.1.length),fx rB 4 l5 c4 r1.1.2.2.1,bx bX 33 b2 r1.1.2.2.2.1,bx dT 32 b1 r1.1.2.2.2.2,bx (rH ee [(1,aR (ix.h 0).1 (ix.h 0).2 r.rows.length),(2,aR (ix.h 1).1 (ix.h 1).2 r.width.length)]) 96 b r,dV dT 32 (ix.h 0).1 (ix.h 0).2 r.rows,dV bX 3 (ix.h 1).1 (ix.h 1).2 r.width] _ from ?_);refine cO (G' :=[(0,tV (aP b 0)),(1,tD aI n),(3,bO aI n),(4,tV (aP b1 0)),(5,tV (aP b2 0)),(6,ca (dj) e),(7,ca (dj) e1),(8,tV (aP b3 0)),(9,tV (aP b4 0)),(16,tV (aP b 0)),(17,tV (aP b 0)),(18,tV (aP b 1)),(19,tO dT (ix.h 0).1 (ix.h 0).2 r.rows),(20,bO bX n.A),(21,bM n.A),(22,bO dT e),(23,ca (dj) e),(24,tV (aP b 0)),(25,tV (aP b 0)),(26,tV (aP b 1)),(27,tO dT (ix.h 0).1 (ix.h 0).2 r.rows),(28,bO bX n.B),(29,bM n.B),(30,bO dT e1),(31,ca (dj) e1),(32,ca (dj) e),(33,jk e),(34,ca (dj) e1),(35,jk e1),(36,bM (IntKind.i64.wrap ((e.length:Int)*(e1.length:Int)))),(37,ig (decide ((40000:Int)<(IntKind.i64.wrap ((e.length:Int)*(e1.length:Int)))))),(38,ca (dj) e),(39,jk e),(41,ca (dj) e),(42,ca (dj) e1)]) ?_ ⟨J,J,J,J,J,J,J,J,J,J,J,J,J,J,J,J,J,J,J,J,J,J,J,J,J,J,J,J,J,J,J,J,J,J,J,aT⟩;refine ap<|aw<|ah<|au<|aF rfl<|zo rfl (iM jW rfl)<|zo rfl (bD hI)<|aq<|ay<|ba (k:=64) J fun hN=>bI<|yn<|yn<|yn<|pz<|Hb<|Hc<|Hc<|Hb<|Qa<|yn ?_;refine aS (kE (Z:=fun ls i2 out l6 c5=>(e.drop i2=ls)∧gV r n r1 ls i2 out=some R) (Of:=fun _ i2 out l6 c5=>[bx dT 32 b1 r1.1.2.2.2.2,bx bX 33 b2 r1.1.2.2.2.1,bx rV 143 b3 (aR l5 c4 r1.1.2.2.1.length),bx rV 32 b4 (aR l6 c5 out.length),fx dj 43 l6 c5 out,fx rB 4 l5 c4 r1.1.2.2.1,Ba bd,bx (rH ee [(1,aR (ix.h 0).1 (ix.h 0).2 r.rows.length),(2,aR (ix.h 1).1 (ix.h 1).2 r.width.length)]) 96 b r,dV dT 32 (ix.h 0).1 (ix.h 0).2 r.rows,dV bX 3 (ix.h 1).1 (ix.h 1).2 r.width]) (Gf:=fun _ i2 out l6 c5=>[(0,tV (aP b 0)),(3,bO aI n),(4,tV (aP b1 0)),(5,tV (aP b2 0)),(8,tV (aP b3 0)),(9,tV (aP b4 0)),(64,ca (dj) e),(65,jk e),(66,bM (i2:Int))]) (fun i2 out l6 c5 h=>?_) (fun e3 tl ih i2 out l6 c5 h=>?_) e 0 r1.1.2.1 l4 c3 ⟨J,h⟩) (bv J)
   ·obtain⟨hx,h⟩:=h
    refine aC<|au<|zo J (fD J J)<|aq<|ah<|bz (ht J) (di hx)<|bu ?_;refine ai (ai (aN ?_));refine aw<|au<|zo rfl (hM gF (.tail _ (.tail _ (.tail _ (.head _)))) (ht rfl))<|yl<|kj<|jx 96 rfl<|bL<|ax gF rfl an rfl (ht rfl) (lk (ht rfl))<|hX<|ax LA rfl an rfl (ht rfl) hI<|aq<|ak<|bF<|bn 4 rfl<|bn 5 rfl<|bm<|bm<|bm<|bm<|cK<|cK<|cK ?_;refine cK<|Bq<|rz ?_;cases so h;exact d7 (ts:=[ca (dj) out,bM 0]) (rvs:=[.cell 4 32,.cell 5 33]) J J ⟨bt gF J J J,bt LA J J J,aT⟩ pE J J
   ·obtain⟨hx,h⟩:=h
    refine aC<|au<|zo J (fD J J)<|aq<|ah<|bw (ht J) (dg hx)<|dS<|ah<|ay<|au<|aF J<|zo J (lX jW d3 J J J (cS hx))<|zo J (bB d3 J J)<|bp J<|bp J<|aq<|au<|zo J (cW Mz EX J J) ?_;refine zo J (bB Ji J J)<|aF J<|bC h fun t q_t h=>dC J J (fun hg=>hM Nr (.tail _ (.tail _ (.head _))) (ht J))<|dC J J (fun hg=>dA J) ?_
    obtain⟨e4,h1t,h0t⟩:=og q_t
    have q_e4g:=fun hb=>(h1t hb).1
    refine dC J J (fun hg=>cH Tryz.underlying143 Ji (.tail _ (.tail _ (.tail _ (.tail _ (.tail _ (.head _)))))) (bK J hg) (bK J hg) (q_e4g hg))<|dC J J (fun hg=>gn (r:=rB) (i:=(i2:Int)) (foff:=0) Ji J J bS J (.tail _ (.tail _ (.tail _ (.tail _ (.tail _ (.head _)))))) (q_e4g hg) (bK J hg))<|dC J J (fun hg=>fS (bK J hg))<|zo J (d4 (ht J) (fun hb=>(bK J hb)) (fun hb=>(h1t hb).2) h0t)<|aq<|c9 h J (fun h=>?_) (fun h=>?_)
    ·refine bC h fun e5 q_e5 h=>bC h fun mk1 q_mk1 h=>bC h fun r4 q_r4 h=>?_
     refine oM 14 [tc (rL l6 c5 out),tc (ca (af) e3),tc (tV (aP b 0)),tc (tV (aP b 0)),tc (tV (aP b 2)),tc (tO bX (ix.h 1).1 (ix.h 1).2 r.width),tc (bO bX n.B),tc (bM n.B),tc (bO bX e5),tc (bM e5),([10],fun s=>tO af ((s.getD 0 pE).h 0).1 ((s.getD 0 pE).h 0).2 mk1),tc (ca (dj) ([e3,mk1])),tc (ca (af) r4),tc (ca (dj) ([r4]))] [false,false,false,false,false,false,false,false,false,false,true,false,false,false] [fun _=>[bx dT 32 b1 r1.1.2.2.2.2,bx bX 33 b2 r1.1.2.2.2.1,bx rV 143 b3 (aR l5 c4 r1.1.2.2.1.length),bx rV 32 b4 (aR l6 c5 out.length),fx dj 43 l6 c5 out,fx rB 4 l5 c4 r1.1.2.2.1,Ba bd,bx (rH ee [(1,aR (ix.h 0).1 (ix.h 0).2 r.rows.length),(2,aR (ix.h 1).1 (ix.h 1).2 r.width.length)]) 96 b r,dV dT 32 (ix.h 0).1 (ix.h 0).2 r.rows,dV bX 3 (ix.h 1).1 (ix.h 1).2 r.width],fun sg=>[dV af 46 ((sg 10).h 0).1 ((sg 10).h 0).2 mk1,bx dT 32 b1 r1.1.2.2.2.2,bx bX 33 b2 r1.1.2.2.2.1,bx rV 143 b3 (aR l5 c4 r1.1.2.2.1.length),bx rV 32 b4 (aR l6 c5 out.length),fx dj 43 l6 c5 out,fx rB 4 l5 c4 r1.1.2.2.1,Ba bd,bx (rH ee [(1,aR (ix.h 0).1 (ix.h 0).2 r.rows.length),(2,aR (ix.h 1).1 (ix.h 1).2 r.width.length)]) 96 b r,dV dT 32 (ix.h 0).1 (ix.h 0).2 r.rows,dV bX 3 (ix.h 1).1 (ix.h 1).2 r.width]] J mixed J J J J J
      ⟨⟨[⟨9,fun _=>tV (aP b4 0),none⟩],_,0,1,J,⟨(fun _=>J),aT⟩,J,J,J,J,J,FK (fun sg=>aB J (hM gF (.tail _ (.tail _ (.tail _ (.head _)))) (ht J))) (zj (fun sg=>aB J (hM gF (.tail _ (.tail _ (.tail _ (.tail _ (.head _))))) (ht J))))⟩,
      ⟨⟨[⟨15,fun _=>tD dj e3,none⟩],_,0,1,J,⟨(fun _=>J),aT⟩,J,J,J,J,J,fun _ sg _ _=>aB J (dA J)⟩,
      ⟨⟨[⟨0,fun _=>tV (aP b 0),none⟩],_,0,0,J,⟨(fun _=>J),aT⟩,J,J,J,J,J,fun _ sg _ _=>aB J (dA J)⟩,
      ⟨⟨[⟨82,fun _=>tV (aP b 0),some 2⟩],_,0,0,J,⟨(fun _=>J),aT⟩,J,J,J,J,J,fun _ sg _ _=>aB J (dE (ht J))⟩,
      ⟨⟨[⟨83,fun _=>tV (aP b 0),some 3⟩],_,0,0,J,⟨(fun _=>J),aT⟩,J,J,J,J,J,fun _ sg _ _=>aB J (kP 2 My J J J)⟩,
      ⟨⟨[⟨84,fun _=>tV (aP b 2),some 4⟩],_,0,0,J,⟨(fun _=>J),aT⟩,J,J,J,J,J,zj (fun sg=>aB J (df d9 J (.tail _ (.tail _ (.tail _ (.tail _ (.tail _ (.tail _ (.tail _ (.head _)))))))) (.tail _ (.tail _ (.tail _ (.tail _ (.tail _ (.tail _ (.tail _ (.tail _ (.tail _ (.head _)))))))))) (ht J)))⟩,
      ⟨⟨[⟨3,fun _=>bO aI n,none⟩],_,0,0,J,⟨(fun _=>J),aT⟩,J,J,J,J,J,fun _ sg _ _=>aB J (cW rG kC J J)⟩,
      ⟨⟨[⟨86,fun _=>bO bX n.B,some 6⟩],_,0,0,J,⟨(fun _=>J),aT⟩,J,J,J,J,J,fun _ sg _ _=>aB J (bB cr J J)⟩,
      ⟨⟨[⟨85,fun _=>tO bX (ix.h 1).1 (ix.h 1).2 r.width,some 5⟩,⟨87,fun _=>tD bX n.B,some 7⟩],_,0,0,J,⟨(fun _=>J),(fun _=>J),aT⟩,J,J,J,J,J,fun _ sg _ _=>aB J (bq gM cr J (lk (ht J)) (ht J) q_e5)⟩,
      ⟨⟨[⟨88,fun _=>bO bX e5,some 8⟩],_,0,0,J,⟨(fun _=>J),aT⟩,J,J,J,J,J,fun _ sg _ _=>aB J (bB cr J J)⟩,
      ⟨⟨[⟨89,fun _=>tD bX e5,some 9⟩],_,J,⟨(fun _=>J),aT⟩,J,J,J,fun sg=>eC J (PJ (r:=af) (x:=ie) aH J J J iK (fun _=>bh _) (ht J) (ht J) q_mk1)⟩,
      ⟨⟨[⟨81,fun _=>tD dj e3,some 1⟩,⟨90,fun sg=>tO af ((sg 10).h 0).1 ((sg 10).h 0).2 mk1,some 10⟩],_,1,1,J,⟨(fun _=>J),(fun _=>J),aT⟩,J,J,J,J,J,fun _ sg _ _=>aB J (aV (r:=dj) (ys:=[e3,mk1]) (xs:=[.tmp 81,.tmp 90]) jW d3 J J J J J ⟨(ht J),(lk (ht J)),aT⟩)⟩,
      ⟨⟨[⟨91,fun _=>tD dT ([e3,mk1]),some 11⟩],_,1,1,J,⟨(fun _=>J),aT⟩,J,J,J,J,J,fun _ sg _ _=>aB J (aD WJ (Vz _ q_r4) ⟨(ht J),aT⟩)⟩,
      ⟨⟨[⟨92,fun _=>tD dj r4,some 12⟩],_,1,1,J,⟨(fun _=>J),aT⟩,J,J,J,J,J,fun _ sg _ _=>aB J (aV (r:=dj) (ys:=[r4]) (xs:=[.tmp 92]) jW d3 J J J J J ⟨(ht J),aT⟩)⟩,
      aT⟩⟩⟩⟩⟩⟩⟩⟩⟩⟩⟩⟩⟩⟩ (fun sg=>?_)
     refine(show RG _ _ _ _ [dV af 46 ((sg 10).h 0).1 ((sg 10).h 0).2 mk1,bx dT 32 b1 r1.1.2.2.2.2,bx bX 33 b2 r1.1.2.2.2.1,bx rV 143 b3 (aR l5 c4 r1.1.2.2.1.length),bx rV 32 b4 (aR l6 c5 out.length),fx dj 43 l6 c5 out,fx rB 4 l5 c4 r1.1.2.2.1,Ba bd,bx (rH ee [(1,aR (ix.h 0).1 (ix.h 0).2 r.rows.length),(2,aR (ix.h 1).1 (ix.h 1).2 r.width.length)]) 96 b r,dV dT 32 (ix.h 0).1 (ix.h 0).2 r.rows,dV bX 3 (ix.h 1).1 (ix.h 1).2 r.width] _ from ?_);refine G7<|bC h fun l7 q_l7 h=>cV d3 J J J J jW J J (ht J) (ht J) q_l7 fun l8 c6=>G7<|ax gF J an J (ht J) (Ru (ht J))<|aQ<|ap<|aw<|av<|zo rfl (lY (cA hx hN) rfl)<|aF rfl<|aQ<|aK<|bm<|eE<|eE<|eE<|eE<|eE<|vp<|vp<|eE<|eE<|eE ?_;exact bf (aS (ih (i2+1) l7 l8 c6 ⟨cz hx,h⟩) (bv J))
    ·refine bA<|ap<|aw<|av<|zo rfl (lY (cA hx hN) rfl)<|aF rfl<|aQ ?_;exact bf (aS (ih (i2+1) out l6 c5 ⟨cz hx,h⟩) (bv J))
  ·skip
   obtain⟨l9,c7,xs4,l10,c8,xs5,x5,x6⟩:=i1
   obtain rfl:xs4=r1.1.2.1:=congrArg (fun q:List (List ac)×List Bool×Int×(List (List ac))=>q.1) hi
   obtain rfl:xs5=r1.1.2.2.1:=congrArg (fun q:List (List ac)×List Bool×Int×(List (List ac))=>q.2.1) hi
   obtain rfl:x5=r1.1.2.2.2.1:=congrArg (fun q:List (List ac)×List Bool×Int×(List (List ac))=>q.2.2.1) hi
   obtain rfl:x6=r1.1.2.2.2.2:=congrArg (fun q:List (List ac)×List Bool×Int×(List (List ac))=>q.2.2.2) hi
   have h:=cf h (by rw [hj];rfl);refine(show CG _ _ _ [Ba bd,bx rV 32 b4 (aR l9 c7 r1.1.2.1.length),fx dj 43 l9 c7 r1.1.2.1,bx rV 143 b3 (aR l10 c8 r1.1.2.2.1.length),fx rB 4 l10 c8 r1.1.2.2.1,bx bX 33 b2 r1.1.2.2.2.1,bx dT 32 b1 r1.1.2.2.2.2,bx (rH ee [(1,aR (ix.h 0).1 (ix.h 0).2 r.rows.length),(2,aR (ix.h 1).1 (ix.h 1).2 r.width.length)]) 96 b r,dV dT 32 (ix.h 0).1 (ix.h 0).2 r.rows,dV bX 3 (ix.h 1).1 (ix.h 1).2 r.width] _ from ?_);refine FD (G' :=[(0,tV (aP b 0)),(1,tD aI n),(3,bO aI n),(4,tV (aP b1 0)),(5,tV (aP b2 0)),(6,ca (dj) e),(7,ca (dj) e1),(8,tV (aP b3 0)),(9,tV (aP b4 0)),(16,tV (aP b 0)),(17,tV (aP b 0)),(18,tV (aP b 1)),(19,tO dT (ix.h 0).1 (ix.h 0).2 r.rows),(20,bO bX n.A),(21,bM n.A),(22,bO dT e),(23,ca (dj) e),(24,tV (aP b 0)),(25,tV (aP b 0)),(26,tV (aP b 1)),(27,tO dT (ix.h 0).1 (ix.h 0).2 r.rows),(28,bO bX n.B),(29,bM n.B),(30,bO dT e1),(31,ca (dj) e1),(32,ca (dj) e),(33,jk e),(34,ca (dj) e1),(35,jk e1),(36,bM (IntKind.i64.wrap ((e.length:Int)*(e1.length:Int)))),(37,ig (decide ((40000:Int)<(IntKind.i64.wrap ((e.length:Int)*(e1.length:Int)))))),(38,ca (dj) e),(39,jk e),(41,ca (dj) e),(42,ca (dj) e1)]) ?_ ⟨J,J,J,J,J,J,J,J,J,J,J,J,J,J,J,J,J,J,J,J,J,J,J,J,J,J,J,J,J,J,J,J,J,J,J,aT⟩;refine ak ?_;refine aA (ae ?_);refine vp<|bn 4 J<|Hk<|bn 5 J<|bF<|bm<|bF<|bm<|bF<|bm<|bF<|bm<|cK<|cK<|cK<|cK<|Bq<|rz ?_;cases so h;exact d7 (ts:=[ca (dj) r1.1.2.2.2.2,bM r1.1.2.2.2.1]) (rvs:=[.cell 4 32,.cell 5 33]) J J ⟨bt gF J J J,bt LA J J J,aT⟩ pE J J

end Go.Proofs.YtfhhakidodmdfaaGreatDoor

