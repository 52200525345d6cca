/- cP of this claim: P11. -/
import Derived.Test.YtfhhakidodmdfaaGreatDoorJgT
import Derived.Test.YtfhhakidodmdfaaGreatDoorJgP10
set_option linter.all false
namespace Go.Proofs.YtfhhakidodmdfaaGreatDoor
open Go
set_option maxRecDepth 100000

theorem aae(b:Nat)(ix:OI)(r:cS)(n:aj){R:(List (List ac))×Int}(h:jb r n=some R):cX aQ 55 [tV (aN b 0),tD aF n] (jr b r ix) (fun _:OI=>tT [ca (cY) R.1,bM R.2]) (fun _=>(jr b r ix)):=by
 refine cX.of Tryz.func55 J J J fun w0 S0=>?_;refine(show CG _ _ _ [bx (rH ea [(1,aR (ix.h 0).1 (ix.h 0).2 r.rows.length),(2,aR (ix.h 1).1 (ix.h 1).2 r.width.length)]) 96 b r,dT dO 32 (ix.h 0).1 (ix.h 0).2 r.rows,dT cd 3 (ix.h 1).1 (ix.h 1).2 r.width] _ from ?_);refine aw<|zo J (jm J)<|zo J (aM (show aI _ _ _ uN from jQ))<|zo J (cD)<|av<|aw<|bQ false cY 43<|zo J (aM tJ)<|av<|ah<|ah<|bC h fun e q_e h=>?_
 refine c9 (ts:=[_,_,_,_,_,_,_,_,_,_]) mixed J J
  ⟨eM 0 J J J (dl J),
  ⟨bY 14 0 J J J (dB (ht J)),
  ⟨bY 15 1 J J J (jN 1 qV J J J),
  ⟨bY 16 2 J J J (dd vb J (.tail _ (.head _)) (.tail _ (.tail _ (.head _))) (ht J)),
  ⟨eM 3 J J J (df ju dN J J),
  ⟨bY 18 4 J J J (bB cx J J),
  ⟨d8 17 3 19 5 J J J J (br oA gF J (kz (ht J)) (ht J) q_e),
  ⟨bY 20 6 J J J (bB gF J J),
  ⟨bY 21 7 J J J (jg jF J),
  ⟨Pv J J (bI hI),
  aT⟩⟩⟩⟩⟩⟩⟩⟩⟩⟩ ?_
 refine ax<|aA<|be (k:=21) J fun hN=>bL ?_;refine aU (jW (Z:=fun ls i out l c=>(e.drop i=ls)∧fx n ls out=some R) (Of:=fun _ i out l c=>[fj cY 43 l c out,bx (rH ea [(1,aR (ix.h 0).1 (ix.h 0).2 r.rows.length),(2,aR (ix.h 1).1 (ix.h 1).2 r.width.length)]) 96 b r,dT dO 32 (ix.h 0).1 (ix.h 0).2 r.rows,dT cd 3 (ix.h 1).1 (ix.h 1).2 r.width]) (Gf:=fun _ i out l c=>[(3,bK aF n),(6,sb l c out),(21,ca (cY) e),(22,jz e),(23,bM (i:Int))]) (fun i out l c h=>?_) (fun e1 tl ih i out l c h=>?_) e 0 HR none 0 ⟨J,h⟩) (bu J)
 ·obtain⟨hx,h⟩:=h
  refine aB<|aw<|zo J (fM J J)<|av<|ah<|bz (ht J) (du hx)<|bv ?_;refine ai (ai (aO ?_));refine ax<|aw<|aG rfl<|bp rfl<|zo rfl (cD)<|av<|am<|jD<|cE 6 rfl<|cE 53 rfl<|cE 4 rfl<|jE 4 rfl<|ba<|aK<|aK<|aK ?_;cases so h;exact d6 (ts:=[ca (cY) out,bM 0]) (rvs:=[.tmp 4,.tmp 5]) J J ⟨aZ J,aZ J,aT⟩ pS J J
 ·obtain⟨hx,h⟩:=h
  refine aB<|aw<|zo J (fM J J)<|av<|ah<|bw (ht J) (di hx)<|dS<|ah<|aA<|aw<|zo J (my jF dW J J J (da hx))<|zo J (bB dW J J)<|bp J<|av<|aw<|bQ false af 46<|zo J (aM tJ)<|aP ?_;refine ax<|ah<|aw<|zo rfl (df qW mP rfl rfl)<|zo rfl (bB AS rfl rfl)<|zo rfl (jg xf rfl)<|zo rfl (bI hI)<|av<|aA<|be (k:=28) J fun hN1=>bL<|kW<|kW<|kW<|nG<|kW ?_;refine aU (jW (Z:=fun ls1 i1 y l1 c1=>(n.Items.drop i1=ls1)∧gH (fx n tl) e1 out ls1 y=some R) (Of:=fun _ i1 y l1 c1=>[fj cY 43 l c out,fj af 46 l1 c1 y,bx (rH ea [(1,aR (ix.h 0).1 (ix.h 0).2 r.rows.length),(2,aR (ix.h 1).1 (ix.h 1).2 r.width.length)]) 96 b r,dT dO 32 (ix.h 0).1 (ix.h 0).2 r.rows,dT cd 3 (ix.h 1).1 (ix.h 1).2 r.width]) (Gf:=fun _ i1 y l1 c1=>[(3,bK aF n),(6,sb l c out),(8,ca (af) e1),(9,sb l1 c1 y),(21,ca (cY) e),(22,jz e),(23,bM (i:Int)),(28,ca (cj) n.Items),(29,jz n.Items),(30,bM (i1:Int))]) (fun i1 y l1 c1 h=>?_) (fun e2 tl1 ih1 i1 y l1 c1 h=>?_) n.Items 0 HQ none 0 ⟨J,h⟩) (bu J)
  ·obtain⟨hx1,h⟩:=h
   refine aB<|aw<|zo J (fM J J)<|av<|ah<|bz (ht J) (du hx1)<|bv ?_;refine ai (ai (aO ?_));refine ax<|au<|aG rfl<|aG rfl<|bF<|jC<|iW 9 rfl<|iW 49 rfl<|zo rfl (aS (r:=cY) (ys:=[y]) (xs:=[.tmp 49]) jF dW J J J J J ⟨(kz (ht J)),aT⟩)<|bF<|bC h fun out1 q_out1 h=>cT dW J J J J jF J J (ht J) (ht J) q_out1 fun l2 c2=>bp J<|aP<|aq<|ax<|au<|zo rfl (mz (cM hx hN) rfl)<|aG rfl<|aP<|bD<|ba ?_;exact bm (aU (ih (i+1) out1 l2 c2 ⟨cL hx,h⟩) (bu J))
  ·obtain⟨hx1,h⟩:=h
   refine aB<|aw<|zo J (fM J J)<|av<|ah<|bw (ht J) (di hx1)<|dS<|ah<|aA<|aw<|zo J (my xf j3 J J J (da hx1))<|zo J (bB j3 J J)<|aW (r:=cj) (x:=zQ) j3 (fun _=>pX _) J fun b1=>ap j3 J an J (ht J) (ht J)<|aV 11 J<|av<|aw<|zo J (bB j3 J J) ?_;refine aG J<|bC h fun r1 q_r1 h=>zo J (aC SQ (I6 _ _ q_r1) ⟨(ht J),(ht J),aT⟩)<|aG J<|zo J (gp J J)<|zo J (gp J J)<|aW (r:=af) (x:=ig) aH (fun _=>bj _) J fun b2=>ap aH J an J (ht J) (ht J)<|aV 12 J<|bp J<|av<|ah<|aw<|aG J<|zo J (s4 J)<|av<|cU h J (fun h=>?_) (fun h=>?_)
   ·refine aw<|aG J<|zo J (aM (show aI _ _ _ uN from jQ))<|bp J<|av<|am ?_;refine ae (aD (ae (ae (aD (ae (aD (ae (ae (aD (ae ?_))))))))));refine ba<|ba<|aK<|aK<|aK ?_;cases so h;exact d6 (ts:=[ca (cY) ([]),bM r1.2]) (rvs:=[.tmp 4,.tmp 5]) J J ⟨aZ J,aZ J,aT⟩ pS J J
   ·refine dS<|au<|aG J<|zo J (bB aH J J)<|zo J (aS (r:=af) (ys:=[r1.1]) (xs:=[.tmp 44]) jh aH J J J J J ⟨(ht J),aT⟩)<|bF<|bC h fun y1 q_y1 h=>cT aH J J J J jh J J (ht J) (ht J) q_y1 fun l3 c3=>bp J<|aP<|aq<|ax<|au<|zo rfl (mz (cM hx1 hN1) rfl)<|aG rfl<|aP<|fh<|fh<|fh<|cA<|fh ?_;exact bm (aU (ih1 (i1+1) y1 l3 c3 ⟨cL hx1,h⟩) (bu J))

theorem Ld(l:(List (List ac))){R:(List (List ac))}(h:te l=some R):fZ aQ 109 [ca (cY) l] false cY 43 R:=by
 refine fZ.of Tryz.func109 J J J fun w0 S0=>aw<|bQ false cY 43<|zo J (aM tJ)<|av<|aw<|aG J<|bC h fun r q_r h=>iy Xa (Lc _ q_r) ⟨(ht J),aT⟩ J fun l1 c=>bp J<|av<|aw<|aG J<|bC h fun uP q_srt h=>?_;refine FM (n:=r.length) wB ?_ SN ?_ q_srt ?_ ?_ ?_ ?_ ?_
 ·rfl
 ·rfl
 ·exact(ht J)
 ·rfl
 ·exact(show aI _ _ _ ((dX aQ D9 y6 (fun(x:(List ac)×(List ac))=>pI x.1 x.2)))from(zC V4 fun x y h=>IS _ _ h))
 ·rfl
 intro hl
 refine o8 hl 5 J<|o8 hl 3 J<|o8 hl 6 J<|av<|aw<|aG J<|bp J<|av<|am ?_;cases so h;exact gn J J
theorem YP(l:Option Nat)(c:Nat)(s:(List (List ac)))(eq:((List ac)→(List ac)→Option Bool)){R:(List (List ac))}(h:eS s eq=some R):cX aQ 186 [sb l c s,(dX aQ D9 nH (fun(x:(List ac)×(List ac))=>eq x.1 x.2))] [fj cY 43 l c s] (fun i:OI=>sb (i.h 0).1 (i.h 0).2 R) (fun i=>[fj cY 43 (i.h 0).1 (i.h 0).2 R]):=by
 refine cX.of Tryz.func186 J J J fun w0 S0=>aw<|bQ false cY 43<|zo J (aM tJ)<|av<|ah<|aw<|aG J<|zo J (jA jF (.tail _ (.head _)) (ht J))<|zo J (gi (ht J) hI)<|av<|cU h J (fun h=>?_) (fun h=>?_)
 ·refine aw<|aG J<|bp J<|av<|am<|ae<|ba ?_;cases so h;exact nk J (oi l c) J J (fun _ _ h=>h)
 ·refine dS<|ah<|aw<|zo J (cD)<|av<|aA<|oN (.tail _ (.head _)) fun hN=>bL<|rm ?_;refine aU (eI (Z:=fun ls i=>(s.drop i=ls)∧cI s eq ls i=some R) (Of:=fun _ i=>[fj cY 43 l c s]) (Gf:=fun _ i=>[(0,sb l c s),(1,(dX aQ D9 nH (fun(x:(List ac)×(List ac))=>eq x.1 x.2))),(5,bM (i:Int))]) (fun i h=>?_) (fun e tl ih i h=>?_) (s.drop (1)) 1 ⟨J,h⟩) (bu J)
  ·obtain⟨hx,h⟩:=h
   refine aB<|ah<|aw<|aG J<|aG J<|zo J (jA jF (.head _) (ht J))<|zo J (fM J J)<|av<|bz (ht J) (du hx)<|bv ?_;refine ai (ai (aO ?_));refine ax<|aw<|aG rfl<|bp rfl<|av<|am ?_;cases so h;exact nk J (oi l c) J J (fun _ _ h=>h)
  ·obtain⟨hx,h⟩:=h
   refine aB<|ah<|aw<|aG J<|aG J<|zo J (jA jF (.head _) (ht J))<|zo J (fM J J)<|av<|bw (ht J) (di hx)<|dS<|ah<|aA<|ah<|bC h fun e1 q_e1 h=>bC h fun r q_r h=>?_
   refine c9 (ts:=[_,_,_,_,_,_,_,_,_,_,_]) mixed J J
    ⟨eM 1 J J J (dl J),
    ⟨eM 0 J J J (dl J),
    ⟨eM 5 J J J (dl J),
    ⟨d8 19 1 20 2 J J J J (cK jF dW (.head _) (ht J) (ht J) (da hx)),
    ⟨bY 21 3 J J J (gq (r:=cY) (i:=(i:Int)) (foff:=0) dW J J bT J (.head _) (da hx) (ht J)),
    ⟨eM 0 J J J (dl J),
    ⟨eM 5 J J J (dl J),
    ⟨bY 24 6 J J J (iQ (ht J) hI),
    ⟨d8 23 5 25 7 J J J J (cK jF dW (.head _) (ht J) (ht J) q_e1),
    ⟨bY 26 8 J J J (gq (r:=cY) (i:=(IntKind.i64.wrap ((i:Int)-(1:Int)))) (foff:=0) dW J J bT J (.head _) q_e1 (ht J)),
    ⟨GL 18 0 22 4 27 9 J J J J J (gZ (args:=Tw) (res:=HS) (f:=(fun(x:(List ac)×(List ac))=>eq x.1 x.2)) (x:=((e,e1):(List ac)×(List ac))) (ht J) q_r ⟨(ht J),(ht J),aT⟩),
    aT⟩⟩⟩⟩⟩⟩⟩⟩⟩⟩⟩ ?_
   refine ax<|cU h rfl (fun h=>?_) (fun h=>?_)
   ·refine aw<|aG J<|aG J<|bC h fun y q_y h=>zo J (n8 jF dW J (.head _) (ht J) (ht J) q_y)<|m7 (.head _) q_y fun hv=>bp J<|av<|ah<|aw<|zo J (cD)<|av<|aA<|bL ?_;refine aU (Jk (Z:=fun k1 i1 s1 k=>(y.length-i1=k1)∧ci eq i y k1 i1 s1 k=some R) (Of:=fun _ i1 s1 k=>[fj cY 43 l c s1]) (Gf:=fun _ i1 s1 k=>[(0,sb l c s1),(1,(dX aQ D9 nH (fun(x:(List ac)×(List ac))=>eq x.1 x.2))),(5,bM k),(6,tV (oP 1 l c (i:Int).toNat y.length)),(7,bM (i1:Int))]) (fun i1 s1 k h=>?_) (fun k2 ih1 i1 s1 k h=>?_) (y.length-1) 1 s (i:Int) ⟨J,h⟩) (bu J)
    ·obtain⟨hx1,h⟩:=h
     refine aB<|ah<|aw<|aG J<|aG J<|zo J (DC jF hv.1 (ht J))<|zo J (fM J J)<|av<|bz (ht J) (X8 hx1)<|bv ?_;refine ai (ai (aO ?_));refine ax<|aw<|aG rfl<|aG rfl<|bC h fun y1 q_y1 h=>zo J (n8 jF dW J (.head _) (ht J) (ht J) q_y1)<|m7 (.head _) q_y1 fun hv1=>bC h fun cl q_cl h=>Hy dW J J jF (fun _=>⟨none,0,J,dy _,lF _,.inl J⟩) J q_y1 (ht J) (so q_cl)<|iH (yQ q_y1 (so q_cl)) 0 J<|iH (yQ q_y1 (so q_cl)) 59 J<|av<|aw<|aG J<|aG J<|bC h fun y2 q_y2 h=>zo J (lh jF dW J (.head _) (ht J) (ht J) q_y2)<|wD q_y2<|bp J<|av ?_;refine am ?_;refine aD (ae (ae (aD (ae ?_))));cases so h;exact nk J (oi l c) J J (fun _ _ h=>h)
    ·obtain⟨hx1,h⟩:=h
     refine aB<|ah<|aw<|aG J<|aG J<|zo J (DC jF hv.1 (ht J))<|zo J (fM J J)<|av<|bw (ht J) (X7 hx1)<|dS<|ah<|aA<|ah<|bC h fun e3 q_e3 h=>bC h fun e4 q_e4 h=>bC h fun r1 q_r1 h=>?_
     refine c9 (ts:=[_,_,_,_,_,_,_,_,_,_,_,_]) mixed J J
      ⟨eM 1 J J J (dl J),
      ⟨eM 6 J J J (dl J),
      ⟨eM 7 J J J (dl J),
      ⟨d8 39 1 40 2 J J J J (nr jF dW J (.head _) (sJ q_y) (ht J) (ht J) q_e3),
      ⟨bY 41 3 J J J (gq (r:=cY) (i:=((i:Int)+(i1:Int))) (foff:=0) dW J J bT J (.head _) (qQ q_e3).2.2 (ht J)),
      ⟨eM 6 J J J (dl J),
      ⟨eM 7 J J J (dl J),
      ⟨bY 44 6 J J J (iQ (ht J) hI),
      ⟨d8 43 5 45 7 J J J J (nr jF dW J (.head _) (sJ q_y) (ht J) (ht J) q_e4),
      ⟨bY 46 8 J J J (gq (r:=cY) (i:=((i:Int)+(IntKind.i64.wrap ((i1:Int)-(1:Int))))) (foff:=0) dW J J bT J (.head _) (qQ q_e4).2.2 (ht J)),
      ⟨GL 38 0 42 4 47 9 J J J J J (gZ (args:=Tw) (res:=HS) (f:=(fun(x:(List ac)×(List ac))=>eq x.1 x.2)) (x:=((e3,e4):(List ac)×(List ac))) (ht J) q_r1 ⟨(ht J),(ht J),aT⟩),
      ⟨bY 48 10 J J J (gh (ht J)),
      aT⟩⟩⟩⟩⟩⟩⟩⟩⟩⟩⟩⟩ ?_
     refine ax<|cU h rfl (fun h=>?_) (fun h=>?_)
     ·refine aw<|aG J<|aG J<|aG J<|aG J<|bC h fun e5 q_e5 h=>zo J (nr jF dW J (.head _) (sJ q_y) (ht J) (ht J) q_e5)<|zo J (gq (r:=cY) (i:=((i:Int)+(i1:Int))) (foff:=0) dW J J bT J (.head _) (qQ q_e5).2.2 (ht J))<|bC h fun e6 q_e6 h=>zo J (cK jF dW (.head _) (ht J) (ht J) q_e6)<|bC h fun st q_st h=>sW dW J an J q_e6 (so q_st) (ht J) (ht J)<|iH (mE (so q_st)) 0 J<|iH (mE (so q_st)) 50 J<|av<|au<|aG J<|zo J (oa (ht J) hI)<|bp J<|aP<|aq<|ax ?_;refine au<|aG J<|zo J (yE (Rv hx1 (Ue hv.2)) (ht J) hI)<|bp J<|aP ?_;exact bm (aU (ih1 (i1+1) st (IntKind.i64.wrap (k+(1:Int))) ⟨Ru hx1,h⟩) (bu J))
     ·refine bA<|aq<|ax<|au<|aG rfl<|zo rfl (yE (Rv hx1 (Ue hv.2)) (ht rfl) hI)<|bp rfl<|aP ?_;exact bm (aU (ih1 (i1+1) s1 k ⟨Ru hx1,h⟩) (bu J))
   ·refine bA<|aq<|ax<|au<|aG rfl<|zo rfl (mz (cM hx hN) rfl)<|bp rfl<|aP ?_;exact bm (aU (ih (i+1) ⟨cL hx,h⟩) (bu J))

theorem VQ(l:(List (List ac))){R:(List (List ac))×Int}(h:su l=some R):aX aQ 108 [ca (cY) l] (tT [ca (cY) R.1,bM R.2]):=by
 refine aX.of Tryz.func108 J J J fun w0 S0=>aw<|zo J (aM (show aI _ _ _ uN from jQ))<|zo J (cD)<|av<|ah<|aw<|aG J<|zo J (aS (r:=dO) (ys:=[l]) (xs:=[.tmp 5]) oA gF J J J J J ⟨(ht J),aT⟩)<|bC h fun r q_r h=>zo J (aC V3 (IR _ q_r) ⟨(ht J),aT⟩)<|bp J<|av<|aw<|aG J<|zo J (s4 J)<|av<|cU h J (fun h=>?_) (fun h=>?_)
 ·refine aw<|aG J<|zo J (aM (show aI _ _ _ uN from jQ))<|bp J<|av<|am<|ae ?_;cases so h;exact cC J J J
 ·refine dS<|aw<|aG J<|bC h fun r1 q_r1 h=>iy Xc (Ld _ q_r1) ⟨(ht J),aT⟩ J fun l1 c=>bC h fun r2 q_r2 h=>BO [fj cY 43 l1 c r1] _ J abC (YP l1 c _ _ q_r2) ⟨(ht J),(zC Y5 fun x y h=>Nc _ _ h),aT⟩ J fun i=>?_;refine(show RG _ _ _ _ [fj cY 43 (i.h 0).1 (i.h 0).2 r2] ((13,sb (i.h 0).1 (i.h 0).2 r2)::_)from ?_);refine bp J<|zo J (cD)<|av<|am<|jD<|cE 2 J<|cE 13 J<|jE 2 J<|ba ?_;cases so h;exact cC J J J

theorem aad(b:Nat)(ix:OI)(r:cS)(n:aj){R:(List (List ac))×Int}(h:iF r n=some R):cX aQ 56 [tV (aN b 0),tD aF n] (jr b r ix) (fun _:OI=>tT [ca (cY) R.1,bM R.2]) (fun _=>(jr b r ix)):=by
 refine cX.of Tryz.func56 J J J fun w0 S0=>?_;refine(show CG _ _ _ [bx (rH ea [(1,aR (ix.h 0).1 (ix.h 0).2 r.rows.length),(2,aR (ix.h 1).1 (ix.h 1).2 r.width.length)]) 96 b r,dT dO 32 (ix.h 0).1 (ix.h 0).2 r.rows,dT cd 3 (ix.h 1).1 (ix.h 1).2 r.width] _ from ?_);refine aw<|zo J (jm J)<|zo J (aM (show aI _ _ _ uN from jQ))<|zo J (cD)<|av<|ah<|bC h fun e q_e h=>bC h fun r1 q_r1 h=>?_
 refine c9 (ts:=[_,_,_,_,_,_,_,_,_,_,_,_,_]) mixed J J
  ⟨eM 0 J J J (dl J),
  ⟨bY 6 0 J J J (dB (ht J)),
  ⟨bY 7 1 J J J (jN 1 qV J J J),
  ⟨bY 8 2 J J J (dd vb J (.head _) (.tail _ (.head _)) (ht J)),
  ⟨eM 3 J J J (df ju dN J J),
  ⟨bY 10 4 J J J (bB cx J J),
  ⟨d8 9 3 11 5 J J J J (br oA gF J (kz (ht J)) (ht J) q_e),
  ⟨bY 12 6 J J J (bB gF J J),
  ⟨bY 13 7 J J J (aC ab5 (VQ _ q_r1) ⟨(ht J),aT⟩),
  ⟨bY 14 8 J J J (gp J J),
  ⟨bY 14 8 J J J (gp J J),
  ⟨bY 15 9 J J J (u8 J),
  ⟨bY 16 10 J J J (u8 J),
  aT⟩⟩⟩⟩⟩⟩⟩⟩⟩⟩⟩⟩⟩ ?_
 refine ax<|am<|aK<|aK<|aK ?_;cases so h;exact d6 (ts:=[ca (cY) r1.1,bM r1.2]) (rvs:=[.tmp 4,.tmp 5]) J J ⟨aZ J,aZ J,aT⟩ pS J J

theorem Sl(n:Int){R:(List (List ac))}(h:hX n=some R):fZ aQ 162 [tV (.slice none 0 0),bM n] false cY 43 R:=by
 refine fZ.of Tryz.func162 J J J fun w0 S0=>aw<|bQ false cY 43<|zo J (aM tJ)<|av ?_;refine sX (Z:=i6 n=some R) (Of:=[]) (Gf:=[(0,tV (.slice none 0 0)),(1,bM n)]) (fun h=>?_) (fun K=>?_)
 ·skip
  refine yX (Z:=fun s l c=>iZ s=some R) (Of:=fun s l c=>[fj cY 43 l c s]) (Gf:=fun s l c=>[(0,sb l c s)]) (fun s l c h=>?_) (fun K1=>?_)
  ·skip
   refine aw<|aG J<|bp J<|av<|am ?_;cases so h;exact gn J J
  ·skip
   refine aw<|aG J<|aG J<|zo J (sQ jF (ht J))<|aG J<|zo J (sP jF (ht J))<|zo J (iQ (ht J) (ht J))<|zo J (iQ (ht J) (ht J))<|bp J<|av<|aw<|aG J<|zo J (gv (ht J) hI)<|av<|cU h J (fun h=>?_) (fun h=>?_)
   ·refine au<|aG J<|aG J<|zo J (sQ jF (ht J))<|zo J (xM jF dW (ht J) (ht J))<|aG J<|bC h fun u q_u h=>bC h fun mk q_mk h=>Ar (xZ (r:=cY) (x:=[]) dW J J J J jF kY (fun _=>⟨none,0,J,dy _,lF _,.inl J⟩) (ht J) (ht J) (Fg q_u) q_mk) J fun i=>aG J<|zo J (sP jF (ht J))<|bC h fun y q_y h=>zo J (lh jF dW J (.head _) (ht J) (ht J) q_y)<|wD q_y<|bp J<|aP ?_;exact cw (K1 y (i.h 0).1 (i.h 0).2 h) (bu J)
   ·refine bA<|F1 false cY 43 ?_;exact cw (K1 HR none 0 h) (bu J)
 ·skip
  refine aw<|aG J<|zo J (gi (ht J) hI)<|av<|cU h J (fun h=>?_) (fun h=>?_)
  ·refine au ?_;exact(nn h).elim
  ·refine bA<|ba ?_;exact cw (K h) (bu J)
theorem OB(slices:(List (List (List ac)))){R:(List (List ac))}(h:dR slices=some R):fZ aQ 98 [ca (dO) slices] false cY 43 R:=by
 refine fZ.of Tryz.func98 J J J fun w0 S0=>aw<|bQ false cY 43<|zo J (aM tJ)<|av<|aw<|zo J (cD)<|av<|ah<|aw<|aG J<|zo J (jg oA J)<|zo J (bI hI)<|av<|aA<|be (k:=9) J fun hN=>bL<|rm ?_;refine aU (oz (Z:=fun ls i size=>(slices.drop i=ls)∧fC slices ls size=some R) (Of:=fun _ i size=>[]) (Gf:=fun _ i size=>[(0,ca (dO) slices),(3,bM size),(9,ca (dO) slices),(10,jz slices),(11,bM (i:Int))]) (fun i size h=>?_) (fun e tl ih i size h=>?_) slices 0 (0:Int) ⟨J,h⟩) (bu J)
 ·obtain⟨hx,h⟩:=h
  refine aB<|aw<|zo J (fM J J)<|av<|ah<|bz (ht J) (du hx)<|bv ?_;refine ai (ai (aO ?_));refine ax<|aw<|aG rfl<|bC h fun r q_r h=>iy abO (Sl _ q_r) ⟨hV,(ht J),aT⟩ J fun l c=>bp J<|av<|ah<|aw<|aG J<|zo J (jg oA J)<|zo J (bI hI)<|av<|aA<|be (k:=25) J fun hN1=>bL ?_;refine aU (jW (Z:=fun ls1 i1 newslice l1 c1=>(slices.drop i1=ls1)∧fz ls1 newslice=some R) (Of:=fun _ i1 newslice l1 c1=>[fj cY 43 l1 c1 newslice]) (Gf:=fun _ i1 newslice l1 c1=>[(6,sb l1 c1 newslice),(25,ca (dO) slices),(26,jz slices),(27,bM (i1:Int))]) (fun i1 newslice l1 c1 h=>?_) (fun e1 tl1 ih1 i1 newslice l1 c1 h=>?_) slices 0 r l c ⟨J,h⟩) (bu J)
  ·obtain⟨hx1,h⟩:=h
   refine aB<|aw<|zo J (fM J J)<|av<|ah<|bz (ht J) (du hx1)<|bv ?_;refine ai (ai (aO ?_));refine ax<|aw<|aG rfl<|bp rfl<|av<|am ?_;cases so h;exact gn J J
  ·obtain⟨hx1,h⟩:=h
   refine aB<|aw<|zo J (fM J J)<|av<|ah<|bw (ht J) (di hx1)<|dS<|ah<|aA<|aw<|zo J (my oA gF J J J (da hx1))<|zo J (bB gF J J)<|bp J<|av<|au<|aG J<|aG J<|bC h fun newslice1 q_newslice1 h=>cT dW J J J J jF J J (ht J) (ht J) q_newslice1 fun l2 c2=>?_;refine bp J<|aP<|aq<|ax<|au<|zo rfl (mz (cM hx1 hN1) rfl)<|aG rfl<|aP ?_;exact bm (aU (ih1 (i1+1) newslice1 l2 c2 ⟨cL hx1,h⟩) (bu J))
 ·obtain⟨hx,h⟩:=h
  refine aB<|aw<|zo J (fM J J)<|av<|ah<|bw (ht J) (di hx)<|dS<|ah<|aA<|aw<|zo J (my oA gF J J J (da hx))<|zo J (bB gF J J)<|bp J<|av<|aw<|aG J<|aG J<|zo J (jg jF J) ?_;refine zo J (oa (ht J) (ht J))<|bp J<|av<|aw<|aG J<|zo J (gi (ht J) hI)<|av<|cU h J (fun h=>?_) (fun h=>?_)
  ·refine au ?_;exact(nn h).elim
  ·refine bA<|aq<|ax<|au<|zo rfl (mz (cM hx hN) rfl)<|aG rfl<|aP ?_;exact bm (aU (ih (i+1) (IntKind.i64.wrap (size+(e.length:Int))) ⟨cL hx,h⟩) (bu J))
theorem Yp(slices:(List (List (List ac)))){R:(List (List ac))}(h:dR slices=some R):aX aQ 98 [ca (dO) slices] (ca (cY) R):=(OB _ h).spec

theorem aac(b:Nat)(ix:OI)(r:cS)(n:aj){R:(List (List ac))×Int}(h:ko r n=some R):cX aQ 57 [tV (aN b 0),tD aF n] (jr b r ix) (fun _:OI=>tT [ca (cY) R.1,bM R.2]) (fun _=>(jr b r ix)):=by
 refine cX.of Tryz.func57 J J J fun w0 S0=>?_;refine(show CG _ _ _ [bx (rH ea [(1,aR (ix.h 0).1 (ix.h 0).2 r.rows.length),(2,aR (ix.h 1).1 (ix.h 1).2 r.width.length)]) 96 b r,dT dO 32 (ix.h 0).1 (ix.h 0).2 r.rows,dT cd 3 (ix.h 1).1 (ix.h 1).2 r.width] _ from ?_);refine aw<|zo J (jm J)<|zo J (aM (show aI _ _ _ uN from jQ))<|zo J (cD)<|av<|ah<|bC h fun e q_e h=>bC h fun e1 q_e1 h=>bC h fun r1 q_r1 h=>?_
 refine c9 (ts:=[_,_,_,_,_,_,_,_,_,_,_,_,_,_,_,_,_,_,_,_]) mixed J J
  ⟨eM 0 J J J (dl J),
  ⟨bY 6 0 J J J (dB (ht J)),
  ⟨bY 7 1 J J J (jN 1 qV J J J),
  ⟨bY 8 2 J J J (dd vb J (.head _) (.tail _ (.head _)) (ht J)),
  ⟨eM 3 J J J (df ju dN J J),
  ⟨bY 10 4 J J J (bB cx J J),
  ⟨d8 9 3 11 5 J J J J (br oA gF J (kz (ht J)) (ht J) q_e),
  ⟨bY 12 6 J J J (bB gF J J),
  ⟨eM 0 J J J (dl J),
  ⟨bY 14 8 J J J (dB (ht J)),
  ⟨bY 15 9 J J J (jN 1 qV J J J),
  ⟨bY 16 10 J J J (dd vb J (.head _) (.tail _ (.head _)) (ht J)),
  ⟨eM 3 J J J (df qm kI J J),
  ⟨bY 18 12 J J J (bB cx J J),
  ⟨d8 17 11 19 13 J J J J (br oA gF J (kz (ht J)) (ht J) q_e1),
  ⟨bY 20 14 J J J (bB gF J J),
  ⟨d8 13 7 21 15 J J J J (aS (r:=dO) (ys:=[e,e1]) (xs:=[.tmp 13,.tmp 21]) oA gF J J J J J ⟨(ht J),(ht J),aT⟩),
  ⟨bY 22 16 J J J (aC aaq (Yp _ q_r1) ⟨(ht J),aT⟩),
  ⟨bY 23 17 J J J (u8 J),
  ⟨Pv J J (cD),
  aT⟩⟩⟩⟩⟩⟩⟩⟩⟩⟩⟩⟩⟩⟩⟩⟩⟩⟩⟩⟩ ?_
 refine ax<|am<|aK<|aK<|aK ?_;cases so h;exact d6 (ts:=[ca (cY) r1,bM 0]) (rvs:=[.tmp 4,.tmp 5]) J J ⟨aZ J,aZ J,aT⟩ pS J J

theorem VG(order:(List gG))(a1:(List ac))(b:(List ac)){R:Int}(h:ou order a1 b=some R):aX aQ 154 [ca (af) a1,ca (af) b,bK (fV gI) order] (bM R):=by
 refine aX.of Tryz.func154 J J J fun w0 S0=>aw<|zo J (cD)<|av<|ah<|aw<|zo J (bB H2 J J)<|zo J (jg DW J)<|zo J (bI hI)<|av<|aA<|be (k:=9) J fun hN=>bL ?_;refine aU (eI (Z:=fun ls i=>(order.drop i=ls)∧jw a1 b ls=some R) (Of:=fun _ i=>[]) (Gf:=fun _ i=>[(0,ca (af) a1),(1,ca (af) b),(9,ca (gI) order),(10,jz order),(11,bM (i:Int))]) (fun i h=>?_) (fun e tl ih i h=>?_) order 0 ⟨J,h⟩) (bu J)
 ·obtain⟨hx,h⟩:=h
  refine aB<|aw<|zo J (fM J J)<|av<|ah<|bz (ht J) (du hx)<|bv ?_;refine ai (ai (aO ?_));refine ax<|aw<|aG rfl<|aG rfl<|bC h fun r q_r h=>zo J (aC aaw (R7 _ _ q_r) ⟨(ht J),(ht J),aT⟩)<|bp J<|av<|am ?_;cases so h;exact aJ J J
 ·obtain⟨hx,h⟩:=h
  refine aB<|aw<|zo J (fM J J)<|av<|ah<|bw (ht J) (di hx)<|dS<|ah<|aA<|aw<|zo J (my DW JH J J J (da hx))<|zo J (bB JH J J)<|aW (r:=gI) (x:=(⟨(0:Int),false⟩:gG)) JH (fun _=>Xq _) J fun b1=>ap JH J an J (ht J) (ht J)<|aV 7 J<|av<|ah<|bC h fun e1 q_e1 h=>bC h fun e2 q_e2 h=>?_
  obtain⟨r1,q_r1,h⟩:=bs h
  refine c9 (ts:=[_,_,_,_,_,_,_,_,_,_,_,_]) mixed J J
   ⟨eM 0 J J J (dl J),
   ⟨eM 7 J J J (df IN Bq J J),
   ⟨bY 16 1 J J J (bB cx J J),
   ⟨d8 15 0 17 2 J J J J (my jh aH J J J q_e1),
   ⟨bY 18 3 J J J (bB aH J J),
   ⟨eM 1 J J J (dl J),
   ⟨eM 7 J J J (df IN Bq J J),
   ⟨bY 21 6 J J J (bB cx J J),
   ⟨d8 20 5 22 7 J J J J (my jh aH J J J q_e2),
   ⟨bY 23 8 J J J (bB aH J J),
   ⟨d8 19 4 24 9 J J J J (aC SO (I4 _ _ q_r1) ⟨(ht J),(ht J),aT⟩),
   ⟨bY 25 10 J J J (u8 J),
   aT⟩⟩⟩⟩⟩⟩⟩⟩⟩⟩⟩⟩ ?_
  refine ax ?_;refine kw (Z:=fun n=>ot (jw a1 b tl) n=some R) (Of:=fun n=>[]) (Gf:=fun n=>[(0,ca (af) a1),(1,ca (af) b),(8,bM n),(9,ca (gI) order),(10,jz order),(11,bM (i:Int))]) (fun n h=>?_) (fun K=>?_)
  ·skip
   refine aw<|aG J<|zo J (s4 J)<|av<|cU h J (fun h=>?_) (fun h=>?_)
   ·refine aw<|aG J<|bp J<|av<|am ?_;refine aD (ae (ae (aD (ae ?_))));cases so h;exact aJ J J
   ·refine bA<|aq<|ax<|au<|zo rfl (mz (cM hx hN) rfl)<|aG rfl<|aP ?_;exact bm (aU (ih (i+1) ⟨cL hx,h⟩) (bu J))
  ·skip
   refine aw<|zo J (df Yo RX J J)<|zo J (bB H4 J J)<|av<|cU h J (fun h=>?_) (fun h=>?_)
   ·refine au<|aG J<|zo J (Iy (ht J))<|bp J<|aP ?_;exact cw (K (IntKind.i64.wrap (0-r1)) h) (bu J)
   ·refine bA ?_;exact cw (K r1 h) (bu J)

theorem Ys(order:(List gG)){R:((List ac)→(List ac)→Option Int)}(h:Cu order=some R):aX aQ 89 [ca (gI) order] ((dX aQ D9 y6 (fun(x:(List ac)×(List ac))=>R x.1 x.2))):=by
 refine aX.of Tryz.func89 J J J fun w0 S0=>aw<|zo J (jm J)<|zo J (aM hV)<|av<|aw<|zo J ((show bS _ _ _ _ ((dX aQ D9 y6 (fun(x:(List ac)×(List ac))=>(ou order) x.1 x.2)))from iK (cts:=[bK (fV gI) order]) (caps:=[.tmp 1]) abU ⟨(ht J),aT⟩ (fun x y h=>VG _ _ _ h)))<|bp J<|av<|am ?_;cases so h;exact aJ J J

theorem UA(rows:(List (List ac)))(order:(List gG))(limit:Int){R:(List (List ac))}(h:o6 rows order limit=some R):fZ aQ 86 [ca (cY) rows,ca (gI) order,bM limit] false cY 43 R:=by
 refine fZ.of Tryz.func86 J J J fun w0 S0=>aw<|bQ false cY 43<|zo J (aM tJ)<|av<|aw<|bQ false cY 43<|zo J (aM tJ)<|av<|ah<|aw<|aG J<|zo J (jg jF J)<|zo J (bI hI)<|av<|aA<|be (k:=10) J fun hN=>bL ?_;refine hU<|rm ?_;refine aU (jW (Z:=fun ls i out l c=>(rows.drop i=ls)∧km order limit ls out=some R) (Of:=fun _ i out l c=>[fj cY 43 l c out]) (Gf:=fun _ i out l c=>[(1,ca (gI) order),(2,bM limit),(7,sb l c out),(10,ca (cY) rows),(11,jz rows),(12,bM (i:Int))]) (fun i out l c h=>?_) (fun e tl ih i out l c h=>?_) rows 0 HR none 0 ⟨J,h⟩) (bu J)
 ·obtain⟨hx,h⟩:=h
  refine aB<|aw<|zo J (fM J J)<|av<|ah<|bz (ht J) (du hx)<|bv ?_;refine ai (ai (aO ?_));refine ax<|aw<|aG rfl<|aG rfl<|bC h fun r q_r h=>zo J (aC acH (Ys _ q_r) ⟨(ht J),aT⟩)<|bC h fun uP q_srt h=>?_;refine FM (n:=out.length) wB ?_ SN ?_ q_srt ?_ ?_ ?_ ?_ ?_
  ·rfl
  ·rfl
  ·exact(ht J)
  ·rfl
  ·exact(ht J)
  ·rfl
  intro hl
  refine o8 hl 7 J<|o8 hl 22 J<|av ?_;refine yX (Z:=fun out1 l1 c1=>oK out1=some R) (Of:=fun out1 l1 c1=>[fj cY 43 l1 c1 out1]) (Gf:=fun out1 l1 c1=>[(7,sb l1 c1 out1)]) (fun out1 l1 c1 h=>?_) (fun K=>?_)
  ·skip
   refine aw<|aG J<|bp J<|av<|am ?_;cases so h;exact gn J J
  ·skip
   refine aw<|aG J<|zo J (jq (ht J) hI)<|aG J<|dQ J J (fun hg=>dl J)<|dQ J J (fun hg=>dl J)<|dQ J J (fun hg=>jA jF (.head _) (bN J hg))<|dQ J J (fun hg=>gi (bN J hg) (bN J hg))<|zo J (u6 J J)<|av<|cU h J (fun h=>?_) (fun h=>?_)
   ·refine au<|aG J<|aG J<|bC h fun y q_y h=>zo J (lh jF dW J (.head _) (ht J) (ht J) q_y)<|wD q_y<|bp J<|aP ?_;exact cw (K y l c h) (bu J)
   ·refine bA ?_;exact cw (K uP l c h) (bu J)
 ·obtain⟨hx,h⟩:=h
  refine aB<|aw<|zo J (fM J J)<|av<|ah<|bw (ht J) (di hx)<|dS<|ah<|aA<|aw<|zo J (my jF dW J J J (da hx))<|zo J (bB dW J J)<|bp J<|av<|au<|aG J<|aG J<|bC h fun r1 q_r1 h=>iy SR (Ft _ q_r1) ⟨(ht J),aT⟩ J fun l2 c2=>?_;refine jC<|iW 18 J<|zo J (aS (r:=cY) (ys:=[r1]) (xs:=[.tmp 18]) jF dW J J J J J ⟨(kz (ht J)),aT⟩)<|bF<|bC h fun out2 q_out2 h=>cT dW J J J J jF J J (ht J) (ht J) q_out2 fun l3 c3=>bp J<|aP<|aq<|ax<|au<|zo rfl (mz (cM hx hN) rfl)<|aG rfl<|aP<|bD<|ba ?_;exact bm (aU (ih (i+1) out2 l3 c3 ⟨cL hx,h⟩) (bu J))
theorem Yt(rows:(List (List ac)))(order:(List gG))(limit:Int){R:(List (List ac))}(h:o6 rows order limit=some R):aX aQ 86 [ca (cY) rows,ca (gI) order,bM limit] (ca (cY) R):=(UA _ _ _ h).spec

end Go.Proofs.YtfhhakidodmdfaaGreatDoor

