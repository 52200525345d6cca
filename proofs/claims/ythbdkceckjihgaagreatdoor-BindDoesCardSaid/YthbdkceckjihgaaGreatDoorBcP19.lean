/- dm of this claim: P19. -/
import Derived.Test.YthbdkceckjihgaaGreatDoorBcT
import Derived.Test.YthbdkceckjihgaaGreatDoorBcP18
set_option linter.all false
namespace Go.Proofs.YthbdkceckjihgaaGreatDoor
open Go
set_option maxRecDepth 100000

def Oa a1 b{R}(h:nd a1 b=some R):cN bd 52 [qn a1,qn b] (iD R):=by
 refine dp Tryz.func52 I<|aV<|bC<|bP<|aR<|aY I<|bY fH I<|aY I<|bY fH I<|d (du (M I) (M I))<|bX h I (fun h=>?_) (fun h=>?_)
 ·exact aV<|bC<|cA<|af<|so h▸au I I
 ·refine gp<|aR<|aY I<|bY fH I<|d (bB hI)<|bP<|ai<|aN (k:=11) I fun hN=>bp ?_;refine ay (dx (tD:=fun ls i=>(a1.drop i=ls)/\oX b ls i=some R) (Of:=fun _ i=>[]) (Gf:=fun _ i=>[(0,qn a1),(1,qn b),(12,iG a1),(13,bf (i:Int))]) (fun i h=>?_) (fun e tl ih i h=>?_) a1 0 ⟨I,h⟩) (a8 I)
  ·obtain⟨D,h⟩:=h
   exact dh D I<|aq<|aV<|bC<|cA<|so h▸au I I
  ·obtain⟨D,h⟩:=h
   refine dg D I<|aA<|ai<|aI I<|bh I<|aA<|cu h fun e1 q_e1 h=>?_
   refine d8 (ts:=[_,_,_,_,_,_,_,_,_]) mixed I I
    ⟨fv I I,
    ⟨fv I I,
    ⟨eh 16 0 17 1 I I I (uR fH cF I I I (cW D)),
    ⟨fA 2 cF I I,
    ⟨fv I I,
    ⟨fv I I,
    ⟨eh 20 4 21 5 I I I (uR fH cF I I I q_e1),
    ⟨fA 6 cF I I,
    ⟨eh 19 3 23 7 I I I (du (M I) (M I)),
    Q⟩⟩⟩⟩⟩⟩⟩⟩⟩ ?_
   refine aq<|lO h I (fun h=>?_) (fun h=>?_)
   ·exact aV<|bC<|cA<|bT<|af<|bT<|so h▸au I I
   ·refine bl<|cS D hN I ?_;exact aO (ay (ih (i+1) ⟨cO D,h⟩) (a8 I))

def Wq a1 b{R}(h:tm a1 b=some R):cN bd 111 [gb (ac) a1,gb (ac) b] (iD R):=by
 refine dp Tryz.func111 I<|aV<|bC<|bP<|aR<|aY I<|bY oQ I<|aY I<|bY oQ I<|d (du (M I) (M I))<|bX h I (fun h=>?_) (fun h=>?_)
 ·exact aV<|bC<|cA<|af<|so h▸au I I
 ·refine gp<|aR<|aY I<|bY oQ I<|d (bB hI)<|bP<|ai<|aN (k:=11) I fun hN=>bp ?_;refine ay (dx (tD:=fun ls i=>(a1.drop i=ls)/\pX b ls i=some R) (Of:=fun _ i=>[]) (Gf:=fun _ i=>[(0,gb (ac) a1),(1,gb (ac) b),(12,iG a1),(13,bf (i:Int))]) (fun i h=>?_) (fun e tl ih i h=>?_) a1 0 ⟨I,h⟩) (a8 I)
  ·obtain⟨D,h⟩:=h
   exact dh D I<|aq<|aV<|bC<|cA<|so h▸au I I
  ·obtain⟨D,h⟩:=h
   refine dg D I<|aA<|ai<|aI I<|bh I<|aA<|cu h fun e1 q_e1 h=>cu h fun r q_r h=>?_
   refine d8 (ts:=[_,_,_,_,_,_,_,_,_,_]) mixed I I
    ⟨fv I I,
    ⟨fv I I,
    ⟨eh 16 0 17 1 I I I (uR oQ bJ I I I (cW D)),
    ⟨fA 2 bJ I I,
    ⟨fv I I,
    ⟨fv I I,
    ⟨eh 20 4 21 5 I I I (uR oQ bJ I I I q_e1),
    ⟨fA 6 bJ I I,
    ⟨eh 19 3 23 7 I I I (bq Jn (AC _ _ q_r) ⟨(M I),(M I),Q⟩),
    ⟨fL 24 8 I I (fD (M I)),
    Q⟩⟩⟩⟩⟩⟩⟩⟩⟩⟩ ?_
   refine aq<|lO h I (fun h=>?_) (fun h=>?_)
   ·exact aV<|bC<|cA<|bT<|af<|bT<|so h▸au I I
   ·refine bl<|cS D hN I ?_;exact aO (ay (ih (i+1) ⟨cO D,h⟩) (a8 I))

def YO a1 b{R}(h:pU a1 b=some R):cN bd 53 [Z bw a1,Z bw b] (iD R):=by
 refine dp Tryz.func53 I<|aV<|cL I<|cL I<|bC<|bP<|aR<|aU uE ki xV I<|aU uE ki xV I<|d (wA FR (M I) (M I))<|aY I<|ap I (bQ Ke Da I I)<|ap I (bN xV I I)<|ap I (bQ Ke Da I I)<|ap I (bN xV I I)<|ap I (fun V=>wA FR (bE I V) (bE I V))<|dU I<|aY I ?_;refine ap I (bQ vX nY I I)<|ap I (bN Gb I I)<|ap I (gy FP I)<|ap I (bQ vX nY I I)<|ap I (bN Gb I I)<|ap I (gy FP I)<|ap I (fun V=>du (bE I V) (bE I V))<|dU I<|aY I<|ap I (bQ nZ mI I I)<|ap I (bN xU I I)<|ap I (gy wi I)<|ap I (bQ nZ mI I I)<|ap I (bN xU I I)<|ap I (gy wi I)<|ap I (fun V=>du (bE I V) (bE I V))<|dU I<|bX h I (fun h=>?_) (fun h=>?_)
 ·exact aV<|bC<|cA<|af<|so h▸au I I
 ·refine gp<|aR<|aU vX nY Gb I<|bY FP I<|d (bB hI)<|bP<|ai<|aN (k:=38) I fun hN=>bp ?_;refine ay (dx (tD:=fun ls i=>(a1.Joins.drop i=ls)/\jD a1 b ls i=some R) (Of:=fun _ i=>[]) (Gf:=fun _ i=>[(2,bo bw a1),(3,bo bw b),(39,iG a1.Joins),(40,bf (i:Int))]) (fun i h=>?_) (fun e tl ih i h=>?_) a1.Joins 0 ⟨I,h⟩) (a8 I)
  ·obtain⟨D,h⟩:=h
   refine dh D I<|aq<|aR<|aU nZ mI xU I<|bY wi I<|d (bB hI)<|bP<|ai<|aN (k:=74) I fun hN1=>?_;refine bp ?_;refine ay (dx (tD:=fun ls1 i1=>(a1.Aggs.drop i1=ls1)/\ij a1 b ls1 i1=some R) (Of:=fun _ i1=>[]) (Gf:=fun _ i1=>[(2,bo bw a1),(3,bo bw b),(75,iG a1.Aggs),(76,bf (i1:Int))]) (fun i1 h=>?_) (fun e1 tl1 ih1 i1 h=>?_) a1.Aggs 0 ⟨I,h⟩) (a8 I)
   ·obtain⟨hx1,h⟩:=h
    refine dh hx1 I<|aq<|aV<|aU rh vc fV I<|aU rh vc fV I<|eg h Zp (Oa _ _) (da I) fun r h=>aY I<|cu h fun t q_t h=>ax I (bQ uD ym I I) ?_;refine ax I (bN fV I I)<|ax I (bQ uD ym I I)<|ax I (bN fV I I) ?_
    obtain⟨r1,h1t,h0t⟩:=og q_t
    have q_r1g:=fun A=>(h1t A).1
    refine ax I (fun V=>bq Zp (Oa _ _ (q_r1g V)) ⟨(bE I V),(bE I V),Q⟩)<|d (co (M I) (fun A=>(bE I A)) (fun A=>(h1t A).2) h0t)<|aY I<|cu h fun t1 q_t1 h=>ax I (bQ Kg Dc I I)<|ax I (bN bJ I I)<|ax I (bQ Kg Dc I I)<|ax I (bN bJ I I) ?_
    obtain⟨r2,h1t1,h0t1⟩:=og q_t1
    have q_r2g:=fun A=>(h1t1 A).1
    refine ax I (fun V=>bq Jn (AC _ _ (q_r2g V)) ⟨(bE I V),(bE I V),Q⟩)<|d (co (M I) (fun A=>(bE I A)) (fun A=>(h1t1 A).2) h0t1)<|aY I<|cu h fun t2 q_t2 h=>ax I (bQ Kf Db I I)<|ax I (bN bJ I I)<|ax I (bQ Kf Db I I)<|ax I (bN bJ I I) ?_
    obtain⟨r3,h1t2,h0t2⟩:=og q_t2
    have q_r3g:=fun A=>(h1t2 A).1
    refine ax I (fun V=>bq Jn (AC _ _ (q_r3g V)) ⟨(bE I V),(bE I V),Q⟩)<|d (co (M I) (fun A=>(bE I A)) (fun A=>(h1t2 A).2) h0t2)<|aY I<|cu h fun t3 q_t3 h=>ax I (bQ sX vb I I)<|ax I (bN DG I I)<|ax I (bQ sX vb I I)<|ax I (bN DG I I) ?_
    obtain⟨r4,h1t3,h0t3⟩:=og q_t3
    have q_r4g:=fun A=>(h1t3 A).1
    exact ax I (fun V=>bq abS (Wq _ _ (q_r4g V)) ⟨(bE I V),(bE I V),Q⟩)<|d (co (M I) (fun A=>(bE I A)) (fun A=>(h1t3 A).2) h0t3)<|bj I<|so h▸au I I
   ·obtain⟨hx1,h⟩:=h
    refine dg hx1 I<|aA<|ai<|aI I<|bh I<|aA<|cu h fun e2 q_e2 h=>cu h fun t4 q_t4 h=>?_
    obtain⟨r5,h1t4,h0t4⟩:=og q_t4
    have q_r5g:=fun A=>(h1t4 A).1
    refine d8 (ts:=[_,_,_,_,_,_,_,_,_,_,_,_,_,_,_,_,_,_,_,_,_,_,_,_,_,_,_,_,_]) mixed I I
     ⟨qN 2 I I (kO nZ mI I I),
     ⟨fA 0 xU I I,
     ⟨fv I I,
     ⟨eh 80 1 81 2 I I I (uR wi ut I I I (cW hx1)),
     ⟨fL 82 3 I I (kO sf mJ I I),
     ⟨fA 4 cF I I,
     ⟨qN 3 I I (kO nZ mI I I),
     ⟨fA 6 xU I I,
     ⟨fv I I,
     ⟨eh 86 7 87 8 I I I (uR wi ut I I I q_e2),
     ⟨fL 88 9 I I (kO sf mJ I I),
     ⟨fA 10 cF I I,
     ⟨eh 84 5 90 11 I I I (du (M I) (M I)),
     ⟨fL 91 12 I I (fR I),
     ⟨oo 2 92 13 I I I (cI I I I I (fun V=>kO nZ mI I I)),
     ⟨jS 93 14 92 13 I I I (cI I I I I (fun V=>eS xU I I (bE I V))),
     ⟨oo 6 92 13 I I I (cI I I I I (fun V=>fR I)),
     ⟨pi 94 15 95 16 92 13 I I I I (cI I I I I (fun V=>d6 wi ut I (bE I V) (bE I V) (cW hx1))),
     ⟨jS 96 17 92 13 I I I (cI I I I I (fun V=>gz yn I ue I (bE I V))),
     ⟨jS 97 18 92 13 I I I (cI I I I I (fun V=>eS bJ I I (bE I V))),
     ⟨oo 3 92 13 I I I (cI I I I I (fun V=>kO nZ mI I I)),
     ⟨jS 99 20 92 13 I I I (cI I I I I (fun V=>eS xU I I (bE I V))),
     ⟨oo 6 92 13 I I I (cI I I I I (fun V=>fR I)),
     ⟨pi 100 21 101 22 92 13 I I I I (cI I I I I (fun V=>d6 wi ut I (bE I V) (bE I V) q_e2)),
     ⟨jS 102 23 92 13 I I I (cI I I I I (fun V=>gz yn I ue I (bE I V))),
     ⟨jS 103 24 92 13 I I I (cI I I I I (fun V=>eS bJ I I (bE I V))),
     ⟨pi 98 19 104 25 92 13 I I I I (cI I I I I (fun V=>bq Jn (AC _ _ (q_r5g V)) ⟨(bE I V),(bE I V),Q⟩)),
     ⟨jS 105 26 92 13 I I I (cI I I I I (fun V=>fD (bE I V))),
     ⟨eh 92 13 106 27 I I I (cD (M I) (fun A=>(bE I (mD A))) (fun A=>(h1t4 A).2) h0t4),
     Q⟩⟩⟩⟩⟩⟩⟩⟩⟩⟩⟩⟩⟩⟩⟩⟩⟩⟩⟩⟩⟩⟩⟩⟩⟩⟩⟩⟩⟩ ?_
    refine aq<|lO h I (fun h=>?_) (fun h=>?_)
    ·exact aV<|bC<|cA<|bT<|af<|bT<|so h▸au I I
    ·refine bl<|cS hx1 hN1 I ?_;exact aO (ay (ih1 (i1+1) ⟨cO hx1,h⟩) (a8 I))
  ·obtain⟨D,h⟩:=h
   refine dg D I<|aA<|ai<|aI I<|bh I<|aA<|cu h fun e3 q_e3 h=>cu h fun t5 q_t5 h=>?_
   obtain⟨r6,h1t5,h0t5⟩:=og q_t5
   have q_r6g:=fun A=>(h1t5 A).1
   refine d8 (ts:=[_,_,_,_,_,_,_,_,_,_,_,_,_,_,_,_,_,_,_,_,_,_,_,_,_,_,_,_,_]) mixed I I
    ⟨qN 2 I I (kO vX nY I I),
    ⟨fA 0 Gb I I,
    ⟨fv I I,
    ⟨eh 44 1 45 2 I I I (uR FP H4 I I I (cW D)),
    ⟨fL 46 3 I I (kO Ts Hh I I),
    ⟨fA 4 xV I I,
    ⟨qN 3 I I (kO vX nY I I),
    ⟨fA 6 Gb I I,
    ⟨fv I I,
    ⟨eh 50 7 51 8 I I I (uR FP H4 I I I q_e3),
    ⟨fL 52 9 I I (kO Ts Hh I I),
    ⟨fA 10 xV I I,
    ⟨eh 48 5 54 11 I I I (wA FR (M I) (M I)),
    ⟨fL 55 12 I I (fR I),
    ⟨oo 2 56 13 I I I (cI I I I I (fun V=>kO vX nY I I)),
    ⟨jS 57 14 56 13 I I I (cI I I I I (fun V=>eS Gb I I (bE I V))),
    ⟨oo 5 56 13 I I I (cI I I I I (fun V=>fR I)),
    ⟨pi 58 15 59 16 56 13 I I I I (cI I I I I (fun V=>d6 FP H4 I (bE I V) (bE I V) (cW D))),
    ⟨jS 60 17 56 13 I I I (cI I I I I (fun V=>gz Tq I Hg I (bE I V))),
    ⟨jS 61 18 56 13 I I I (cI I I I I (fun V=>eS bJ I I (bE I V))),
    ⟨oo 3 56 13 I I I (cI I I I I (fun V=>kO vX nY I I)),
    ⟨jS 63 20 56 13 I I I (cI I I I I (fun V=>eS Gb I I (bE I V))),
    ⟨oo 5 56 13 I I I (cI I I I I (fun V=>fR I)),
    ⟨pi 64 21 65 22 56 13 I I I I (cI I I I I (fun V=>d6 FP H4 I (bE I V) (bE I V) q_e3)),
    ⟨jS 66 23 56 13 I I I (cI I I I I (fun V=>gz Tq I Hg I (bE I V))),
    ⟨jS 67 24 56 13 I I I (cI I I I I (fun V=>eS bJ I I (bE I V))),
    ⟨pi 62 19 68 25 56 13 I I I I (cI I I I I (fun V=>bq Jn (AC _ _ (q_r6g V)) ⟨(bE I V),(bE I V),Q⟩)),
    ⟨jS 69 26 56 13 I I I (cI I I I I (fun V=>fD (bE I V))),
    ⟨eh 56 13 70 27 I I I (cD (M I) (fun A=>(bE I (mD A))) (fun A=>(h1t5 A).2) h0t5),
    Q⟩⟩⟩⟩⟩⟩⟩⟩⟩⟩⟩⟩⟩⟩⟩⟩⟩⟩⟩⟩⟩⟩⟩⟩⟩⟩⟩⟩⟩ ?_
   refine aq<|lO h I (fun h=>?_) (fun h=>?_)
   ·exact aV<|bC<|cA<|bT<|af<|bT<|so h▸au I I
   ·refine bl<|cS D hN I ?_;exact aO (ay (ih (i+1) ⟨cO D,h⟩) (a8 I))

def Zd a1 b{R}(h:xY a1 b=some R):cN bd 14 [Z cd a1,Z cd b] (iD R):=by
 refine dp Tryz.func14 I<|aV<|cL I<|cL I<|bC<|bP<|aR<|aU Tv Hf cF I<|aU Tv Hf cF I<|d (du (M I) (M I))<|aY I<|ap I (bQ xh sW I I)<|ap I (bN H5 I I)<|ap I (gy A5 I)<|ap I (bQ xh sW I I)<|ap I (bN H5 I I)<|ap I (gy A5 I)<|ap I (fun V=>du (bE I V) (bE I V)) ?_;refine dU I<|aY I<|ap I (bQ vZ rf I I)<|ap I (bN Gc I I)<|ap I (gy tK I)<|ap I (bQ vZ rf I I)<|ap I (bN Gc I I)<|ap I (gy tK I)<|ap I (fun V=>du (bE I V) (bE I V))<|dU I<|aY I<|ap I (bQ yq vW I I)<|ap I (bN JO I I)<|ap I (gy Cv I)<|ap I (bQ yq vW I I)<|ap I (bN JO I I)<|ap I (gy Cv I)<|ap I (fun V=>du (bE I V) (bE I V))<|dU I<|aY I<|cu h fun t q_t h=>ap I (bQ zP BZ I I)<|ap I (bN fV I I)<|ap I (bQ zP BZ I I) ?_;refine ap I (bN fV I I) ?_
 obtain⟨r,h1t,h0t⟩:=og q_t
 have q_rg:=fun A=>(h1t A).1
 refine ap I (fun V=>bq Zp (Oa _ _ (q_rg V)) ⟨(bE I V),(bE I V),Q⟩)<|ap I (rJ I)<|d (cD (M I) (fun A=>(bE I (mD A))) (fun A=>(h1t A).2) h0t)<|bX h I (fun h=>?_) (fun h=>?_)
 ·exact aV<|bC<|cA<|af<|so h▸au I I
 ·refine gp<|aR<|aU xh sW H5 I<|bY A5 I<|d (bB hI)<|bP<|ai<|aN (k:=49) I fun hN=>bp ?_;refine ay (dx (tD:=fun ls i=>(a1.Selects.drop i=ls)/\qr a1 b ls i=some R) (Of:=fun _ i=>[]) (Gf:=fun _ i=>[(2,bo cd a1),(3,bo cd b),(50,iG a1.Selects),(51,bf (i:Int))]) (fun i h=>?_) (fun e tl ih i h=>?_) a1.Selects 0 ⟨I,h⟩) (a8 I)
  ·obtain⟨D,h⟩:=h
   refine dh D I<|aq<|aR<|aU vZ rf Gc I<|bY tK I<|d (bB hI)<|bP<|ai<|aN (k:=68) I fun hN1=>?_;refine bp ?_;refine ay (dx (tD:=fun ls1 i1=>(a1.Names.drop i1=ls1)/\oH a1 b ls1 i1=some R) (Of:=fun _ i1=>[]) (Gf:=fun _ i1=>[(2,bo cd a1),(3,bo cd b),(69,iG a1.Names),(70,bf (i1:Int))]) (fun i1 h=>?_) (fun e1 tl1 ih1 i1 h=>?_) a1.Names 0 ⟨I,h⟩) (a8 I)
   ·obtain⟨hx1,h⟩:=h
    refine dh hx1 I<|aq<|aR<|aU yq vW JO I<|bY Cv I<|d (bB hI)<|bP<|ai<|aN (k:=86) I fun hN2=>?_;refine bp ?_;refine ay (dx (tD:=fun ls2 i2=>(a1.Order.drop i2=ls2)/\oG b ls2 i2=some R) (Of:=fun _ i2=>[]) (Gf:=fun _ i2=>[(2,bo cd a1),(3,bo cd b),(87,iG a1.Order),(88,bf (i2:Int))]) (fun i2 h=>?_) (fun e2 tl2 ih2 i2 h=>?_) a1.Order 0 ⟨I,h⟩) (a8 I)
    ·obtain⟨hx2,h⟩:=h
     exact dh hx2 I<|aq<|aV<|bC<|cA<|so h▸au I I
    ·obtain⟨hx2,h⟩:=h
     refine dg hx2 I<|aA<|ai<|aI I<|bh I<|aA<|cu h fun e3 q_e3 h=>?_
     refine d8 (ts:=[_,_,_,_,_,_,_,_,_,_,_]) mixed I I
      ⟨qN 2 I I (kO yq vW I I),
      ⟨fA 0 JO I I,
      ⟨fv I I,
      ⟨eh 92 1 93 2 I I I (uR Cv H3 I I I (cW hx2)),
      ⟨fA 3 H3 I I,
      ⟨qN 3 I I (kO yq vW I I),
      ⟨fA 5 JO I I,
      ⟨fv I I,
      ⟨eh 97 6 98 7 I I I (uR Cv H3 I I I q_e3),
      ⟨fA 8 H3 I I,
      ⟨eh 95 4 100 9 I I I (qS acj (M I) (M I)),
      Q⟩⟩⟩⟩⟩⟩⟩⟩⟩⟩⟩ ?_
     refine aq<|lO h I (fun h=>?_) (fun h=>?_)
     ·exact aV<|bC<|cA<|bT<|af<|bT<|so h▸au I I
     ·refine bl<|cS hx2 hN2 I ?_;exact aO (ay (ih2 (i2+1) ⟨cO hx2,h⟩) (a8 I))
   ·obtain⟨hx1,h⟩:=h
    refine dg hx1 I<|aA<|ai<|aI I<|bh I<|aA<|cu h fun e4 q_e4 h=>?_
    refine d8 (ts:=[_,_,_,_,_,_,_,_,_,_,_]) mixed I I
     ⟨qN 2 I I (kO vZ rf I I),
     ⟨fA 0 Gc I I,
     ⟨fv I I,
     ⟨eh 74 1 75 2 I I I (uR tK ja I I I (cW hx1)),
     ⟨fA 3 ja I I,
     ⟨qN 3 I I (kO vZ rf I I),
     ⟨fA 5 Gc I I,
     ⟨fv I I,
     ⟨eh 79 6 80 7 I I I (uR tK ja I I I q_e4),
     ⟨fA 8 ja I I,
     ⟨eh 77 4 82 9 I I I (va (M I) (M I)),
     Q⟩⟩⟩⟩⟩⟩⟩⟩⟩⟩⟩ ?_
    refine aq<|lO h I (fun h=>?_) (fun h=>?_)
    ·exact aV<|bC<|cA<|bT<|af<|bT<|so h▸au I I
    ·refine bl<|cS hx1 hN1 I ?_;exact aO (ay (ih1 (i1+1) ⟨cO hx1,h⟩) (a8 I))
  ·obtain⟨D,h⟩:=h
   refine dg D I<|aA<|ai<|aI I<|bh I<|aA<|cu h fun e5 q_e5 h=>cu h fun r1 q_r1 h=>?_
   refine d8 (ts:=[_,_,_,_,_,_,_,_,_,_,_,_]) mixed I I
    ⟨qN 2 I I (kO xh sW I I),
    ⟨fA 0 H5 I I,
    ⟨fv I I,
    ⟨eh 55 1 56 2 I I I (uR A5 BE I I I (cW D)),
    ⟨fA 3 BE I I,
    ⟨qN 3 I I (kO xh sW I I),
    ⟨fA 5 H5 I I,
    ⟨fv I I,
    ⟨eh 60 6 61 7 I I I (uR A5 BE I I I q_e5),
    ⟨fA 8 BE I I,
    ⟨eh 58 4 63 9 I I I (bq acN (YO _ _ q_r1) ⟨(M I),(M I),Q⟩),
    ⟨fL 64 10 I I (fD (M I)),
    Q⟩⟩⟩⟩⟩⟩⟩⟩⟩⟩⟩⟩ ?_
   refine aq<|lO h I (fun h=>?_) (fun h=>?_)
   ·exact aV<|bC<|cA<|bT<|af<|bT<|so h▸au I I
   ·refine bl<|cS D hN I ?_;exact aO (ay (ih (i+1) ⟨cO D,h⟩) (a8 I))

def FJ a1 b{R}(h:jq a1 b=some R):cN bd 112 [Z bD a1,Z bD b] (iD R):=by
 refine dp Tryz.func112 I<|aV<|cL I<|cL I<|bC<|bP<|aR<|aU ik dX qi I<|bY nb I<|aU ik dX qi I<|bY nb I<|d (du (M I) (M I))<|bX h I (fun h=>?_) (fun h=>?_)
 ·exact aV<|bC<|cA<|af<|so h▸au I I
 ·refine gp<|aR<|aU ik dX qi I<|bY nb I<|d (bB hI)<|bP<|ai<|aN (k:=14) I fun hN=>bp ?_;refine ay (dx (tD:=fun ls i=>(a1.Nodes.drop i=ls)/\oZ b ls i=some R) (Of:=fun _ i=>[]) (Gf:=fun _ i=>[(2,bo bD a1),(3,bo bD b),(15,iG a1.Nodes),(16,bf (i:Int))]) (fun i h=>?_) (fun e tl ih i h=>?_) a1.Nodes 0 ⟨I,h⟩) (a8 I)
  ·obtain⟨D,h⟩:=h
   exact dh D I<|aq<|aV<|bC<|cA<|so h▸au I I
  ·obtain⟨D,h⟩:=h
   refine dg D I<|aA<|ai<|aI I<|bh I<|aA<|cu h fun e1 q_e1 h=>?_
   refine d8 (ts:=[_,_,_,_,_,_,_,_,_,_,_]) mixed I I
    ⟨qN 2 I I (kO ik dX I I),
    ⟨fA 0 qi I I,
    ⟨fv I I,
    ⟨eh 20 1 21 2 I I I (uR nb ko I I I (cW D)),
    ⟨fA 3 ko I I,
    ⟨qN 3 I I (kO ik dX I I),
    ⟨fA 5 qi I I,
    ⟨fv I I,
    ⟨eh 25 6 26 7 I I I (uR nb ko I I I q_e1),
    ⟨fA 8 ko I I,
    ⟨eh 23 4 28 9 I I I (qS aaM (M I) (M I)),
    Q⟩⟩⟩⟩⟩⟩⟩⟩⟩⟩⟩ ?_
   refine aq<|lO h I (fun h=>?_) (fun h=>?_)
   ·exact aV<|bC<|cA<|bT<|af<|bT<|so h▸au I I
   ·refine bl<|cS D hN I ?_;exact aO (ay (ih (i+1) ⟨cO D,h⟩) (a8 I))

def YN a1 b{R}(h:pY a1 b=some R):cN bd 54 [Z aW a1,Z aW b] (iD R):=by
 refine dp Tryz.func54 I<|aV<|cL I<|cL I<|bC<|bP<|aR<|aU Kh wK xV I<|aU Kh wK xV I<|d (wA FR (M I) (M I))<|aY I<|ap I (bQ yp mH I I)<|ap I (bN xV I I)<|ap I (bQ yp mH I I)<|ap I (bN xV I I)<|ap I (fun V=>wA FR (bE I V) (bE I V))<|dU I<|aY I ?_;refine ap I (bQ Ei rt I I)<|ap I (bN tQ I I)<|ap I (bQ Ei rt I I)<|ap I (bN tQ I I)<|ap I (fun V=>qS aaL (bE I V) (bE I V))<|dU I<|aY I<|ap I (bQ ma eK I I)<|ap I (bN vE I I)<|ap I (gy pe I)<|ap I (bQ ma eK I I)<|ap I (bN vE I I)<|ap I (gy pe I)<|ap I (fun V=>du (bE I V) (bE I V))<|dU I<|aY I<|ap I (bQ mi eJ I I)<|ap I (bN vD I I)<|ap I (gy rD I)<|ap I (bQ mi eJ I I)<|ap I (bN vD I I)<|ap I (gy rD I)<|ap I (fun V=>du (bE I V) (bE I V))<|dU I ?_;refine aY I<|ap I (bQ ri gk I I)<|ap I (bN zp I I)<|ap I (gy wj I)<|ap I (bQ ri gk I I)<|ap I (bN zp I I)<|ap I (gy wj I)<|ap I (fun V=>du (bE I V) (bE I V))<|dU I<|bX h I (fun h=>?_) (fun h=>?_)
 ·exact aV<|bC<|cA<|af<|so h▸au I I
 ·refine gp<|aR<|aU ma eK vE I<|bY pe I<|d (bB hI)<|bP<|ai<|aN (k:=57) I fun hN=>bp ?_;refine ay (dx (tD:=fun ls i=>(a1.Items.drop i=ls)/\m5 a1 b ls i=some R) (Of:=fun _ i=>[]) (Gf:=fun _ i=>[(2,bo aW a1),(3,bo aW b),(58,iG a1.Items),(59,bf (i:Int))]) (fun i h=>?_) (fun e tl ih i h=>?_) a1.Items 0 ⟨I,h⟩) (a8 I)
  ·obtain⟨D,h⟩:=h
   refine dh D I<|aq<|aR<|aU mi eJ vD I<|bY rD I<|d (bB hI)<|bP<|ai<|aN (k:=93) I fun hN1=>?_;refine bp ?_;refine ay (dx (tD:=fun ls1 i1=>(a1.Joins.drop i1=ls1)/\ll a1 b ls1 i1=some R) (Of:=fun _ i1=>[]) (Gf:=fun _ i1=>[(2,bo aW a1),(3,bo aW b),(94,iG a1.Joins),(95,bf (i1:Int))]) (fun i1 h=>?_) (fun e1 tl1 ih1 i1 h=>?_) a1.Joins 0 ⟨I,h⟩) (a8 I)
   ·obtain⟨hx1,h⟩:=h
    refine dh hx1 I<|aq<|aR<|aU ri gk zp I<|bY wj I<|d (bB hI)<|bP<|ai<|aN (k:=130) I fun hN2=>?_;refine bp ?_;refine ay (dx (tD:=fun ls2 i2=>(a1.Group.drop i2=ls2)/\lk a1 b ls2 i2=some R) (Of:=fun _ i2=>[]) (Gf:=fun _ i2=>[(2,bo aW a1),(3,bo aW b),(131,iG a1.Group),(132,bf (i2:Int))]) (fun i2 h=>?_) (fun e2 tl2 ih2 i2 h=>?_) a1.Group 0 ⟨I,h⟩) (a8 I)
    ·obtain⟨hx2,h⟩:=h
     refine dh hx2 I<|aq<|aV<|aU xg nL iw I<|aU xg nL iw I<|eg h Qx (FJ _ _) (da I) fun r h=>aY I<|cu h fun t q_t h=>ax I (bQ uF lD I I) ?_;refine ax I (bN iw I I)<|ax I (bQ uF lD I I)<|ax I (bN iw I I) ?_
     obtain⟨r1,h1t,h0t⟩:=og q_t
     have q_r1g:=fun A=>(h1t A).1
     exact ax I (fun V=>bq Qx (FJ _ _ (q_r1g V)) ⟨(bE I V),(bE I V),Q⟩)<|d (co (M I) (fun A=>(bE I A)) (fun A=>(h1t A).2) h0t)<|bj I<|so h▸au I I
    ·obtain⟨hx2,h⟩:=h
     refine dg hx2 I<|aA<|ai<|aI I<|bh I<|aA<|cu h fun e3 q_e3 h=>?_
     refine d8 (ts:=[_,_,_,_,_,_,_,_,_,_,_]) mixed I I
      ⟨qN 2 I I (kO ri gk I I),
      ⟨fA 0 zp I I,
      ⟨fv I I,
      ⟨eh 136 1 137 2 I I I (uR wj vB I I I (cW hx2)),
      ⟨fA 3 vB I I,
      ⟨qN 3 I I (kO ri gk I I),
      ⟨fA 5 zp I I,
      ⟨fv I I,
      ⟨eh 141 6 142 7 I I I (uR wj vB I I I q_e3),
      ⟨fA 8 vB I I,
      ⟨eh 139 4 144 9 I I I (qS aaK (M I) (M I)),
      Q⟩⟩⟩⟩⟩⟩⟩⟩⟩⟩⟩ ?_
     refine aq<|lO h I (fun h=>?_) (fun h=>?_)
     ·exact aV<|bC<|cA<|bT<|af<|bT<|so h▸au I I
     ·refine bl<|cS hx2 hN2 I ?_;exact aO (ay (ih2 (i2+1) ⟨cO hx2,h⟩) (a8 I))
   ·obtain⟨hx1,h⟩:=h
    refine dg hx1 I<|aA<|ai<|aI I<|bh I<|aA<|cu h fun e4 q_e4 h=>?_
    refine HT 13 [tc (bo KX a1.Joins),tc (gb (dC) a1.Joins),tc (bf (i1:Int)),tc (bo dC e1),tc (Z dC e1),tc (bo KX b.Joins),tc (gb (dC) b.Joins),tc (bf (i1:Int)),tc (bo dC e4),tc (Z dC e4),([10],fun s=>tV (an ((s.getD 0 oD).h 0).2 0)),([11],fun s=>tV (an ((s.getD 0 oD).h 0).2 0)),tc (tS)] [false,false,false,false,false,false,false,false,false,false,true,true,true] [([],fun _=>[]),([10],fun sg=>[bx dC 86 ((sg 10).h 0).2 MX]),([11],fun sg=>[bx dC 86 ((sg 11).h 0).2 MX]),([10,11],fun sg=>[bx dC 86 ((sg 11).h 0).2 MX,bx dC 86 ((sg 10).h 0).2 MX]),([10,11,12],fun sg=>[bx dC 86 ((sg 10).h 0).2 e1,bx dC 86 ((sg 11).h 0).2 MX])] (fun _=>I) mixed I I I I
     ⟨⟨[⟨2,fun _=>bo aW a1,none⟩],_,[[],[10],[11],[10,11]],I,⟨(fun _=>I),Q⟩,I,I,I,I,I,⟨fun sg=>h2 I (kO mi eJ I I),fun sg=>h2 I (kO mi eJ I I),fun sg=>h2 I (kO mi eJ I I),fun sg=>h2 I (kO mi eJ I I),Q⟩⟩,
     ⟨⟨[⟨98,fun _=>bo KX a1.Joins,some 0⟩],_,[[],[10],[11],[10,11]],I,⟨(fun _=>I),Q⟩,I,I,I,I,I,⟨fun sg=>h2 I (nM vD I I),fun sg=>h2 I (nM vD I I),fun sg=>h2 I (nM vD I I),fun sg=>h2 I (nM vD I I),Q⟩⟩,
     ⟨⟨[⟨6,fun _=>Z aP (i1:Int),none⟩],_,[[],[10],[11],[10,11]],I,⟨(fun _=>I),Q⟩,I,I,I,I,I,⟨fun sg=>h2 I (fR I),fun sg=>h2 I (fR I),fun sg=>h2 I (fR I),fun sg=>h2 I (fR I),Q⟩⟩,
     ⟨⟨[⟨99,fun _=>Z KX a1.Joins,some 1⟩,⟨100,fun _=>Z aP (i1:Int),some 2⟩],_,[[],[10],[11],[10,11]],I,⟨(fun _=>I),(fun _=>I),Q⟩,I,I,I,I,I,⟨fun sg=>h2 I (uR rD my I I I (cW hx1)),fun sg=>h2 I (uR rD my I I I (cW hx1)),fun sg=>h2 I (uR rD my I I I (cW hx1)),fun sg=>h2 I (uR rD my I I I (cW hx1)),Q⟩⟩,
     ⟨⟨[⟨101,fun _=>bo dC e1,some 3⟩],_,[[],[10],[11],[10,11]],I,⟨(fun _=>I),Q⟩,I,I,I,I,I,⟨fun sg=>h2 I (nM my I I),fun sg=>h2 I (nM my I I),fun sg=>h2 I (nM my I I),fun sg=>h2 I (nM my I I),Q⟩⟩,
     ⟨⟨[⟨3,fun _=>bo aW b,none⟩],_,[[],[10],[11],[10,11],[10,11,12]],I,⟨(fun _=>I),Q⟩,I,I,I,I,I,⟨fun sg=>h2 I (kO mi eJ I I),fun sg=>h2 I (kO mi eJ I I),fun sg=>h2 I (kO mi eJ I I),fun sg=>h2 I (kO mi eJ I I),fun sg=>h2 I (kO mi eJ I I),Q⟩⟩,
     ⟨⟨[⟨103,fun _=>bo KX b.Joins,some 5⟩],_,[[],[10],[11],[10,11],[10,11,12]],I,⟨(fun _=>I),Q⟩,I,I,I,I,I,⟨fun sg=>h2 I (nM vD I I),fun sg=>h2 I (nM vD I I),fun sg=>h2 I (nM vD I I),fun sg=>h2 I (nM vD I I),fun sg=>h2 I (nM vD I I),Q⟩⟩,
     ⟨⟨[⟨6,fun _=>Z aP (i1:Int),none⟩],_,[[],[10],[11],[10,11],[10,11,12]],I,⟨(fun _=>I),Q⟩,I,I,I,I,I,⟨fun sg=>h2 I (fR I),fun sg=>h2 I (fR I),fun sg=>h2 I (fR I),fun sg=>h2 I (fR I),fun sg=>h2 I (fR I),Q⟩⟩,
     ⟨⟨[⟨104,fun _=>Z KX b.Joins,some 6⟩,⟨105,fun _=>Z aP (i1:Int),some 7⟩],_,[[],[10],[11],[10,11],[10,11,12]],I,⟨(fun _=>I),(fun _=>I),Q⟩,I,I,I,I,I,⟨fun sg=>h2 I (uR rD my I I I q_e4),fun sg=>h2 I (uR rD my I I I q_e4),fun sg=>h2 I (uR rD my I I I q_e4),fun sg=>h2 I (uR rD my I I I q_e4),fun sg=>h2 I (uR rD my I I I q_e4),Q⟩⟩,
     ⟨⟨[⟨106,fun _=>bo dC e4,some 8⟩],_,[[],[10],[11],[10,11],[10,11,12]],I,⟨(fun _=>I),Q⟩,I,I,I,I,I,⟨fun sg=>h2 I (nM my I I),fun sg=>h2 I (nM my I I),fun sg=>h2 I (nM my I I),fun sg=>h2 I (nM my I I),fun sg=>h2 I (nM my I I),Q⟩⟩,
     ⟨⟨[],_,[([],[10]),([11],[10,11])],I,Q,I,I,I,I,I,⟨fun sg=>bL I (lM my uP),fun sg=>bL I (EffOK.post_imp (post:=fun x__=>(fun(sg:Nat->OI)=>[bx dC 86 ((sg 10).h 0).2 MX,bx dC 86 ((sg 11).h 0).2 MX]) (upd sg 10 x__)) (lM my uP) (fun h=>dA.pick [1,0] I h)),Q⟩⟩,
     ⟨⟨[],_,[([],[11]),([10],[10,11])],I,Q,I,I,I,I,I,⟨fun sg=>bL I (lM my uP),fun sg=>bL I (lM my uP),Q⟩⟩,
     ⟨⟨[⟨7,fun sg=>tV (an ((sg 10).h 0).2 0),some 10⟩,⟨102,fun _=>Z dC e1,some 4⟩],_,[([10,11],[10,11,12])],I,⟨(fun _=>I),(fun _=>I),Q⟩,I,I,I,I,I,⟨fun sg=>bL I (EffOK.fr1 (dr my I (uy aj) I (M I) (M I))),Q⟩⟩,
     Q⟩⟩⟩⟩⟩⟩⟩⟩⟩⟩⟩⟩⟩ (fun sg=>?_)
    refine(show RG _ _ _ _ [_,_] _ from ?_);refine aQ 7 I<|bM my aj I<|aQ 8 I<|bP<|aV<|aU Kd AA xV I<|aU Kd AA xV I<|d (wA FR (M I) (M I))<|aY I<|ap I (bQ Eh vo I I)<|ap I (bN tQ I I)<|ap I (bQ Eh vo I I)<|ap I (bN tQ I I)<|ap I (fun V=>qS aaL (bE I V) (bE I V))<|dU I<|aY I<|cu h fun t1 q_t1 h=>ap I (bQ zO sU I I)<|ap I (bN iw I I)<|ap I (bQ zO sU I I) ?_;refine ap I (bN iw I I) ?_
    obtain⟨r2,h1t1,h0t1⟩:=og q_t1
    have q_r2g:=fun A=>(h1t1 A).1
    refine ap I (fun V=>bq Qx (FJ _ _ (q_r2g V)) ⟨(bE I V),(bE I V),Q⟩)<|ap I (rJ I)<|d (cD (M I) (fun A=>(bE I (mD A))) (fun A=>(h1t1 A).2) h0t1)<|bX h I (fun h=>?_) (fun h=>?_)
    ·exact aV<|bC<|cA<|bT<|af<|bT<|so h▸au I I
    ·refine bl<|cS hx1 hN1 I ?_;exact aO (ay (ih1 (i1+1) ⟨cO hx1,h⟩) (a8 I))
  ·obtain⟨D,h⟩:=h
   refine dg D I<|aA<|ai<|aI I<|bh I<|aA<|cu h fun e5 q_e5 h=>cu h fun t2 q_t2 h=>?_
   obtain⟨r3,h1t2,h0t2⟩:=og q_t2
   have q_r3g:=fun A=>(h1t2 A).1
   refine d8 (ts:=[_,_,_,_,_,_,_,_,_,_,_,_,_,_,_,_,_,_,_,_,_,_,_,_,_,_,_,_,_]) mixed I I
    ⟨qN 2 I I (kO ma eK I I),
    ⟨fA 0 vE I I,
    ⟨fv I I,
    ⟨eh 63 1 64 2 I I I (uR pe nH I I I (cW D)),
    ⟨fL 65 3 I I (kO Eg vp I I),
    ⟨fA 4 ja I I,
    ⟨qN 3 I I (kO ma eK I I),
    ⟨fA 6 vE I I,
    ⟨fv I I,
    ⟨eh 69 7 70 8 I I I (uR pe nH I I I q_e5),
    ⟨fL 71 9 I I (kO Eg vp I I),
    ⟨fA 10 ja I I,
    ⟨eh 67 5 73 11 I I I (va (M I) (M I)),
    ⟨fL 74 12 I I (fR I),
    ⟨oo 2 75 13 I I I (cI I I I I (fun V=>kO ma eK I I)),
    ⟨jS 76 14 75 13 I I I (cI I I I I (fun V=>eS vE I I (bE I V))),
    ⟨oo 5 75 13 I I I (cI I I I I (fun V=>fR I)),
    ⟨pi 77 15 78 16 75 13 I I I I (cI I I I I (fun V=>d6 pe nH I (bE I V) (bE I V) (cW D))),
    ⟨jS 79 17 75 13 I I I (cI I I I I (fun V=>gz ql I j9 I (bE I V))),
    ⟨jS 80 18 75 13 I I I (cI I I I I (fun V=>eS iw I I (bE I V))),
    ⟨oo 3 75 13 I I I (cI I I I I (fun V=>kO ma eK I I)),
    ⟨jS 82 20 75 13 I I I (cI I I I I (fun V=>eS vE I I (bE I V))),
    ⟨oo 5 75 13 I I I (cI I I I I (fun V=>fR I)),
    ⟨pi 83 21 84 22 75 13 I I I I (cI I I I I (fun V=>d6 pe nH I (bE I V) (bE I V) q_e5)),
    ⟨jS 85 23 75 13 I I I (cI I I I I (fun V=>gz ql I j9 I (bE I V))),
    ⟨jS 86 24 75 13 I I I (cI I I I I (fun V=>eS iw I I (bE I V))),
    ⟨pi 81 19 87 25 75 13 I I I I (cI I I I I (fun V=>bq Qx (FJ _ _ (q_r3g V)) ⟨(bE I V),(bE I V),Q⟩)),
    ⟨jS 88 26 75 13 I I I (cI I I I I (fun V=>fD (bE I V))),
    ⟨eh 75 13 89 27 I I I (cD (M I) (fun A=>(bE I (mD A))) (fun A=>(h1t2 A).2) h0t2),
    Q⟩⟩⟩⟩⟩⟩⟩⟩⟩⟩⟩⟩⟩⟩⟩⟩⟩⟩⟩⟩⟩⟩⟩⟩⟩⟩⟩⟩⟩ ?_
   refine aq<|lO h I (fun h=>?_) (fun h=>?_)
   ·exact aV<|bC<|cA<|bT<|af<|bT<|so h▸au I I
   ·refine bl<|cS D hN I ?_;exact aO (ay (ih (i+1) ⟨cO D,h⟩) (a8 I))

end Go.Proofs.YthbdkceckjihgaaGreatDoor

