/- dm of this claim: P20. -/
import Derived.Test.YthbdkceckjihgaaGreatDoorBcT
import Derived.Test.YthbdkceckjihgaaGreatDoorBcP19
set_option linter.all false
namespace Go.Proofs.YthbdkceckjihgaaGreatDoor
open Go
set_option maxRecDepth 100000

def Zb a1 b{R}(h:yb a1 b=some R):cN bd 15 [Z cw a1,Z cw b] (iD R):=by
 refine dp Tryz.func15 I<|aV<|cL I<|cL I<|bC<|bP<|aR<|aU zQ pI cF I<|aU zQ pI cF I<|d (du (M I) (M I))<|aY I<|ap I (bQ pJ jv I I)<|ap I (bN zq I I)<|ap I (gy tL I)<|ap I (bQ pJ jv I I)<|ap I (bN zq I I)<|ap I (gy tL I)<|ap I (fun V=>du (bE I V) (bE I V)) ?_;refine dU I<|aY I<|ap I (bQ si j8 I I)<|ap I (bN BF I I)<|ap I (gy wZ I)<|ap I (bQ si j8 I I)<|ap I (bN BF I I)<|ap I (gy wZ I)<|ap I (fun V=>du (bE I V) (bE I V))<|dU I<|bX h I (fun h=>?_) (fun h=>?_)
 ·exact aV<|bC<|cA<|af<|so h▸au I I
 ·refine gp<|aR<|aU pJ jv zq I<|bY tL I<|d (bB hI)<|bP<|ai<|aN (k:=31) I fun hN=>bp ?_;refine ay (dx (tD:=fun ls i=>(a1.Selects.drop i=ls)/\tt a1 b ls i=some R) (Of:=fun _ i=>[]) (Gf:=fun _ i=>[(2,bo cw a1),(3,bo cw b),(32,iG a1.Selects),(33,bf (i:Int))]) (fun i h=>?_) (fun e tl ih i h=>?_) a1.Selects 0 ⟨I,h⟩) (a8 I)
  ·obtain⟨D,h⟩:=h
   refine dh D I<|aq<|aR<|aU si j8 BF I<|bY wZ I<|d (bB hI)<|bP<|ai<|aN (k:=50) I fun hN1=>?_;refine bp ?_;refine ay (dx (tD:=fun ls1 i1=>(a1.Keys.drop i1=ls1)/\qC b ls1 i1=some R) (Of:=fun _ i1=>[]) (Gf:=fun _ i1=>[(2,bo cw a1),(3,bo cw b),(51,iG a1.Keys),(52,bf (i1:Int))]) (fun i1 h=>?_) (fun e1 tl1 ih1 i1 h=>?_) a1.Keys 0 ⟨I,h⟩) (a8 I)
   ·obtain⟨hx1,h⟩:=h
    exact dh hx1 I<|aq<|aV<|bC<|cA<|so h▸au I I
   ·obtain⟨hx1,h⟩:=h
    refine dg hx1 I<|aA<|ai<|aI I<|bh I<|aA<|cu h fun e2 q_e2 h=>?_
    refine d8 (ts:=[_,_,_,_,_,_,_,_,_,_,_]) mixed I I
     ⟨qN 2 I I (kO si j8 I I),
     ⟨fA 0 BF I I,
     ⟨fv I I,
     ⟨eh 56 1 57 2 I I I (uR wZ vC I I I (cW hx1)),
     ⟨fA 3 vC I I,
     ⟨qN 3 I I (kO si j8 I I),
     ⟨fA 5 BF I I,
     ⟨fv I I,
     ⟨eh 61 6 62 7 I I I (uR wZ vC I I I q_e2),
     ⟨fA 8 vC I I,
     ⟨eh 59 4 64 9 I I I (qS ack (M I) (M I)),
     Q⟩⟩⟩⟩⟩⟩⟩⟩⟩⟩⟩ ?_
    refine aq<|lO h I (fun h=>?_) (fun h=>?_)
    ·exact aV<|bC<|cA<|bT<|af<|bT<|so h▸au I I
    ·refine bl<|cS hx1 hN1 I ?_;exact aO (ay (ih1 (i1+1) ⟨cO hx1,h⟩) (a8 I))
  ·obtain⟨D,h⟩:=h
   refine dg D I<|aA<|ai<|aI I<|bh I<|aA<|cu h fun e3 q_e3 h=>cu h fun r q_r h=>?_
   refine d8 (ts:=[_,_,_,_,_,_,_,_,_,_,_,_]) mixed I I
    ⟨qN 2 I I (kO pJ jv I I),
    ⟨fA 0 zq I I,
    ⟨fv I I,
    ⟨eh 37 1 38 2 I I I (uR tL pj I I I (cW D)),
    ⟨fA 3 pj I I,
    ⟨qN 3 I I (kO pJ jv I I),
    ⟨fA 5 zq I I,
    ⟨fv I I,
    ⟨eh 42 6 43 7 I I I (uR tL pj I I I q_e3),
    ⟨fA 8 pj I I,
    ⟨eh 40 4 45 9 I I I (bq acM (YN _ _ q_r) ⟨(M I),(M I),Q⟩),
    ⟨fL 46 10 I I (fD (M I)),
    Q⟩⟩⟩⟩⟩⟩⟩⟩⟩⟩⟩⟩ ?_
   refine aq<|lO h I (fun h=>?_) (fun h=>?_)
   ·exact aV<|bC<|cA<|bT<|af<|bT<|so h▸au I I
   ·refine bl<|cS D hN I ?_;exact aO (ay (ih (i+1) ⟨cO D,h⟩) (a8 I))

def YM a1 b{R}(h:qP a1 b=some R):cN bd 55 [Z cv a1,Z cv b] (iD R):=by
 refine dp Tryz.func55 I<|aV<|cL I<|cL I<|bC<|bP<|aR<|aU wO pF ja I<|aU wO pF ja I<|d (va (M I) (M I))<|aY I<|ap I (bQ iF ev I I)<|ap I (bN oq I I)<|ap I (gy ol I)<|ap I (bQ iF ev I I)<|ap I (bN oq I I)<|ap I (gy ol I)<|ap I (fun V=>du (bE I V) (bE I V)) ?_;refine dU I<|aY I<|ap I (bQ o7 j7 I I)<|ap I (bN fV I I)<|ap I (gy fH I)<|ap I (bQ o7 j7 I I)<|ap I (bN fV I I)<|ap I (gy fH I)<|ap I (fun V=>du (bE I V) (bE I V))<|dU I<|bX h I (fun h=>?_) (fun h=>?_)
 ·exact aV<|bC<|cA<|af<|so h▸au I I
 ·refine gp<|aR<|bF<|bP<|ai<|bp ?_;refine ay (pd (tD:=fun n i=>gM a1 b n i=some R) (Of:=fun i=>[]) (Gf:=fun i=>[(2,bo cv a1),(3,bo cv b),(5,bf i)]) (fun i h=>nn h) (fun n ih i h=>?_) fc (0:Int) h) (a8 I);refine dw<|aR<|aY I<|aU iF ev oq I<|bY ol I<|qq I<|bX h I (fun h=>?_) (fun h=>?_)
  ·refine gp<|aA<|ai<|aA<|cu h fun e q_e h=>cu h fun e1 q_e1 h=>?_
   refine d8 (ts:=[_,_,_,_,_,_,_,_,_,_,_]) mixed I I
    ⟨qN 2 I I (kO iF ev I I),
    ⟨fA 0 oq I I,
    ⟨fv I I,
    ⟨eh 38 1 39 2 I I I (uR ol jg I I I q_e),
    ⟨fA 3 jg I I,
    ⟨qN 3 I I (kO iF ev I I),
    ⟨fA 5 oq I I,
    ⟨fv I I,
    ⟨eh 43 6 44 7 I I I (uR ol jg I I I q_e1),
    ⟨fA 8 jg I I,
    ⟨eh 41 4 46 9 I I I (qS aaN (M I) (M I)),
    Q⟩⟩⟩⟩⟩⟩⟩⟩⟩⟩⟩ ?_
   refine aq<|lO h I (fun h=>?_) (fun h=>?_)
   ·exact aV<|bC<|cA<|bT<|af<|bT<|so h▸au I I
   ·refine bl<|bn<|aq<|aL<|aY I<|d (fq (M I) hI)<|gx I<|br ?_;exact aO (ay (ih (IntKind.i64.wrap (i+(1:Int))) h) (a8 I))
  ·refine ep<|aE<|aE<|cK<|aq<|aR<|bF<|bP<|ai<|bp ?_;refine ay (pd (tD:=fun n1 i1=>gL a1 b n1 i1=some R) (Of:=fun i1=>[]) (Gf:=fun i1=>[(2,bo cv a1),(3,bo cv b),(6,bf i1)]) (fun i1 h=>nn h) (fun n1 ih1 i1 h=>?_) fc (0:Int) h) (a8 I);refine dw<|aR<|aY I<|aU o7 j7 fV I<|bY fH I<|qq I<|bX h I (fun h=>?_) (fun h=>?_)
   ·refine gp<|aA<|ai<|aA<|cu h fun e2 q_e2 h=>cu h fun e3 q_e3 h=>?_
    refine d8 (ts:=[_,_,_,_,_,_,_,_,_,_,_]) mixed I I
     ⟨qN 2 I I (kO o7 j7 I I),
     ⟨fA 0 fV I I,
     ⟨fv I I,
     ⟨eh 56 1 57 2 I I I (uR fH cF I I I q_e2),
     ⟨fA 3 cF I I,
     ⟨qN 3 I I (kO o7 j7 I I),
     ⟨fA 5 fV I I,
     ⟨fv I I,
     ⟨eh 61 6 62 7 I I I (uR fH cF I I I q_e3),
     ⟨fA 8 cF I I,
     ⟨eh 59 4 64 9 I I I (du (M I) (M I)),
     Q⟩⟩⟩⟩⟩⟩⟩⟩⟩⟩⟩ ?_
    refine aq<|lO h I (fun h=>?_) (fun h=>?_)
    ·exact aV<|bC<|cA<|bT<|af<|bT<|so h▸au I I
    ·refine bl<|bn<|aq<|aL<|aY I<|d (fq (M I) hI)<|gx I<|br ?_;exact aO (ay (ih1 (IntKind.i64.wrap (i1+(1:Int))) h) (a8 I))
   ·exact ep<|aE<|aE<|cK<|aq<|aV<|bC<|cA<|so h▸au I I

def Za a1 b{R}(h:vL a1 b=some R):cN bd 16 [Z bG a1,Z bG b] (iD R):=by
 refine dp Tryz.func16 I<|aV<|cL I<|cL I<|bC<|bP<|aR<|aU kX dE sL I<|bY qp I<|aU kX dE sL I<|bY qp I<|d (du (M I) (M I))<|bX h I (fun h=>?_) (fun h=>?_)
 ·exact aV<|bC<|cA<|af<|so h▸au I I
 ·refine gp<|aR<|bF<|bP<|ai<|bp ?_;refine ay (pd (tD:=fun n i=>lB a1 b n i=some R) (Of:=fun i=>[]) (Gf:=fun i=>[(2,bo bG a1),(3,bo bG b),(5,bf i)]) (fun i h=>nn h) (fun n ih i h=>?_) fc (0:Int) h) (a8 I);refine dw<|aR<|aY I<|aU kX dE sL I<|bY qp I<|qq I<|bX h I (fun h=>?_) (fun h=>?_)
  ·refine gp<|aA<|ai<|aA<|cu h fun e q_e h=>cu h fun e1 q_e1 h=>cu h fun r q_r h=>?_
   refine d8 (ts:=[_,_,_,_,_,_,_,_,_,_,_,_]) mixed I I
    ⟨qN 2 I I (kO kX dE I I),
    ⟨fA 0 sL I I,
    ⟨fv I I,
    ⟨eh 21 1 22 2 I I I (uR qp jN I I I q_e),
    ⟨fA 3 jN I I,
    ⟨qN 3 I I (kO kX dE I I),
    ⟨fA 5 sL I I,
    ⟨fv I I,
    ⟨eh 26 6 27 7 I I I (uR qp jN I I I q_e1),
    ⟨fA 8 jN I I,
    ⟨eh 24 4 29 9 I I I (bq acL (YM _ _ q_r) ⟨(M I),(M I),Q⟩),
    ⟨fL 30 10 I I (fD (M I)),
    Q⟩⟩⟩⟩⟩⟩⟩⟩⟩⟩⟩⟩ ?_
   refine aq<|lO h I (fun h=>?_) (fun h=>?_)
   ·exact aV<|bC<|cA<|bT<|af<|bT<|so h▸au I I
   ·refine bl<|bn<|aq<|aL<|aY I<|d (fq (M I) hI)<|gx I<|br ?_;exact aO (ay (ih (IntKind.i64.wrap (i+(1:Int))) h) (a8 I))
  ·exact ep<|aE<|aE<|cK<|aq<|aV<|bC<|cA<|so h▸au I I

def aaF p l{R}(h:vT p l=some R):cN bd 3 [Z bG p,gb (cw) l] (iD R):=by
 refine dp Tryz.func3 I<|aV<|cL I<|bC<|bP<|aR<|eg h cb9 aar trivial fun r h=>d (fD (M I))<|bX h I (fun h=>?_) (fun h=>?_)
 ·exact aV<|bC<|cA<|af<|so h▸au I I
 ·refine gp<|aV<|cM pl I<|eg h abU (TL _) (da I) fun r1 h=>aX pl sI I fun b=>bM pl aj I<|aQ 5 I<|bP<|aR<|aY I<|bY Tryz.underlying25 I<|d (bB hI)<|bP ?_;refine Jz (tD:=sd=some R) (Of:=[]) (Gf:=[]) (fun h=>?_) (fun aw=>?_)
  ·skip
   exact aq<|aV<|bC<|cA<|so h▸au I I
  ·skip
   refine aN (k:=19) I fun hN=>bp ?_;refine ay (dx (tD:=fun ls i=>(l.drop i=ls)/\mF p r1 ls i=some R) (Of:=fun _ i=>[]) (Gf:=fun _ i=>[(2,bo bG p),(5,bo bG r1),(19,gb (cw) l),(20,iG l),(21,bf (i:Int))]) (fun i h=>?_) (fun e tl ih i h=>?_) l 0 ⟨I,h⟩) (a8 I)
   ·obtain⟨D,h⟩:=h
    refine dh D I ?_;exact cj (aw h) trivial
   ·obtain⟨D,h⟩:=h
    refine dg D I<|aA<|ai<|aI I<|d9 Tryz.underlying25 vF I (cW D)<|aX vF zk I fun b1=>gx I<|bM vF aj I<|aQ 7 I<|bP<|aA ?_;refine aI I<|dn I<|bX h I (fun h=>?_) (fun h=>?_)
    ·refine ep<|aE<|cY I<|aE<|aE<|cK ?_;exact cj (aw h) trivial
    ·refine gp<|aV<|cM vF I<|eg h Zr (Og _) (da I) fun r2 h=>aX vF zk I fun b2=>bM vF aj I<|aQ 8 I<|bP<|aV<|cM pl I<|cM vF I<|eg h Zq (Oe _ _) (da I) fun r3 h=>aY I<|cU I I<|cU I I<|cU I I<|aX ke ld I fun b3=>bM ke aj I ?_;refine aQ 9 I<|gx I<|bh I<|aA<|cu h fun r4 q_r4 h=>cu h fun r5 q_r5 h=>?_
     refine er 11 [tc (Z bG r1),tc (Z cw e),tc (Z cw r4),tc (tT [Z cd r5.1,bf r5.2.1,bf r5.2.2]),tc (tT [Z cd r5.1,bf r5.2.1,bf r5.2.2]),tc (Z cd r5.1),tc (bf r5.2.1),tc (bf r5.2.2),([8],fun s=>tV (an ((s.getD 0 oD).h 0).2 0)),tc (tS),tc (bf r5.2.1)] [false,false,false,false,false,false,false,false,true,true,false] [fun _=>[],fun sg=>[bx cd 38 ((sg 8).h 0).2 H0],fun sg=>[bx cd 38 ((sg 8).h 0).2 r5.1]] I mixed I I I I I
      ⟨⟨[⟨5,fun _=>bo bG r1,none⟩],_,0,1,I,⟨(fun _=>I),Q⟩,I,I,I,I,I,fun _ sg _ _=>h2 I (nM pl I I)⟩,
      ⟨⟨[⟨7,fun _=>bo cw e,none⟩],_,0,1,I,⟨(fun _=>I),Q⟩,I,I,I,I,I,fun _ sg _ _=>h2 I (nM vF I I)⟩,
      ⟨⟨[⟨39,fun _=>Z cw e,some 1⟩],_,0,1,I,⟨(fun _=>I),Q⟩,I,I,I,I,I,fun _ sg _ _=>h2 I (bq Zr (Og _ q_r4) ⟨(M I),Q⟩)⟩,
      ⟨⟨[⟨38,fun _=>Z bG r1,some 0⟩,⟨40,fun _=>Z cw r4,some 2⟩],_,0,1,I,⟨(fun _=>I),(fun _=>I),Q⟩,I,I,I,I,I,fun _ sg _ _=>h2 I (bq adi (Ze _ _ q_r5) ⟨(M I),(M I),Q⟩)⟩,
      ⟨⟨[⟨41,fun _=>tT [Z cd r5.1,Z aP r5.2.1,Z aP r5.2.2],some 3⟩],_,0,1,I,⟨(fun _=>I),Q⟩,I,I,I,I,I,fun _ sg _ _=>h2 I (fR I)⟩,
      ⟨⟨[⟨37,fun _=>tT [Z cd r5.1,Z aP r5.2.1,Z aP r5.2.2],some 4⟩],_,0,1,I,⟨(fun _=>I),Q⟩,I,I,I,I,I,fun _ sg _ _=>h2 I (w9 I I)⟩,
      ⟨⟨[⟨37,fun _=>tT [Z cd r5.1,Z aP r5.2.1,Z aP r5.2.2],some 4⟩],_,0,2,I,⟨(fun _=>I),Q⟩,I,I,I,I,I,fun _ sg _ _=>h2 I (w9 I I)⟩,
      ⟨⟨[⟨37,fun _=>tT [Z cd r5.1,Z aP r5.2.1,Z aP r5.2.2],some 4⟩],_,0,2,I,⟨(fun _=>I),Q⟩,I,I,I,I,I,fun _ sg _ _=>h2 I (w9 I I)⟩,
      ⟨⟨[],_,I,Q,I,I,I,fun sg=>bL I (lM ke ld)⟩,
      ⟨⟨[⟨12,fun sg=>tV (an ((sg 8).h 0).2 0),some 8⟩,⟨42,fun _=>Z cd r5.1,some 5⟩],_,I,⟨(fun _=>I),(fun _=>I),Q⟩,I,I,I,fun sg=>bL I (dr ke I (uy aj) I (M I) (M I))⟩,
      ⟨⟨[⟨43,fun _=>Z aP r5.2.1,some 6⟩],_,2,2,I,⟨(fun _=>I),Q⟩,I,I,I,I,I,fun _ sg _ _=>h2 I (Cm I)⟩,
      Q⟩⟩⟩⟩⟩⟩⟩⟩⟩⟩⟩ (fun sg=>?_)
     refine(show RG _ _ _ _ [_] _ from ?_);refine aQ 12 I<|bh I<|aA<|cu h fun t q_t h=>?_
     obtain⟨r6,h1t,h0t⟩:=og q_t
     have q_r6g:=fun A=>(h1t A).1
     refine cu h fun t1 q_t1 h=>?_
     obtain⟨r7,h1t1,h0t1⟩:=og q_t1
     have q_r7g:=fun A=>(h1t1 A).1
     obtain⟨r8,h1t1⟩:=Sk (fun A=>(h1t1 A).2)
     have q_r8g:=fun A=>(h1t1 A).1
     refine cu h fun t2 q_t2 h=>?_
     obtain⟨r9,h1t2,h0t2⟩:=og q_t2
     have q_r9g:=fun A=>(h1t2 A).1
     obtain⟨r10,h1t2⟩:=Sk (fun A=>(h1t2 A).2)
     have q_r10g:=fun A=>(h1t2 A).1
     refine d8 (ts:=[_,_,_,_,_,_,_,_,_,_,_,_,_,_,_,_,_,_,_,_,_,_,_,_,_,_,_,_]) mixed I I
      ⟨fv I I,
      ⟨fv I I,
      ⟨eh 45 0 46 1 I I I (du (M I) (M I)),
      ⟨fL 47 2 I I (fR I),
      ⟨oo 10 48 3 I I I (cI I I I I (fun V=>fR I)),
      ⟨oo 13 48 3 I I I (cI I I I I (fun V=>fR I)),
      ⟨pi 49 4 50 5 48 3 I I I I (cI I I I I (fun V=>du (bE I V) (bE I V))),
      ⟨eh 48 3 51 6 I I I (zpo I I),
      ⟨fL 52 7 I I (fR I),
      ⟨oo 9 53 8 I I I (cI I I I I (fun V=>nM ke I I)),
      ⟨oo 12 53 8 I I I (cI I I I I (fun V=>nM ke I I)),
      ⟨pi 54 9 55 10 53 8 I I I I (cI I I I I (fun V=>bq adh (Zd _ _ (q_r6g V)) ⟨(bE I V),(bE I V),Q⟩)),
      ⟨jS 56 11 53 8 I I I (cI I I I I (fun V=>fD (bE I V))),
      ⟨eh 53 8 57 12 I I I (cD (M I) (fun A=>(bE I (mD A))) (fun A=>(h1t A).2) h0t),
      ⟨fL 58 13 I I (fR I),
      ⟨oo 8 59 14 I I I (cI I I I I (fun V=>nM vF I I)),
      ⟨oo 7 59 14 I I I (cI I I I I (fun V=>nM vF I I)),
      ⟨jS 61 16 59 14 I I I (cI I I I I (fun V=>bq Zr (Og _ (q_r7g V)) ⟨(bE I V),Q⟩)),
      ⟨pi 60 15 62 17 59 14 I I I I (cI I I I I (fun V=>bq adg (Zb _ _ (q_r8g V)) ⟨(bE I V),(bE I V),Q⟩)),
      ⟨jS 63 18 59 14 I I I (cI I I I I (fun V=>fD (bE I V))),
      ⟨eh 59 14 64 19 I I I (cD (M I) (fun A=>(bE I (mD A))) (fun A=>(h1t1 A).2) h0t1),
      ⟨fL 65 20 I I (fR I),
      ⟨oo 5 66 21 I I I (cI I I I I (fun V=>nM pl I I)),
      ⟨oo 2 66 21 I I I (cI I I I I (fun V=>nM pl I I)),
      ⟨jS 68 23 66 21 I I I (cI I I I I (fun V=>bq abU (TL _ (q_r9g V)) ⟨(bE I V),Q⟩)),
      ⟨pi 67 22 69 24 66 21 I I I I (cI I I I I (fun V=>bq adf (Za _ _ (q_r10g V)) ⟨(bE I V),(bE I V),Q⟩)),
      ⟨jS 70 25 66 21 I I I (cI I I I I (fun V=>fD (bE I V))),
      ⟨eh 66 21 71 26 I I I (cD (M I) (fun A=>(bE I (mD A))) (fun A=>(h1t2 A).2) h0t2),
      Q⟩⟩⟩⟩⟩⟩⟩⟩⟩⟩⟩⟩⟩⟩⟩⟩⟩⟩⟩⟩⟩⟩⟩⟩⟩⟩⟩⟩ ?_
     refine aq<|lO h I (fun h=>?_) (fun h=>?_)
     ·exact aV<|bC<|cA<|bT<|af<|bT<|so h▸au I I
     ·refine bl<|cS D hN I ?_;exact aO (ay (ih (i+1) ⟨cO D,h⟩) (a8 I))

end Go.Proofs.YthbdkceckjihgaaGreatDoor

