/- cP of this claim: P1. -/
import Derived.Test.YtfhhakidodmdfaaGreatDoorJgT
import Derived.Test.YtfhhakidodmdfaaGreatDoorJgP0
set_option linter.all false
namespace Go.Proofs.YtfhhakidodmdfaaGreatDoor
open Go
set_option maxRecDepth 100000

theorem Nf(e:bG){R:Int}(h:qY e=some R):aX aQ 75 [tD cj e] (bM R):=by
 refine aX.of Tryz.func75 J J J fun w0 S0=>aw<|zo J (jm J)<|zo J (cD)<|av<|ah<|aw<|zo J (bB j3 J J)<|bC h fun r q_r h=>zo J (aC ab2 (VO _ q_r) ⟨(ht J),aT⟩)<|aG J<|zo J (gp J J)<|zo J (gp J J)<|bp J<|bp J<|av<|aw<|aG J<|zo J (gh (ht J)) ?_;refine av<|cU h J (fun h=>?_) (fun h=>?_)
 ·refine aw<|zo J (cD)<|av<|am<|ae ?_;cases so h;exact aJ J J
 ·refine dS<|aw<|zo J (cD)<|av<|am ?_;cases so h;exact aJ J J

theorem Z9(l:Option Nat)(c:Nat)(s:(List Int)){R:(List Int)}(h:j4 s=some R):cX aQ 91 [sb l c s] [fj cd 3 l c s] (fun i:OI=>sb (i.h 0).1 (i.h 0).2 R) (fun i=>[fj cd 3 (i.h 0).1 (i.h 0).2 R]):=by
 refine cX.of Tryz.func91 J J J fun w0 S0=>aw<|bQ false cd 3<|zo J (aM tJ)<|av<|ah<|aw<|aG J<|zo J (jA gT (.tail _ (.head _)) (ht J))<|zo J (gi (ht J) hI)<|av<|cU h J (fun h=>?_) (fun h=>?_)
 ·refine aw<|aG J<|bp J<|av<|am<|ae<|ba ?_;cases so h;exact nk J (oi l c) J J (fun _ _ h=>h)
 ·refine dS<|ah<|aw<|zo J (cD)<|av<|aA<|oN (.tail _ (.head _)) fun hN=>bL<|rm ?_;refine aU (eI (Z:=fun ls i=>(s.drop i=ls)∧eK s ls i=some R) (Of:=fun _ i=>[fj cd 3 l c s]) (Gf:=fun _ i=>[(0,sb l c s),(3,bM (i:Int))]) (fun i h=>?_) (fun e tl ih i h=>?_) (s.drop (1)) 1 ⟨J,h⟩) (bu J)
  ·obtain⟨hx,h⟩:=h
   refine aB<|ah<|aw<|aG J<|aG J<|zo J (jA gT (.head _) (ht J))<|zo J (fM J J)<|av<|bz (ht J) (du hx)<|bv ?_;refine ai (ai (aO ?_));refine ax<|aw<|aG rfl<|bp rfl<|av<|am ?_;cases so h;exact nk J (oi l c) J J (fun _ _ h=>h)
  ·obtain⟨hx,h⟩:=h
   refine aB<|ah<|aw<|aG J<|aG J<|zo J (jA gT (.head _) (ht J))<|zo J (fM J J)<|av<|bw (ht J) (di hx)<|dS<|ah<|aA<|ah<|bC h fun e1 q_e1 h=>?_
   refine c9 (ts:=[_,_,_,_,_,_,_,_,_,_]) mixed J J
    ⟨eM 0 J J J (dl J),
    ⟨eM 3 J J J (dl J),
    ⟨d8 16 0 17 1 J J J J (cK gT cx (.head _) (ht J) (ht J) (da hx)),
    ⟨bY 18 2 J J J (gq (r:=cd) (i:=(i:Int)) (foff:=0) cx J J bT J (.head _) (da hx) (ht J)),
    ⟨eM 0 J J J (dl J),
    ⟨eM 3 J J J (dl J),
    ⟨bY 21 5 J J J (iQ (ht J) hI),
    ⟨d8 20 4 22 6 J J J J (cK gT cx (.head _) (ht J) (ht J) q_e1),
    ⟨bY 23 7 J J J (gq (r:=cd) (i:=(IntKind.i64.wrap ((i:Int)-(1:Int)))) (foff:=0) cx J J bT J (.head _) q_e1 (ht J)),
    ⟨d8 19 3 24 8 J J J J (dH (ht J) (ht J)),
    aT⟩⟩⟩⟩⟩⟩⟩⟩⟩⟩ ?_
   refine ax<|cU h rfl (fun h=>?_) (fun h=>?_)
   ·refine aw<|aG J<|aG J<|bC h fun y q_y h=>zo J (n8 gT cx J (.head _) (ht J) (ht J) q_y)<|m7 (.head _) q_y fun hv=>bp J<|av<|ah<|aw<|zo J (cD)<|av<|aA<|bL ?_;refine aU (Jk (Z:=fun k1 i1 s1 k=>(y.length-i1=k1)∧dZ i y k1 i1 s1 k=some R) (Of:=fun _ i1 s1 k=>[fj cd 3 l c s1]) (Gf:=fun _ i1 s1 k=>[(0,sb l c s1),(3,bM k),(4,tV (oP 1 l c (i:Int).toNat y.length)),(5,bM (i1:Int))]) (fun i1 s1 k h=>?_) (fun k2 ih1 i1 s1 k h=>?_) (y.length-1) 1 s (i:Int) ⟨J,h⟩) (bu J)
    ·obtain⟨hx1,h⟩:=h
     refine aB<|ah<|aw<|aG J<|aG J<|zo J (DC gT hv.1 (ht J))<|zo J (fM J J)<|av<|bz (ht J) (X8 hx1)<|bv ?_;refine ai (ai (aO ?_));refine ax<|aw<|aG rfl<|aG rfl<|bC h fun y1 q_y1 h=>zo J (n8 gT cx J (.head _) (ht J) (ht J) q_y1)<|m7 (.head _) q_y1 fun hv1=>bC h fun cl q_cl h=>Hy cx J J gT (fun _=>J) J q_y1 (ht J) (so q_cl)<|iH (yQ q_y1 (so q_cl)) 0 J<|iH (yQ q_y1 (so q_cl)) 54 J<|av<|aw<|aG J<|aG J<|bC h fun y2 q_y2 h=>zo J (lh gT cx J (.head _) (ht J) (ht J) q_y2)<|wD q_y2<|bp J<|av ?_;refine am ?_;refine aD (ae (ae (aD (ae ?_))));cases so h;exact nk J (oi l c) J J (fun _ _ h=>h)
    ·obtain⟨hx1,h⟩:=h
     refine aB<|ah<|aw<|aG J<|aG J<|zo J (DC gT hv.1 (ht J))<|zo J (fM J J)<|av<|bw (ht J) (X7 hx1)<|dS<|ah<|aA<|ah<|bC h fun e3 q_e3 h=>bC h fun e4 q_e4 h=>?_
     refine c9 (ts:=[_,_,_,_,_,_,_,_,_,_]) mixed J J
      ⟨eM 4 J J J (dl J),
      ⟨eM 5 J J J (dl J),
      ⟨d8 35 0 36 1 J J J J (nr gT cx J (.head _) (sJ q_y) (ht J) (ht J) q_e3),
      ⟨bY 37 2 J J J (gq (r:=cd) (i:=((i:Int)+(i1:Int))) (foff:=0) cx J J bT J (.head _) (qQ q_e3).2.2 (ht J)),
      ⟨eM 4 J J J (dl J),
      ⟨eM 5 J J J (dl J),
      ⟨bY 40 5 J J J (iQ (ht J) hI),
      ⟨d8 39 4 41 6 J J J J (nr gT cx J (.head _) (sJ q_y) (ht J) (ht J) q_e4),
      ⟨bY 42 7 J J J (gq (r:=cd) (i:=((i:Int)+(IntKind.i64.wrap ((i1:Int)-(1:Int))))) (foff:=0) cx J J bT J (.head _) (qQ q_e4).2.2 (ht J)),
      ⟨d8 38 3 43 8 J J J J (fe (ht J) (ht J)),
      aT⟩⟩⟩⟩⟩⟩⟩⟩⟩⟩ ?_
     refine ax<|cU h rfl (fun h=>?_) (fun h=>?_)
     ·refine aw<|aG J<|aG J<|aG J<|aG J<|bC h fun e5 q_e5 h=>zo J (nr gT cx J (.head _) (sJ q_y) (ht J) (ht J) q_e5)<|zo J (gq (r:=cd) (i:=((i:Int)+(i1:Int))) (foff:=0) cx J J bT J (.head _) (qQ q_e5).2.2 (ht J))<|bC h fun e6 q_e6 h=>zo J (cK gT cx (.head _) (ht J) (ht J) q_e6)<|bC h fun st q_st h=>sW cx J an J q_e6 (so q_st) (ht J) (ht J)<|iH (mE (so q_st)) 0 J<|iH (mE (so q_st)) 45 J<|av<|au<|aG J<|zo J (oa (ht J) hI)<|bp J<|aP<|aq<|ax ?_;refine au<|aG J<|zo J (yE (Rv hx1 (Ue hv.2)) (ht J) hI)<|bp J<|aP ?_;exact bm (aU (ih1 (i1+1) st (IntKind.i64.wrap (k+(1:Int))) ⟨Ru hx1,h⟩) (bu J))
     ·refine bA<|aq<|ax<|au<|aG rfl<|zo rfl (yE (Rv hx1 (Ue hv.2)) (ht rfl) hI)<|bp rfl<|aP ?_;exact bm (aU (ih1 (i1+1) s1 k ⟨Ru hx1,h⟩) (bu J))
   ·refine bA<|aq<|ax<|au<|aG rfl<|zo rfl (mz (cM hx hN) rfl)<|bp rfl<|aP ?_;exact bm (aU (ih (i+1) ⟨cL hx,h⟩) (bu J))

theorem Lb(e:bG){R:(List Int)}(h:sT e=some R):fZ aQ 181 [tD cj e] false cd 3 R:=by
 refine fZ.of Tryz.func181 J J J fun w0 S0=>aw<|zo J (jm J)<|bQ false cd 3<|zo J (aM tJ)<|av<|ah<|aw<|zo J (bB j3 J J)<|bC h fun r q_r h=>zo J (aC Y6 (Nf _ q_r) ⟨(ht J),aT⟩)<|zo J (s4 J)<|av<|cU h J (fun h=>?_) (fun h=>?_)
 ·refine aw<|bQ false cd 3<|zo J (aM tJ)<|av<|am<|ae ?_;cases so h;exact gn J J
 ·refine dS<|aw<|bQ false cd 3<|zo J (aM tJ)<|av<|ah<|aw<|zo J (df qn lX J J)<|zo J (bB AU J J)<|zo J (jg vP J)<|zo J (bI hI)<|av<|aA<|be (k:=10) J fun hN=>bL<|hU<|rm ?_;refine aU (jW (Z:=fun ls i out l c=>(e.Nodes.drop i=ls)∧mW ls out=some R) (Of:=fun _ i out l c=>[fj cd 3 l c out]) (Gf:=fun _ i out l c=>[(3,sb l c out),(10,ca (bJ) e.Nodes),(11,jz e.Nodes),(12,bM (i:Int))]) (fun i out l c h=>?_) (fun e1 tl ih i out l c h=>?_) e.Nodes 0 u7 none 0 ⟨J,h⟩) (bu J)
  ·obtain⟨hx,h⟩:=h
   refine aB<|aw<|zo J (fM J J)<|av<|ah<|bz (ht J) (du hx)<|bv ?_;refine ai (ai (aO ?_));refine ax<|aw<|aG rfl<|bC h fun uP q_srt h=>?_;refine S7 (n:=out.length) (ys:=uP) Jf ?_ acG ?_ ?_ ?_ ?_ ?_
   ·rfl
   ·exact q_srt
   ·exact(ht J)
   ·rfl
   ·rfl
   intro hl
   refine o8 hl 3 J<|o8 hl 25 J<|av<|aw<|aG J<|bC h fun r1 q_r1 h=>BO [fj cd 3 l c uP] _ J acF (Z9 l c _ q_r1) ⟨(ht J),aT⟩ J fun i1=>?_;refine(show RG _ _ _ _ [fj cd 3 (i1.h 0).1 (i1.h 0).2 r1] ((28,sb (i1.h 0).1 (i1.h 0).2 r1)::_)from ?_);refine bp J<|av<|am ?_;cases so h;exact gn J J
  ·obtain⟨hx,h⟩:=h
   refine aB<|aw<|zo J (fM J J)<|av<|ah<|bw (ht J) (di hx)<|dS<|ah<|aA<|aw<|zo J (my vP oW J J J (da hx))<|zo J (bB oW J J)<|aW (r:=bJ) (x:=QM) oW (fun _=>s0 _) J fun b=>ap oW J an J (ht J) (ht J)<|aV 5 J<|av<|aw<|zo J (df ql iv J J) ?_;refine zo J (bB cx J J)<|zo J (nI J)<|av<|cU h J (fun h=>?_) (fun h=>?_)
   ·refine au<|aG J<|zo J (df Ag pz J J)<|zo J (bB cx J J)<|zo J (aS (r:=cd) (ys:=[e1.Col]) (xs:=[.tmp 21]) gT cx J J J J J ⟨(ht J),aT⟩)<|bC h fun out1 q_out1 h=>cT cx J J J J gT J J (ht J) (ht J) q_out1 fun l2 c2=>bp J<|aP<|aq<|ax<|au<|zo rfl (mz (cM hx hN) rfl)<|aG rfl<|aP ?_;exact bm (aU (ih (i+1) out1 l2 c2 ⟨cL hx,h⟩) (bu J))
   ·refine bA<|aq<|ax<|au<|zo rfl (mz (cM hx hN) rfl)<|aG rfl<|aP ?_;exact bm (aU (ih (i+1) out l c ⟨cL hx,h⟩) (bu J))
theorem IT(s:(List Int)){R:(List Int)}(h:cy s=some R):fZ aQ 73 [mv s] false cd 3 R:=by
 refine fZ.of Tryz.func73 J J J fun w0 S0=>aw<|bQ false cd 3<|zo J (aM tJ)<|av<|ah<|aw<|aG J<|tX gT (ht J) J fun isnil hisnil=>av<|pi (ht J) (fun hc=>?_) (fun hc=>?_)
 ·have hx:=hisnil hc
  have h:some u7=some R:=by simpa [cy,app,hx] using h
  refine aw<|bQ false cd 3<|zo J (aM tJ)<|av<|am<|ae ?_;cases so h;exact gn J J
 ·refine dS<|aw<|kh (r:=cd) (ys:=u7) (xs:=[]) gT cx J J J J J trivial J fun l c=>aG J<|bC h fun x q_x h=>cT cx J J J J gT J J (ht J) (ht J) q_x fun l1 c1=>bp J<|av<|am ?_;cases so h;exact gn J J
theorem R4(s:(List Int)){R:(List Int)}(h:cy s=some R):aX aQ 73 [mv s] (mv R):=(IT _ h).spec

theorem aaa{l:Option Nat}{c:Nat}{xs s:List Int}{lo:Int}{R:List Int}(hs:dA xs lo (xs.length:Int)=some s)(h:cy s=some R):cX aQ 73 [tV (oP 1 l c lo.toNat s.length)] [fj cd 3 l c xs] (fun i:OI=>sb (i.h 0).1 (i.h 0).2 R) (fun i=>[fj cd 3 (i.h 0).1 (i.h 0).2 R,fj cd 3 l c xs]):=by
 refine cX.of Tryz.func73 J J J fun w0 S0=>aw<|zo J (aM tJ)<|av<|ah<|aw<|aG J<|Hw (r:=cd) gT (.head _) hs (ht J) J fun isnil hisnil=>av<|pi (ht J) (fun hc=>?_) (fun hc=>?_)
 ·have hx:=hisnil hc
  have h:some u7=some R:=by simpa [cy,app,hx] using h
  refine aw<|bQ false cd 3<|zo J (aM tJ)<|av<|am<|ae ?_;cases so h;exact nk J (oi none 0) J J (fun _ _ h=>h)
 ·refine dS<|aw<|kh (r:=cd) (ys:=u7) (xs:=[]) gT cx J J J J J trivial J fun l1 c1=>aG J<|bC h fun x q_x h=>FO cx J J J J gT J J (ht J) (.tail _ (.head _)) hs (ht J) q_x fun l2 c2=>bp J<|av<|am ?_;cases so h;exact nk J (oi l2 c2) J J (fun _ _ h=>h)

theorem YC(b:Nat)(l:Option Nat)(c:Nat)(stack:(List Int))(k:Int){R:(List Int)×(List Int)}(h:ph stack k=some R):cX aQ 366 [bM k,tV (aN b 0)] [bx rV 39 b (aR l c stack.length),fj cd 3 l c stack] (fun i:OI=>mv R.1) (fun i=>[bx rV 39 b (aR (i.h 0).1 (i.h 0).2 R.2.length),fj cd 3 (i.h 0).1 (i.h 0).2 R.2]):=by
 refine cX.of Tryz.func366 J J J fun w0 S0=>aw<|zo J (aM (show aI _ _ _ xq from jQ))<|av<|aw<|zo J (gY d9 (.head _) (ht J))<|zo J (gY d9 (.head _) (ht J))<|zo J (jA gT (.tail _ (.head _)) (ht J))<|aG J<|zo J (iQ (ht J) (ht J))<|bC h fun y q_y h=>zo J (n8 gT cx J (.tail _ (.head _)) (ht J) (ht J) q_y)<|m7 (.tail _ (.head _)) q_y fun hv=>bF<|bC h fun r q_r h=>BO [fj cd 3 l c stack] _ J SC (aaa q_y q_r) ⟨(ht J),aT⟩ J fun i=>?_;refine(show RG _ _ _ _ [fj cd 3 (i.h 0).1 (i.h 0).2 r,fj cd 3 l c stack,bx rV 39 b (aR l c stack.length)] _ from ?_);refine bp J<|av<|aw<|zo J (gY d9 (.tail _ (.tail _ (.head _))) (ht J))<|zo J (gY d9 (.tail _ (.tail _ (.head _))) (ht J))<|zo J (jA gT (.tail _ (.head _)) (ht J))<|aG J<|zo J (iQ (ht J) (ht J))<|bC h fun y1 q_y1 h=>zo J (lh gT cx J (.tail _ (.head _)) (ht J) (ht J) q_y1)<|bF<|wD q_y1<|hT<|ap d9 J an J (ht J) (PZ (ht J))<|av<|aw<|aG J<|bp J<|av ?_;refine am<|aK<|jD<|cE 3 J<|cE 11 J<|cE 4 J<|cE 18 J<|jE 3 J<|ba<|bD<|bD ?_;cases so h;exact nk J (oi l c) J J (fun _ _ h=>h)

theorem UG(e:bG)(do1:(bo→(List Int)→Option (Int×Int))){R:Int×Int}(h:o5 e do1=some R):aX aQ 345 [tD cj e,(dX aQ Tt Ts (fun(x:bo×(List Int))=>do1 x.1 x.2))] (tT [bM R.1,bM R.2]):=by
 refine aX.of Tryz.func345 J J J fun w0 S0=>aw<|zo J (jm J)<|zo J (cD)<|zo J (cD)<|av<|LJ<|aw<|bQ false cd 3<|aW (x:=aR none 0 0) d9 (fun _=>ES) J fun b=>av<|aw<|zo J (cD)<|av<|aw<|zo J (Kt (cts:=[tV (aN b 0)]) (caps:=[.tmp 6]) ⟨(ht J),aT⟩)<|bp J ?_;refine av<|aw<|zo J (cD)<|av<|ah<|LK<|ax<|ah<|aw<|zo rfl (df qn lX rfl rfl)<|zo rfl (bB AU rfl rfl)<|zo rfl (jg vP rfl)<|zo rfl (bI hI)<|av ?_;refine HG (Z:=fun bad stack l c=>ma bad stack=some R) (Of:=fun bad stack l c=>[bx rV 39 b (aR l c stack.length),fj cd 3 l c stack]) (Gf:=fun bad stack l c=>[(6,tV (aN b 0)),(7,bM 0),(9,bM bad)]) (fun bad stack l c h=>?_) (fun K=>?_)
 ·skip
  refine ax<|ah<|aw<|aG rfl<|zo rfl (s4 rfl)<|av<|cU h rfl (fun h=>?_) (fun h=>?_)
  ·refine aw<|aG J<|aG J<|bp J<|bp J<|av<|am ?_;refine ae (yY ?_);refine ba<|ba ?_;cases so h;exact cC J J J
  ·refine dS<|aw<|zo J (gY d9 (.head _) (ht J))<|bC h fun e1 q_e1 h=>zo J (cK gT cx (.tail _ (.head _)) (ht J) hI q_e1)<|zo J (gq (r:=cd) (i:=(0:Int)) (foff:=0) cx J J bT J (.tail _ (.head _)) q_e1 (ht J))<|bp J<|zo J (cD)<|av<|am<|yY<|ba<|ba ?_;cases so h;exact cC J J J
 ·skip
  refine be (k:=16) J fun hN=>bL ?_;refine aU (ub (Z:=fun ls i bad1 stack1 l1 c1=>(e.Nodes.drop i=ls)∧g9 do1 ls bad1 stack1=some R) (Of:=fun _ i bad1 stack1 l1 c1=>[bx rV 39 b (aR l1 c1 stack1.length),fj cd 3 l1 c1 stack1]) (Gf:=fun _ i bad1 stack1 l1 c1=>[(1,(dX aQ Tt Ts (fun(x:bo×(List Int))=>do1 x.1 x.2))),(6,tV (aN b 0)),(7,bM 0),(8,tC 366 [tV (aN b 0)]),(9,bM bad1),(16,ca (bJ) e.Nodes),(17,jz e.Nodes),(18,bM (i:Int))]) (fun i bad1 stack1 l1 c1 h=>?_) (fun e2 tl ih i bad1 stack1 l1 c1 h=>?_) e.Nodes 0 (0:Int) u7 none 0 ⟨J,h⟩) (bu J)
  ·obtain⟨hx,h⟩:=h
   refine aB<|aw<|zo J (fM J J)<|av<|ah<|bz (ht J) (du hx)<|bv ?_;refine ai (ai (aO ?_));exact cw (K bad1 stack1 l1 c1 h) (bu J)
  ·obtain⟨hx,h⟩:=h
   refine aB<|aw<|zo J (fM J J)<|av<|ah<|bw (ht J) (di hx)<|dS<|ah<|aA<|aw<|zo J (my vP oW J J J (da hx))<|zo J (bB oW J J)<|aW (r:=bJ) (x:=QM) oW (fun _=>s0 _) J fun b1=>ap oW J an J (ht J) (ht J)<|aV 11 J<|av<|ah<|bC h fun r q_r h=>bC h fun r1 q_r1 h=>?_
   obtain⟨r2,q_r2,h⟩:=bs h
   refine o9 12 [tc ((dX aQ Tt Ts (fun(x:bo×(List Int))=>do1 x.1 x.2))),tc (tD bJ e2),tc (tC 366 [tV (aN b 0)]),tc (bK cd e2.Tag),tc (bM e2.Tag),tc (bM r),tc (mv r1.1),tc (tT [bM r2.1,bM r2.2]),tc (tT [bM r2.1,bM r2.2]),tc (bM r2.1),tc (bM r2.2),tc (bM r2.1)] [false,false,false,false,false,false,true,false,false,false,false,false] [fun _=>[bx rV 39 b (aR l1 c1 stack1.length),fj cd 3 l1 c1 stack1],fun sg=>[bx rV 39 b (aR ((sg 6).h 0).1 ((sg 6).h 0).2 r1.2.length),fj cd 3 ((sg 6).h 0).1 ((sg 6).h 0).2 r1.2]] J mixed J J J J J
    ⟨⟨[⟨1,fun _=>(dX aQ Xw Xv (fun(x:bo×(List Int))=>do1 x.1 x.2)),none⟩],_,0,1,J,⟨(fun _=>J),aT⟩,J,J,J,J,J,fun _ sg _ _=>ay J (dl J)⟩,
    ⟨⟨[⟨11,fun _=>bK bJ e2,none⟩],_,0,1,J,⟨(fun _=>J),aT⟩,J,J,J,J,J,fun _ sg _ _=>ay J (bB oW J J)⟩,
    ⟨⟨[⟨8,fun _=>tC 366 [tV (aN b 0)],none⟩],_,0,0,J,⟨(fun _=>J),aT⟩,J,J,J,J,J,fun _ sg _ _=>ay J (dl J)⟩,
    ⟨⟨[⟨11,fun _=>bK bJ e2,none⟩],_,0,0,J,⟨(fun _=>J),aT⟩,J,J,J,J,J,fun _ sg _ _=>ay J (df ql iv J J)⟩,
    ⟨⟨[⟨26,fun _=>bK cd e2.Tag,some 3⟩],_,0,0,J,⟨(fun _=>J),aT⟩,J,J,J,J,J,fun _ sg _ _=>ay J (bB cx J J)⟩,
    ⟨⟨[⟨27,fun _=>tD cd e2.Tag,some 4⟩],_,0,0,J,⟨(fun _=>J),aT⟩,J,J,J,J,J,fun _ sg _ _=>ay J (aC Pa (DN _ q_r) ⟨(ht J),aT⟩)⟩,
    ⟨⟨[⟨25,fun _=>tC 366 [tV (aN b 0)],some 2⟩,⟨28,fun _=>tD cd r,some 5⟩],_,J,⟨(fun _=>J),(fun _=>J),aT⟩,J,J,J,fun sg=>ei J (EffOK.fr1 (EffOK.fr1 (Cs (xs:=[.tmp 28]) (ts:=[tD cd r]) (cts:=[tV (aN b 0)]) [bx rV 39 b (aR l1 c1 stack1.length),fj cd 3 l1 c1 stack1] _ J aay (YC b l1 c1 _ _ q_r1) (ht J) ⟨(ht J),aT⟩ (fun _=>J))))⟩,
    ⟨⟨[⟨23,fun _=>(dX aQ Xw Xv (fun(x:bo×(List Int))=>do1 x.1 x.2)),some 0⟩,⟨24,fun _=>tD bJ e2,some 1⟩,⟨29,fun _=>tD xp r1.1,some 6⟩],_,1,1,J,⟨(fun _=>J),(fun _=>J),(fun _=>J),aT⟩,J,J,J,J,J,fun _ sg _ _=>ay J (gZ (args:=Xw) (res:=Xv) (f:=(fun(x:bo×(List Int))=>do1 x.1 x.2)) (x:=((e2,r1.1):bo×(List Int))) (ht J) q_r2 ⟨(ht J),(ht J),aT⟩)⟩,
    ⟨⟨[⟨30,fun _=>tT [tD cd r2.1,tD cd r2.2],some 7⟩],_,1,1,J,⟨(fun _=>J),aT⟩,J,J,J,J,J,fun _ sg _ _=>ay J (dl J)⟩,
    ⟨⟨[⟨22,fun _=>tT [tD cd r2.1,tD cd r2.2],some 8⟩],_,1,1,J,⟨(fun _=>J),aT⟩,J,J,J,J,J,fun _ sg _ _=>ay J (gp J J)⟩,
    ⟨⟨[⟨22,fun _=>tT [tD cd r2.1,tD cd r2.2],some 8⟩],_,1,1,J,⟨(fun _=>J),aT⟩,J,J,J,J,J,fun _ sg _ _=>ay J (gp J J)⟩,
    ⟨⟨[⟨31,fun _=>tD cd r2.1,some 9⟩],_,1,1,J,⟨(fun _=>J),aT⟩,J,J,J,J,J,fun _ sg _ _=>ay J (u8 J)⟩,
    aT⟩⟩⟩⟩⟩⟩⟩⟩⟩⟩⟩⟩ (fun sg=>?_)
   refine(show RG _ _ _ _ [bx rV 39 b (aR ((sg 6).h 0).1 ((sg 6).h 0).2 r1.2.length),fj cd 3 ((sg 6).h 0).1 ((sg 6).h 0).2 r1.2] _ from ?_);refine bp J<|av<|ah<|aw<|aG J<|zo J (s4 J)<|av<|cU h J (fun h=>?_) (fun h=>?_)
   ·refine aw<|aG J<|bp J<|av<|bv ?_;refine ai (cm J (ai (ai (aO ?_))));exact cw (K r2.2 r1.2 ((sg 6).h 0).1 ((sg 6).h 0).2 h) (bu J)
   ·refine dS<|au<|zo J (gY d9 (.head _) (ht J))<|aG J<|zo J (aS (r:=cd) (ys:=[r2.1]) (xs:=[.tmp 37]) gT cx J J J J J ⟨(ht J),aT⟩)<|bF<|bC h fun l2 q_l2 h=>cT cx J J J J gT J J (ht J) (ht J) q_l2 fun l3 c2=>bF<|ap d9 J an J (ht J) (PZ (ht J))<|aP<|aq<|ax<|au<|zo rfl (mz (cM hx hN) rfl)<|aG rfl<|aP ?_;exact bm (aU (ih (i+1) bad1 l2 l3 c2 ⟨cL hx,h⟩) (bu J))

theorem VP(tag:Int){R:Bool}(h:wO tag=some R):aX aQ 123 [bM tag] (iR R):=by
 refine aX.of Tryz.func123 J J J fun w0 S0=>aw<|zo J (jL)<|av<|aw<|aG J<|zo J (nI J)<|aG J<|gz J J (fun hg=>dl J)<|gz J J (fun hg=>jq (bN J hg) hI)<|gz J J (fun hg=>bI (bN J hg))<|jV J J J J (fun hg=>dl J)<|jV J J J J (fun hg=>n9 (bN J hg) hI)<|gz J J (fun hg=>qN (bN J hg) (fun hb=>(bN J (Dx hg hb))))<|zo J (xo J J)<|bp J<|av<|am ?_;cases so h;exact aJ J J

theorem UF(kinds:(List Int))(n:bo)(l:(List Int)){R:Int×Int}(h:jv kinds n l=some R):aX aQ 346 [tD bJ n,mv l,bK nP kinds] (tT [bM R.1,bM R.2]):=by
 refine aX.of Tryz.func346 J J J fun w0 S0=>aw<|zo J (jm J)<|zo J (cD)<|zo J (cD)<|av<|aw<|zo J (cD)<|av<|ah<|aw<|aG J<|zo J (jg gT J)<|zo J (bI hI)<|av<|aA<|be (k:=12) J fun hN=>bL ?_;refine aU (oz (Z:=fun ls i own=>(l.drop i=ls)∧md kinds n ls own=some R) (Of:=fun _ i own=>[]) (Gf:=fun _ i own=>[(2,bK nP kinds),(3,bK bJ n),(7,bM own),(12,mv l),(13,jz l),(14,bM (i:Int))]) (fun i own h=>?_) (fun e tl ih i own h=>?_) l 0 (0:Int) ⟨J,h⟩) (bu J)
 ·obtain⟨hx,h⟩:=h
  refine aB<|aw<|zo J (fM J J)<|av<|ah<|bz (ht J) (du hx)<|bv ?_;refine ai (ai (aO ?_));refine ax<|aw<|aG rfl<|bp rfl<|av<|aw<|zo rfl (cD)<|av<|ah<|aA<|aw<|zo rfl (df ql iv rfl rfl)<|zo rfl (bB cx rfl rfl)<|zo rfl (nI rfl)<|bp rfl<|av<|cU h rfl (fun h=>?_) (fun h=>?_)
  ·refine aw<|zo J (df Cn qT J J)<|zo J (df hZ cQ J J)<|zo J (bB cx J J)<|bp J<|zo J (cD)<|av<|am ?_;refine aD (ae ?_);cases so h;exact cC J J J
  ·refine aw<|zo J (df ql iv J J)<|zo J (bB cx J J)<|zo J (nI J)<|bp J<|av<|cU h J (fun h=>?_) (fun h=>?_)
   ·refine aw<|zo J (bB d9 J J)<|zo J (df Ag pz J J)<|zo J (bB cx J J)<|bC h fun e1 q_e1 h=>zo J (my gT cx J J J q_e1)<|zo J (bB cx J J)<|bp J<|zo J (cD)<|av<|am ?_;refine aD (ae ?_);cases so h;exact cC J J J
   ·refine aw<|zo J (df ql iv J J)<|zo J (bB cx J J)<|bC h fun r q_r h=>zo J (aC ab4 (VP _ q_r) ⟨(ht J),aT⟩)<|bp J<|av<|cU h J (fun h=>?_) (fun h=>?_)
    ·refine au<|zo J (cD)<|zo J (cD)<|aP<|aq<|ax<|ah<|aw<|aG rfl<|zo rfl (nI rfl)<|aG rfl<|gz rfl rfl (fun hg=>dl J)<|gz J J (fun hg=>fe (bN J hg) hI)<|gz J J (fun hg=>bI (bN J hg))<|jV J J J J (fun hg=>dl J)<|jV J J J J (fun hg=>dl J)<|jV J J J J (fun hg=>fe (bN J hg) (bN J hg))<|gz J J (fun hg=>qN (bN J hg) (fun hb=>(bN J (Dx hg hb))))<|zo J (xo J J)<|av<|cU h J (fun h=>?_) (fun h=>?_)
     ·refine aw<|zo J (cD)<|zo J (cD)<|av<|am<|ae ?_;cases so h;exact cC J J J
     ·refine dS<|aw<|aG J<|bp J<|zo J (cD)<|av<|am ?_;cases so h;exact cC J J J
    ·refine aw<|zo J (df ql iv J J)<|zo J (bB cx J J)<|zo J (nI J)<|aG J<|gz J J (fun hg=>df ql iv J J)<|gz J J (fun hg=>bO cx J J (bN J hg))<|gz J J (fun hg=>dH (bN J hg) hI)<|zo J (xo J J)<|aG J<|gz J J (fun hg=>df ql iv J J)<|gz J J (fun hg=>bO cx J J (bN J hg))<|gz J J (fun hg=>dH (bN J hg) hI)<|zo J (xo J J)<|bp J<|av<|cU h J (fun h=>?_) (fun h=>?_)
     ·refine au<|zo J (cD)<|aP<|aq<|ax<|ah<|aw<|aG rfl<|zo rfl (nI rfl)<|aG rfl<|gz rfl rfl (fun hg=>dl J)<|gz J J (fun hg=>fe (bN J hg) hI)<|gz J J (fun hg=>bI (bN J hg))<|jV J J J J (fun hg=>dl J)<|jV J J J J (fun hg=>dl J)<|jV J J J J (fun hg=>fe (bN J hg) (bN J hg))<|gz J J (fun hg=>qN (bN J hg) (fun hb=>(bN J (Dx hg hb))))<|zo J (xo J J)<|av<|cU h J (fun h=>?_) (fun h=>?_)
      ·refine aw<|zo J (cD)<|zo J (cD)<|av<|am<|ae ?_;cases so h;exact cC J J J
      ·refine dS<|aw<|aG J<|bp J<|zo J (cD)<|av<|am ?_;cases so h;exact cC J J J
     ·refine bA<|aq<|ax<|ah<|aw<|aG rfl<|zo rfl (nI rfl)<|aG rfl<|gz rfl rfl (fun hg=>dl J)<|gz J J (fun hg=>fe (bN J hg) hI)<|gz J J (fun hg=>bI (bN J hg))<|jV J J J J (fun hg=>dl J)<|jV J J J J (fun hg=>dl J)<|jV J J J J (fun hg=>fe (bN J hg) (bN J hg))<|gz J J (fun hg=>qN (bN J hg) (fun hb=>(bN J (Dx hg hb))))<|zo J (xo J J)<|av<|cU h J (fun h=>?_) (fun h=>?_)
      ·refine aw<|zo J (cD)<|zo J (cD)<|av<|am<|ae ?_;cases so h;exact cC J J J
      ·refine dS<|aw<|aG J<|bp J<|zo J (cD)<|av<|am ?_;cases so h;exact cC J J J
 ·obtain⟨hx,h⟩:=h
  refine aB<|aw<|zo J (fM J J)<|av<|ah<|bw (ht J) (di hx)<|dS<|ah<|aA<|aw<|zo J (my gT cx J J J (da hx))<|zo J (bB cx J J)<|bp J<|av<|aA<|aw<|aG J<|zo J (nI J) ?_;refine aG J<|gz J J (fun hg=>dl J)<|gz J J (fun hg=>dl J)<|gz J J (fun hg=>dH (bN J hg) (bN J hg))<|zo J (xo J J)<|bp J<|av<|cU h J (fun h=>?_) (fun h=>?_)
  ·refine bA<|aq<|aq<|ax<|au<|zo rfl (mz (cM hx hN) rfl)<|aG rfl<|aP ?_;exact bm (aU (ih (i+1) own ⟨cL hx,h⟩) (bu J))
  ·refine aw<|aG J<|zo J (nI J)<|bp J<|av<|cU h J (fun h=>?_) (fun h=>?_)
   ·refine au<|aG J<|bp J<|aP<|aq<|aq<|ax<|au<|zo rfl (mz (cM hx hN) rfl)<|aG rfl<|aP ?_;exact bm (aU (ih (i+1) e ⟨cL hx,h⟩) (bu J))
   ·refine au<|zo J (cD)<|aP<|aq<|aq<|ax<|au<|zo rfl (mz (cM hx hN) rfl)<|aG rfl<|aP ?_;exact bm (aU (ih (i+1) s6 ⟨cL hx,h⟩) (bu J))

theorem IX(e:bG)(kinds:(List Int)){R:Int×Int}(h:sR e kinds=some R):aX aQ 285 [tD cj e,mv kinds] (tT [bM R.1,bM R.2]):=by
 refine aX.of Tryz.func285 J J J fun w0 S0=>aw<|zo J (jm J)<|zo J (jm J)<|zo J (cD)<|zo J (cD)<|av<|ah<|aw<|zo J (bB j3 J J)<|bC h fun r q_r h=>zo J (aC Y6 (Nf _ q_r) ⟨(ht J),aT⟩)<|bp J<|av<|aw<|aG J<|zo J (s4 J)<|av ?_;refine cU h J (fun h=>?_) (fun h=>?_)
 ·refine aw<|aG J<|zo J (cD)<|bp J<|av<|am<|ae ?_;cases so h;exact cC J J J
 ·refine dS<|ah<|aw<|zo J (bB d9 J J)<|zo J (jg gT J)<|zo J (bI hI)<|av<|aA<|be (k:=16) J fun hN=>bL ?_;refine aU (eI (Z:=fun ls i=>(kinds.drop i=ls)∧qo e kinds ls=some R) (Of:=fun _ i=>[]) (Gf:=fun _ i=>[(2,bK cj e),(3,bK nP kinds),(16,mv kinds),(17,jz kinds),(18,bM (i:Int))]) (fun i h=>?_) (fun e1 tl ih i h=>?_) kinds 0 ⟨J,h⟩) (bu J)
  ·obtain⟨hx,h⟩:=h
   refine aB<|aw<|zo J (fM J J)<|av<|ah<|bz (ht J) (du hx)<|bv ?_;refine ai (ai (aO ?_));refine ax<|ah<|aw<|zo rfl (bB j3 rfl rfl)<|bC h fun r1 q_r1 h=>iy W0 (Lb _ q_r1) ⟨(ht J),aT⟩ J fun l c=>zo J (jA gT (.head _) (ht J))<|zo J (bI hI)<|av<|aA<|oN (.head _) fun hN1=>bL ?_;refine aU (eI (Z:=fun ls1 i1=>(r1.drop i1=ls1)∧mV e kinds ls1=some R) (Of:=fun _ i1=>[fj cd 3 l c r1]) (Gf:=fun _ i1=>[(2,bK cj e),(3,bK nP kinds),(30,sb l c r1),(31,jz r1),(32,bM (i1:Int))]) (fun i1 h=>?_) (fun e2 tl1 ih1 i1 h=>?_) r1 0 ⟨J,h⟩) (bu J)
   ·obtain⟨hx1,h⟩:=h
    refine aB<|aw<|zo J (fM J J)<|av<|ah<|bz (ht J) (du hx1)<|bv ?_;refine ai (ai (aO ?_));refine ax<|aw<|zo rfl (bB j3 rfl rfl)<|zo rfl ((show bS _ _ _ _ ((dX aQ Tt Ts (fun(x:bo×(List Int))=>(jv kinds) x.1 x.2)))from iK (cts:=[bK nP kinds]) (caps:=[.tmp 3]) aaB ⟨(ht J),aT⟩ (fun x y h=>UF _ _ _ h)))<|bC h fun r2 q_r2 h=>zo J (aC aaC (UG _ _ q_r2) ⟨(ht J),(ht J),aT⟩)<|zo J (gp J J)<|zo J (gp J J)<|bp J<|bp J<|av<|am<|ba ?_;cases so h;exact cC J J J
   ·obtain⟨hx1,h⟩:=h
    refine aB<|aw<|zo J (fM J J)<|av<|ah<|bw (ht J) (di hx1)<|dS<|ah<|aA<|aw<|zo J (cK gT cx (.head _) (ht J) (ht J) (da hx1))<|zo J (gq (r:=cd) (i:=(i1:Int)) (foff:=0) cx J J bT J (.head _) (da hx1) (ht J))<|bp J<|av<|aw<|aG J<|zo J (bB d9 J J)<|zo J (jg gT J) ?_;refine zo J (jq (ht J) (ht J))<|av<|cU h J (fun h=>?_) (fun h=>?_)
    ·refine aw<|zo J (cD)<|zo J (cD)<|av<|am ?_;refine aD (ae (ae (aD (ae ?_))));refine ba ?_;cases so h;exact cC J J J
    ·refine bA<|aq<|ax<|au<|zo rfl (mz (cM hx1 hN1) rfl)<|aG rfl<|aP ?_;exact bm (aU (ih1 (i1+1) ⟨cL hx1,h⟩) (bu J))
  ·obtain⟨hx,h⟩:=h
   refine aB<|aw<|zo J (fM J J)<|av<|ah<|bw (ht J) (di hx)<|dS<|ah<|aA<|aw<|zo J (my gT cx J J J (da hx))<|zo J (bB cx J J)<|bp J<|av<|aw<|aG J<|zo J (gi (ht J) hI)<|aG J ?_;refine gz J J (fun hg=>dl J)<|gz J J (fun hg=>gv (bN J hg) hI)<|zo J (xo J J)<|av<|cU h J (fun h=>?_) (fun h=>?_)
   ·refine aw<|zo J (cD)<|zo J (cD)<|av<|am ?_;refine aD (ae (ae (aD (ae ?_))));cases so h;exact cC J J J
   ·refine bA<|aq<|ax<|au<|zo rfl (mz (cM hx hN) rfl)<|aG rfl<|aP ?_;exact bm (aU (ih (i+1) ⟨cL hx,h⟩) (bu J))

end Go.Proofs.YtfhhakidodmdfaaGreatDoor

