/- cU of this claim: P1. -/
import Derived.Test.YtfhhakidodmdfaaGreatDoorJfT
import Derived.Test.YtfhhakidodmdfaaGreatDoorJfP0
set_option linter.all false
namespace Go.Proofs.YtfhhakidodmdfaaGreatDoor
open Go
set_option maxRecDepth 100000

theorem NW(e:bJ){R:Int}(h:rm e=some R):aW aQ 75 [tD co e] (bN R):=by
 refine aW.of Tryz.func75 J J J fun w0 S0=>aw<|zo J (js J)<|zo J (cy)<|av<|ah<|aw<|zo J (bC kQ J J)<|bB h fun r q_r h=>zo J (aB acA (Ws _ q_r) ⟨(ht J),aS⟩)<|aG J<|zo J (gE J J)<|zo J (gE J J)<|bq J<|bq J<|av<|aw<|aG J<|zo J (fj (ht J)) ?_;refine av<|c0 h J (fun h=>?_) (fun h=>?_)
 ·refine aw<|zo J (cy)<|av<|am<|ae ?_;cases so h;exact aH J J
 ·refine dP<|aw<|zo J (cy)<|av<|am ?_;cases so h;exact aH J J

theorem aaF(l:Option Nat)(c:Nat)(s:(List Int)){R:(List Int)}(h:kg s=some R):dd aQ 91 [sH l c s] [fE ca 3 l c s] (fun i:OI=>sH (i.h 0).1 (i.h 0).2 R) (fun i=>[fE ca 3 (i.h 0).1 (i.h 0).2 R]):=by
 refine dd.of Tryz.func91 J J J fun w0 S0=>aw<|bP false ca 3<|zo J (aM ud)<|av<|ah<|aw<|aG J<|zo J (jO hX (.tail _ (.head _)) (ht J))<|zo J (gx (ht J) hI)<|av<|c0 h J (fun h=>?_) (fun h=>?_)
 ·refine aw<|aG J<|bq J<|av<|am<|ae<|bf ?_;cases so h;exact nG J (oi l c) J J (fun _ _ h=>h)
 ·refine dP<|ah<|aw<|zo J (cy)<|av<|ay<|o0 (.tail _ (.head _)) fun hN=>bL<|rL ?_;refine aR (d7 (Z:=fun ls i=>(s.drop i=ls)∧eV s ls i=some R) (Of:=fun _ i=>[fE ca 3 l c s]) (Gf:=fun _ i=>[(0,sH l c s),(3,bN (i:Int))]) (fun i h=>?_) (fun e tl ih i h=>?_) (s.drop (1)) 1 ⟨J,h⟩) (bu J)
  ·obtain⟨hx,h⟩:=h
   refine aA<|ah<|aw<|aG J<|aG J<|zo J (jO hX (.head _) (ht J))<|zo J (fF J J)<|av<|bz (ht J) (dm hx)<|bv ?_;refine ai (ai (aN ?_));refine ax<|aw<|aG rfl<|bq rfl<|av<|am ?_;cases so h;exact nG J (oi l c) J J (fun _ _ h=>h)
  ·obtain⟨hx,h⟩:=h
   refine aA<|ah<|aw<|aG J<|aG J<|zo J (jO hX (.head _) (ht J))<|zo J (fF J J)<|av<|bw (ht J) (dg hx)<|dP<|ah<|ay<|ah<|bB h fun e1 q_e1 h=>?_
   refine da (ts:=[_,_,_,_,_,_,_,_,_,_]) mixed J J
    ⟨eH 0 J J J (de J),
    ⟨eH 3 J J J (de J),
    ⟨d3 16 0 17 1 J J J J (cM hX cr (.head _) (ht J) (ht J) (cT hx)),
    ⟨bZ 18 2 J J J (gG (r:=ca) (i:=(i:Int)) (foff:=0) cr J J bU J (.head _) (cT hx) (ht J)),
    ⟨eH 0 J J J (de J),
    ⟨eH 3 J J J (de J),
    ⟨bZ 21 5 J J J (iq (ht J) hI),
    ⟨d3 20 4 22 6 J J J J (cM hX cr (.head _) (ht J) (ht J) q_e1),
    ⟨bZ 23 7 J J J (gG (r:=ca) (i:=(IntKind.i64.wrap ((i:Int)-(1:Int)))) (foff:=0) cr J J bU J (.head _) q_e1 (ht J)),
    ⟨d3 19 3 24 8 J J J J (dx (ht J) (ht J)),
    aS⟩⟩⟩⟩⟩⟩⟩⟩⟩⟩ ?_
   refine ax<|c0 h rfl (fun h=>?_) (fun h=>?_)
   ·refine aw<|aG J<|aG J<|bB h fun y q_y h=>zo J (ox hX cr J (.head _) (ht J) (ht J) q_y)<|nl (.head _) q_y fun hv=>bq J<|av<|ah<|aw<|zo J (cy)<|av<|ay<|bL ?_;refine aR (JI (Z:=fun k1 i1 s1 k=>(y.length-i1=k1)∧dZ i y k1 i1 s1 k=some R) (Of:=fun _ i1 s1 k=>[fE ca 3 l c s1]) (Gf:=fun _ i1 s1 k=>[(0,sH l c s1),(3,bN k),(4,tV (o4 1 l c (i:Int).toNat y.length)),(5,bN (i1:Int))]) (fun i1 s1 k h=>?_) (fun k2 ih1 i1 s1 k h=>?_) (y.length-1) 1 s (i:Int) ⟨J,h⟩) (bu J)
    ·obtain⟨hx1,h⟩:=h
     refine aA<|ah<|aw<|aG J<|aG J<|zo J (Ea hX hv.1 (ht J))<|zo J (fF J J)<|av<|bz (ht J) (aaq hx1)<|bv ?_;refine ai (ai (aN ?_));refine ax<|aw<|aG rfl<|aG rfl<|bB h fun y1 q_y1 h=>zo J (ox hX cr J (.head _) (ht J) (ht J) q_y1)<|nl (.head _) q_y1 fun hv1=>bB h fun cl q_cl h=>HX cr J J hX (fun _=>J) J q_y1 (ht J) (so q_cl)<|iX (zm q_y1 (so q_cl)) 0 J<|iX (zm q_y1 (so q_cl)) 54 J<|av<|aw<|aG J<|aG J<|bB h fun y2 q_y2 h=>zo J (ly hX cr J (.head _) (ht J) (ht J) q_y2)<|xc q_y2<|bq J<|av ?_;refine am ?_;refine aD (ae (ae (aD (ae ?_))));cases so h;exact nG J (oi l c) J J (fun _ _ h=>h)
    ·obtain⟨hx1,h⟩:=h
     refine aA<|ah<|aw<|aG J<|aG J<|zo J (Ea hX hv.1 (ht J))<|zo J (fF J J)<|av<|bw (ht J) (aap hx1)<|dP<|ah<|ay<|ah<|bB h fun e3 q_e3 h=>bB h fun e4 q_e4 h=>?_
     refine da (ts:=[_,_,_,_,_,_,_,_,_,_]) mixed J J
      ⟨eH 4 J J J (de J),
      ⟨eH 5 J J J (de J),
      ⟨d3 35 0 36 1 J J J J (nK hX cr J (.head _) (ta q_y) (ht J) (ht J) q_e3),
      ⟨bZ 37 2 J J J (gG (r:=ca) (i:=((i:Int)+(i1:Int))) (foff:=0) cr J J bU J (.head _) (rd q_e3).2.2 (ht J)),
      ⟨eH 4 J J J (de J),
      ⟨eH 5 J J J (de J),
      ⟨bZ 40 5 J J J (iq (ht J) hI),
      ⟨d3 39 4 41 6 J J J J (nK hX cr J (.head _) (ta q_y) (ht J) (ht J) q_e4),
      ⟨bZ 42 7 J J J (gG (r:=ca) (i:=((i:Int)+(IntKind.i64.wrap ((i1:Int)-(1:Int))))) (foff:=0) cr J J bU J (.head _) (rd q_e4).2.2 (ht J)),
      ⟨d3 38 3 43 8 J J J J (ft (ht J) (ht J)),
      aS⟩⟩⟩⟩⟩⟩⟩⟩⟩⟩ ?_
     refine ax<|c0 h rfl (fun h=>?_) (fun h=>?_)
     ·refine aw<|aG J<|aG J<|aG J<|aG J<|bB h fun e5 q_e5 h=>zo J (nK hX cr J (.head _) (ta q_y) (ht J) (ht J) q_e5)<|zo J (gG (r:=ca) (i:=((i:Int)+(i1:Int))) (foff:=0) cr J J bU J (.head _) (rd q_e5).2.2 (ht J))<|bB h fun e6 q_e6 h=>zo J (cM hX cr (.head _) (ht J) (ht J) q_e6)<|bB h fun st q_st h=>tw cr J an J q_e6 (so q_st) (ht J) (ht J)<|iX (mP (so q_st)) 0 J<|iX (mP (so q_st)) 45 J<|av<|au<|aG J<|zo J (nY (ht J) hI)<|bq J<|aP<|ap<|ax ?_;refine au<|aG J<|zo J (Bw (UR hx1 (UT hv.2)) (ht J) hI)<|bq J<|aP ?_;exact bg (aR (ih1 (i1+1) st (IntKind.i64.wrap (k+(1:Int))) ⟨UQ hx1,h⟩) (bu J))
     ·refine bA<|ap<|ax<|au<|aG rfl<|zo rfl (Bw (UR hx1 (UT hv.2)) (ht rfl) hI)<|bq rfl<|aP ?_;exact bg (aR (ih1 (i1+1) s1 k ⟨UQ hx1,h⟩) (bu J))
   ·refine bA<|ap<|ax<|au<|aG rfl<|zo rfl (lT (cx hx hN) rfl)<|bq rfl<|aP ?_;exact bg (aR (ih (i+1) ⟨cw hx,h⟩) (bu J))

theorem LI(e:bJ){R:(List Int)}(h:tt e=some R):gp aQ 181 [tD co e] false ca 3 R:=by
 refine gp.of Tryz.func181 J J J fun w0 S0=>aw<|zo J (js J)<|bP false ca 3<|zo J (aM ud)<|av<|ah<|aw<|zo J (bC kQ J J)<|bB h fun r q_r h=>zo J (aB ZE (NW _ q_r) ⟨(ht J),aS⟩)<|zo J (s8 J)<|av<|c0 h J (fun h=>?_) (fun h=>?_)
 ·refine aw<|bP false ca 3<|zo J (aM ud)<|av<|am<|ae ?_;cases so h;exact gC J J
 ·refine dP<|aw<|bP false ca 3<|zo J (aM ud)<|av<|ah<|aw<|zo J (c9 qx mj J J)<|zo J (bC Bf J J)<|zo J (i7 xw J)<|zo J (bE hI)<|av<|ay<|ba (k:=10) J fun hN=>bL<|im<|rL ?_;refine aR (j8 (Z:=fun ls i out l c=>(e.Nodes.drop i=ls)∧nd ls out=some R) (Of:=fun _ i out l c=>[fE ca 3 l c out]) (Gf:=fun _ i out l c=>[(3,sH l c out),(10,bW (bO) e.Nodes),(11,jr e.Nodes),(12,bN (i:Int))]) (fun i out l c h=>?_) (fun e1 tl ih i out l c h=>?_) e.Nodes 0 vw none 0 ⟨J,h⟩) (bu J)
  ·obtain⟨hx,h⟩:=h
   refine aA<|aw<|zo J (fF J J)<|av<|ah<|bz (ht J) (dm hx)<|bv ?_;refine ai (ai (aN ?_));refine ax<|aw<|aG rfl<|bB h fun rQ q_srt h=>?_;refine TP (n:=out.length) (ys:=rQ) JD ?_ adg ?_ ?_ ?_ ?_ ?_
   ·rfl
   ·exact q_srt
   ·exact(ht J)
   ·rfl
   ·rfl
   intro hl
   refine pm hl 3 J<|pm hl 25 J<|av<|aw<|aG J<|bB h fun r1 q_r1 h=>B7 [fE ca 3 l c rQ] _ J adf (aaF l c _ q_r1) ⟨(ht J),aS⟩ J fun i1=>?_;refine(show RG _ _ _ _ [fE ca 3 (i1.h 0).1 (i1.h 0).2 r1] ((28,sH (i1.h 0).1 (i1.h 0).2 r1)::_)from ?_);refine bq J<|av<|am ?_;cases so h;exact gC J J
  ·obtain⟨hx,h⟩:=h
   refine aA<|aw<|zo J (fF J J)<|av<|ah<|bw (ht J) (dg hx)<|dP<|ah<|ay<|aw<|zo J (mz xw p8 J J J (cT hx))<|zo J (bC p8 J J)<|aX (r:=bO) (x:=Rt) p8 (fun _=>vv _) J fun b=>aq p8 J an J (ht J) (ht J)<|aV 5 J<|av<|aw<|zo J (c9 qu iM J J) ?_;refine zo J (bC cr J J)<|zo J (nX J)<|av<|c0 h J (fun h=>?_) (fun h=>?_)
   ·refine au<|aG J<|zo J (c9 AF pJ J J)<|zo J (bC cr J J)<|zo J (aU (r:=ca) (ys:=[e1.Col]) (xs:=[.tmp 21]) hX cr J J J J J ⟨(ht J),aS⟩)<|bB h fun out1 q_out1 h=>db cr J J J J hX J J (ht J) (ht J) q_out1 fun l2 c2=>bq J<|aP<|ap<|ax<|au<|zo rfl (lT (cx hx hN) rfl)<|aG rfl<|aP ?_;exact bg (aR (ih (i+1) out1 l2 c2 ⟨cw hx,h⟩) (bu J))
   ·refine bA<|ap<|ax<|au<|zo rfl (lT (cx hx hN) rfl)<|aG rfl<|aP ?_;exact bg (aR (ih (i+1) out l c ⟨cw hx,h⟩) (bu J))
theorem Jg(s:(List Int)){R:(List Int)}(h:cz s=some R):gp aQ 73 [mK s] false ca 3 R:=by
 refine gp.of Tryz.func73 J J J fun w0 S0=>aw<|bP false ca 3<|zo J (aM ud)<|av<|ah<|aw<|aG J<|ut hX (ht J) J fun isnil hisnil=>av<|pu (ht J) (fun hc=>?_) (fun hc=>?_)
 ·have hx:=hisnil hc
  have h:some vw=some R:=by simpa [cz,app,hx] using h
  refine aw<|bP false ca 3<|zo J (aM ud)<|av<|am<|ae ?_;cases so h;exact gC J J
 ·refine dP<|aw<|ky (r:=ca) (ys:=vw) (xs:=[]) hX cr J J J J J trivial J fun l c=>aG J<|bB h fun x q_x h=>db cr J J J J hX J J (ht J) (ht J) q_x fun l1 c1=>bq J<|av<|am ?_;cases so h;exact gC J J
theorem SP(s:(List Int)){R:(List Int)}(h:cz s=some R):aW aQ 73 [mK s] (mK R):=(Jg _ h).spec

theorem aaH{l:Option Nat}{c:Nat}{xs s:List Int}{lo:Int}{R:List Int}(hs:dE xs lo (xs.length:Int)=some s)(h:cz s=some R):dd aQ 73 [tV (o4 1 l c lo.toNat s.length)] [fE ca 3 l c xs] (fun i:OI=>sH (i.h 0).1 (i.h 0).2 R) (fun i=>[fE ca 3 (i.h 0).1 (i.h 0).2 R,fE ca 3 l c xs]):=by
 refine dd.of Tryz.func73 J J J fun w0 S0=>aw<|zo J (aM ud)<|av<|ah<|aw<|aG J<|HV (r:=ca) hX (.head _) hs (ht J) J fun isnil hisnil=>av<|pu (ht J) (fun hc=>?_) (fun hc=>?_)
 ·have hx:=hisnil hc
  have h:some vw=some R:=by simpa [cz,app,hx] using h
  refine aw<|bP false ca 3<|zo J (aM ud)<|av<|am<|ae ?_;cases so h;exact nG J (oi none 0) J J (fun _ _ h=>h)
 ·refine dP<|aw<|ky (r:=ca) (ys:=vw) (xs:=[]) hX cr J J J J J trivial J fun l1 c1=>aG J<|bB h fun x q_x h=>Gd cr J J J J hX J J (ht J) (.tail _ (.head _)) hs (ht J) q_x fun l2 c2=>bq J<|av<|am ?_;cases so h;exact nG J (oi l2 c2) J J (fun _ _ h=>h)

theorem Za(b:Nat)(l:Option Nat)(c:Nat)(stack:(List Int))(k:Int){R:(List Int)×(List Int)}(h:pt stack k=some R):dd aQ 366 [bN k,tV (aO b 0)] [bx rV 39 b (aT l c stack.length),fE ca 3 l c stack] (fun i:OI=>mK R.1) (fun i=>[bx rV 39 b (aT (i.h 0).1 (i.h 0).2 R.2.length),fE ca 3 (i.h 0).1 (i.h 0).2 R.2]):=by
 refine dd.of Tryz.func366 J J J fun w0 S0=>aw<|zo J (aM (show aJ _ _ _ xS from kE))<|av<|aw<|zo J (ii ea (.head _) (ht J))<|zo J (ii ea (.head _) (ht J))<|zo J (jO hX (.tail _ (.head _)) (ht J))<|aG J<|zo J (iq (ht J) (ht J))<|bB h fun y q_y h=>zo J (ox hX cr J (.tail _ (.head _)) (ht J) (ht J) q_y)<|nl (.tail _ (.head _)) q_y fun hv=>bH<|bB h fun r q_r h=>B7 [fE ca 3 l c stack] _ J Ti (aaH q_y q_r) ⟨(ht J),aS⟩ J fun i=>?_;refine(show RG _ _ _ _ [fE ca 3 (i.h 0).1 (i.h 0).2 r,fE ca 3 l c stack,bx rV 39 b (aT l c stack.length)] _ from ?_);refine bq J<|av<|aw<|zo J (ii ea (.tail _ (.tail _ (.head _))) (ht J))<|zo J (ii ea (.tail _ (.tail _ (.head _))) (ht J))<|zo J (jO hX (.tail _ (.head _)) (ht J))<|aG J<|zo J (iq (ht J) (ht J))<|bB h fun y1 q_y1 h=>zo J (ly hX cr J (.tail _ (.head _)) (ht J) (ht J) q_y1)<|bH<|xc q_y1<|il<|aq ea J an J (ht J) (QK (ht J))<|av<|aw<|aG J<|bq J<|av ?_;refine am<|aL<|jQ<|cG 3 J<|cG 11 J<|cG 4 J<|cG 18 J<|jR 3 J<|bf<|bD<|bD ?_;cases so h;exact nG J (oi l c) J J (fun _ _ h=>h)

theorem Vj(e:bJ)(do1:(bp→(List Int)→Option (Int×Int))){R:Int×Int}(h:ph e do1=some R):aW aQ 345 [tD co e,(dR aQ Uf Ue (fun(x:bp×(List Int))=>do1 x.1 x.2))] (tT [bN R.1,bN R.2]):=by
 refine aW.of Tryz.func345 J J J fun w0 S0=>aw<|zo J (js J)<|zo J (cy)<|zo J (cy)<|av<|Mr<|aw<|bP false ca 3<|aX (x:=aT none 0 0) ea (fun _=>Fg) J fun b=>av<|aw<|zo J (cy)<|av<|aw<|zo J (KT (cts:=[tV (aO b 0)]) (caps:=[.tmp 6]) ⟨(ht J),aS⟩)<|bq J ?_;refine av<|aw<|zo J (cy)<|av<|ah<|Ms<|ax<|ah<|aw<|zo rfl (c9 qx mj rfl rfl)<|zo rfl (bC Bf rfl rfl)<|zo rfl (i7 xw rfl)<|zo rfl (bE hI)<|av ?_;refine H6 (Z:=fun bad stack l c=>mn bad stack=some R) (Of:=fun bad stack l c=>[bx rV 39 b (aT l c stack.length),fE ca 3 l c stack]) (Gf:=fun bad stack l c=>[(6,tV (aO b 0)),(7,bN 0),(9,bN bad)]) (fun bad stack l c h=>?_) (fun K=>?_)
 ·skip
  refine ax<|ah<|aw<|aG rfl<|zo rfl (s8 rfl)<|av<|c0 h rfl (fun h=>?_) (fun h=>?_)
  ·refine aw<|aG J<|aG J<|bq J<|bq J<|av<|am ?_;refine ae (zx ?_);refine bf<|bf ?_;cases so h;exact cP J J J
  ·refine dP<|aw<|zo J (ii ea (.head _) (ht J))<|bB h fun e1 q_e1 h=>zo J (cM hX cr (.tail _ (.head _)) (ht J) hI q_e1)<|zo J (gG (r:=ca) (i:=(0:Int)) (foff:=0) cr J J bU J (.tail _ (.head _)) q_e1 (ht J))<|bq J<|zo J (cy)<|av<|am<|zx<|bf<|bf ?_;cases so h;exact cP J J J
 ·skip
  refine ba (k:=16) J fun hN=>bL ?_;refine aR (uA (Z:=fun ls i bad1 stack1 l1 c1=>(e.Nodes.drop i=ls)∧ik do1 ls bad1 stack1=some R) (Of:=fun _ i bad1 stack1 l1 c1=>[bx rV 39 b (aT l1 c1 stack1.length),fE ca 3 l1 c1 stack1]) (Gf:=fun _ i bad1 stack1 l1 c1=>[(1,(dR aQ Uf Ue (fun(x:bp×(List Int))=>do1 x.1 x.2))),(6,tV (aO b 0)),(7,bN 0),(8,tC 366 [tV (aO b 0)]),(9,bN bad1),(16,bW (bO) e.Nodes),(17,jr e.Nodes),(18,bN (i:Int))]) (fun i bad1 stack1 l1 c1 h=>?_) (fun e2 tl ih i bad1 stack1 l1 c1 h=>?_) e.Nodes 0 (0:Int) vw none 0 ⟨J,h⟩) (bu J)
  ·obtain⟨hx,h⟩:=h
   refine aA<|aw<|zo J (fF J J)<|av<|ah<|bz (ht J) (dm hx)<|bv ?_;refine ai (ai (aN ?_));exact cF (K bad1 stack1 l1 c1 h) (bu J)
  ·obtain⟨hx,h⟩:=h
   refine aA<|aw<|zo J (fF J J)<|av<|ah<|bw (ht J) (dg hx)<|dP<|ah<|ay<|aw<|zo J (mz xw p8 J J J (cT hx))<|zo J (bC p8 J J)<|aX (r:=bO) (x:=Rt) p8 (fun _=>vv _) J fun b1=>aq p8 J an J (ht J) (ht J)<|aV 11 J<|av<|ah<|bB h fun r q_r h=>bB h fun r1 q_r1 h=>?_
   obtain⟨r2,q_r2,h⟩:=bs h
   refine pn 12 [tc ((dR aQ Uf Ue (fun(x:bp×(List Int))=>do1 x.1 x.2))),tc (tD bO e2),tc (tC 366 [tV (aO b 0)]),tc (bM ca e2.Tag),tc (bN e2.Tag),tc (bN r),tc (mK r1.1),tc (tT [bN r2.1,bN r2.2]),tc (tT [bN r2.1,bN r2.2]),tc (bN r2.1),tc (bN r2.2),tc (bN r2.1)] [false,false,false,false,false,false,true,false,false,false,false,false] [fun _=>[bx rV 39 b (aT l1 c1 stack1.length),fE ca 3 l1 c1 stack1],fun sg=>[bx rV 39 b (aT ((sg 6).h 0).1 ((sg 6).h 0).2 r1.2.length),fE ca 3 ((sg 6).h 0).1 ((sg 6).h 0).2 r1.2]] J mixed J J J J J
    ⟨⟨[⟨1,fun _=>(dR aQ Ya X9 (fun(x:bp×(List Int))=>do1 x.1 x.2)),none⟩],_,0,1,J,⟨(fun _=>J),aS⟩,J,J,J,J,J,fun _ sg _ _=>aC J (de J)⟩,
    ⟨⟨[⟨11,fun _=>bM bO e2,none⟩],_,0,1,J,⟨(fun _=>J),aS⟩,J,J,J,J,J,fun _ sg _ _=>aC J (bC p8 J J)⟩,
    ⟨⟨[⟨8,fun _=>tC 366 [tV (aO b 0)],none⟩],_,0,0,J,⟨(fun _=>J),aS⟩,J,J,J,J,J,fun _ sg _ _=>aC J (de J)⟩,
    ⟨⟨[⟨11,fun _=>bM bO e2,none⟩],_,0,0,J,⟨(fun _=>J),aS⟩,J,J,J,J,J,fun _ sg _ _=>aC J (c9 qu iM J J)⟩,
    ⟨⟨[⟨26,fun _=>bM ca e2.Tag,some 3⟩],_,0,0,J,⟨(fun _=>J),aS⟩,J,J,J,J,J,fun _ sg _ _=>aC J (bC cr J J)⟩,
    ⟨⟨[⟨27,fun _=>tD ca e2.Tag,some 4⟩],_,0,0,J,⟨(fun _=>J),aS⟩,J,J,J,J,J,fun _ sg _ _=>aC J (aB PL (Ek _ q_r) ⟨(ht J),aS⟩)⟩,
    ⟨⟨[⟨25,fun _=>tC 366 [tV (aO b 0)],some 2⟩,⟨28,fun _=>tD ca r,some 5⟩],_,J,⟨(fun _=>J),(fun _=>J),aS⟩,J,J,J,fun sg=>eC J (EffOK.fr1 (EffOK.fr1 (CL (xs:=[.tmp 28]) (ts:=[tD ca r]) (cts:=[tV (aO b 0)]) [bx rV 39 b (aT l1 c1 stack1.length),fE ca 3 l1 c1 stack1] _ J aa5 (Za b l1 c1 _ _ q_r1) (ht J) ⟨(ht J),aS⟩ (fun _=>J))))⟩,
    ⟨⟨[⟨23,fun _=>(dR aQ Ya X9 (fun(x:bp×(List Int))=>do1 x.1 x.2)),some 0⟩,⟨24,fun _=>tD bO e2,some 1⟩,⟨29,fun _=>tD xR r1.1,some 6⟩],_,1,1,J,⟨(fun _=>J),(fun _=>J),(fun _=>J),aS⟩,J,J,J,J,J,fun _ sg _ _=>aC J (eU (args:=Ya) (res:=X9) (f:=(fun(x:bp×(List Int))=>do1 x.1 x.2)) (x:=((e2,r1.1):bp×(List Int))) (ht J) q_r2 ⟨(ht J),(ht J),aS⟩)⟩,
    ⟨⟨[⟨30,fun _=>tT [tD ca r2.1,tD ca r2.2],some 7⟩],_,1,1,J,⟨(fun _=>J),aS⟩,J,J,J,J,J,fun _ sg _ _=>aC J (de J)⟩,
    ⟨⟨[⟨22,fun _=>tT [tD ca r2.1,tD ca r2.2],some 8⟩],_,1,1,J,⟨(fun _=>J),aS⟩,J,J,J,J,J,fun _ sg _ _=>aC J (gE J J)⟩,
    ⟨⟨[⟨22,fun _=>tT [tD ca r2.1,tD ca r2.2],some 8⟩],_,1,1,J,⟨(fun _=>J),aS⟩,J,J,J,J,J,fun _ sg _ _=>aC J (gE J J)⟩,
    ⟨⟨[⟨31,fun _=>tD ca r2.1,some 9⟩],_,1,1,J,⟨(fun _=>J),aS⟩,J,J,J,J,J,fun _ sg _ _=>aC J (vx J)⟩,
    aS⟩⟩⟩⟩⟩⟩⟩⟩⟩⟩⟩⟩ (fun sg=>?_)
   refine(show RG _ _ _ _ [bx rV 39 b (aT ((sg 6).h 0).1 ((sg 6).h 0).2 r1.2.length),fE ca 3 ((sg 6).h 0).1 ((sg 6).h 0).2 r1.2] _ from ?_);refine bq J<|av<|ah<|aw<|aG J<|zo J (s8 J)<|av<|c0 h J (fun h=>?_) (fun h=>?_)
   ·refine aw<|aG J<|bq J<|av<|bv ?_;refine ai (ck J (ai (ai (aN ?_))));exact cF (K r2.2 r1.2 ((sg 6).h 0).1 ((sg 6).h 0).2 h) (bu J)
   ·refine dP<|au<|zo J (ii ea (.head _) (ht J))<|aG J<|zo J (aU (r:=ca) (ys:=[r2.1]) (xs:=[.tmp 37]) hX cr J J J J J ⟨(ht J),aS⟩)<|bH<|bB h fun l2 q_l2 h=>db cr J J J J hX J J (ht J) (ht J) q_l2 fun l3 c2=>bH<|aq ea J an J (ht J) (QK (ht J))<|aP<|ap<|ax<|au<|zo rfl (lT (cx hx hN) rfl)<|aG rfl<|aP ?_;exact bg (aR (ih (i+1) bad1 l2 l3 c2 ⟨cw hx,h⟩) (bu J))

theorem Wv(tag:Int){R:Bool}(h:xl tag=some R):aW aQ 123 [bN tag] (iO R):=by
 refine aW.of Tryz.func123 J J J fun w0 S0=>aw<|zo J (jy)<|av<|aw<|aG J<|zo J (nX J)<|aG J<|eG J J (fun hg=>de J)<|eG J J (fun hg=>ir (bG J hg) hI)<|eG J J (fun hg=>bE (bG J hg))<|j7 J J J J (fun hg=>de J)<|j7 J J J J (fun hg=>mY (bG J hg) hI)<|eG J J (fun hg=>q7 (bG J hg) (fun hb=>(bG J (B3 hg hb))))<|zo J (xf J J)<|bq J<|av<|am ?_;cases so h;exact aH J J

theorem Vi(kinds:(List Int))(n:bp)(l:(List Int)){R:Int×Int}(h:jI kinds n l=some R):aW aQ 346 [tD bO n,mK l,bM od kinds] (tT [bN R.1,bN R.2]):=by
 refine aW.of Tryz.func346 J J J fun w0 S0=>aw<|zo J (js J)<|zo J (cy)<|zo J (cy)<|av<|aw<|zo J (cy)<|av<|ah<|aw<|aG J<|zo J (i7 hX J)<|zo J (bE hI)<|av<|ay<|ba (k:=12) J fun hN=>bL ?_;refine aR (nE (Z:=fun ls i own=>(l.drop i=ls)∧mp kinds n ls own=some R) (Of:=fun _ i own=>[]) (Gf:=fun _ i own=>[(2,bM od kinds),(3,bM bO n),(7,bN own),(12,mK l),(13,jr l),(14,bN (i:Int))]) (fun i own h=>?_) (fun e tl ih i own h=>?_) l 0 (0:Int) ⟨J,h⟩) (bu J)
 ·obtain⟨hx,h⟩:=h
  refine aA<|aw<|zo J (fF J J)<|av<|ah<|bz (ht J) (dm hx)<|bv ?_;refine ai (ai (aN ?_));refine ax<|aw<|aG rfl<|bq rfl<|av<|aw<|zo rfl (cy)<|av<|ah<|ay<|aw<|zo rfl (c9 qu iM rfl rfl)<|zo rfl (bC cr rfl rfl)<|zo rfl (nX rfl)<|bq rfl<|av<|c0 h rfl (fun h=>?_) (fun h=>?_)
  ·refine aw<|zo J (c9 CE rh J J)<|zo J (c9 iu cS J J)<|zo J (bC cr J J)<|bq J<|zo J (cy)<|av<|am ?_;refine aD (ae ?_);cases so h;exact cP J J J
  ·refine aw<|zo J (c9 qu iM J J)<|zo J (bC cr J J)<|zo J (nX J)<|bq J<|av<|c0 h J (fun h=>?_) (fun h=>?_)
   ·refine aw<|zo J (bC ea J J)<|zo J (c9 AF pJ J J)<|zo J (bC cr J J)<|bB h fun e1 q_e1 h=>zo J (mz hX cr J J J q_e1)<|zo J (bC cr J J)<|bq J<|zo J (cy)<|av<|am ?_;refine aD (ae ?_);cases so h;exact cP J J J
   ·refine aw<|zo J (c9 qu iM J J)<|zo J (bC cr J J)<|bB h fun r q_r h=>zo J (aB acE (Wv _ q_r) ⟨(ht J),aS⟩)<|bq J<|av<|c0 h J (fun h=>?_) (fun h=>?_)
    ·refine au<|zo J (cy)<|zo J (cy)<|aP<|ap<|ax<|ah<|aw<|aG rfl<|zo rfl (nX rfl)<|aG rfl<|eG rfl rfl (fun hg=>de J)<|eG J J (fun hg=>ft (bG J hg) hI)<|eG J J (fun hg=>bE (bG J hg))<|j7 J J J J (fun hg=>de J)<|j7 J J J J (fun hg=>de J)<|j7 J J J J (fun hg=>ft (bG J hg) (bG J hg))<|eG J J (fun hg=>q7 (bG J hg) (fun hb=>(bG J (B3 hg hb))))<|zo J (xf J J)<|av<|c0 h J (fun h=>?_) (fun h=>?_)
     ·refine aw<|zo J (cy)<|zo J (cy)<|av<|am<|ae ?_;cases so h;exact cP J J J
     ·refine dP<|aw<|aG J<|bq J<|zo J (cy)<|av<|am ?_;cases so h;exact cP J J J
    ·refine aw<|zo J (c9 qu iM J J)<|zo J (bC cr J J)<|zo J (nX J)<|aG J<|eG J J (fun hg=>c9 qu iM J J)<|eG J J (fun hg=>bI cr J J (bG J hg))<|eG J J (fun hg=>dx (bG J hg) hI)<|zo J (xf J J)<|aG J<|eG J J (fun hg=>c9 qu iM J J)<|eG J J (fun hg=>bI cr J J (bG J hg))<|eG J J (fun hg=>dx (bG J hg) hI)<|zo J (xf J J)<|bq J<|av<|c0 h J (fun h=>?_) (fun h=>?_)
     ·refine au<|zo J (cy)<|aP<|ap<|ax<|ah<|aw<|aG rfl<|zo rfl (nX rfl)<|aG rfl<|eG rfl rfl (fun hg=>de J)<|eG J J (fun hg=>ft (bG J hg) hI)<|eG J J (fun hg=>bE (bG J hg))<|j7 J J J J (fun hg=>de J)<|j7 J J J J (fun hg=>de J)<|j7 J J J J (fun hg=>ft (bG J hg) (bG J hg))<|eG J J (fun hg=>q7 (bG J hg) (fun hb=>(bG J (B3 hg hb))))<|zo J (xf J J)<|av<|c0 h J (fun h=>?_) (fun h=>?_)
      ·refine aw<|zo J (cy)<|zo J (cy)<|av<|am<|ae ?_;cases so h;exact cP J J J
      ·refine dP<|aw<|aG J<|bq J<|zo J (cy)<|av<|am ?_;cases so h;exact cP J J J
     ·refine bA<|ap<|ax<|ah<|aw<|aG rfl<|zo rfl (nX rfl)<|aG rfl<|eG rfl rfl (fun hg=>de J)<|eG J J (fun hg=>ft (bG J hg) hI)<|eG J J (fun hg=>bE (bG J hg))<|j7 J J J J (fun hg=>de J)<|j7 J J J J (fun hg=>de J)<|j7 J J J J (fun hg=>ft (bG J hg) (bG J hg))<|eG J J (fun hg=>q7 (bG J hg) (fun hb=>(bG J (B3 hg hb))))<|zo J (xf J J)<|av<|c0 h J (fun h=>?_) (fun h=>?_)
      ·refine aw<|zo J (cy)<|zo J (cy)<|av<|am<|ae ?_;cases so h;exact cP J J J
      ·refine dP<|aw<|aG J<|bq J<|zo J (cy)<|av<|am ?_;cases so h;exact cP J J J
 ·obtain⟨hx,h⟩:=h
  refine aA<|aw<|zo J (fF J J)<|av<|ah<|bw (ht J) (dg hx)<|dP<|ah<|ay<|aw<|zo J (mz hX cr J J J (cT hx))<|zo J (bC cr J J)<|bq J<|av<|ay<|aw<|aG J<|zo J (nX J) ?_;refine aG J<|eG J J (fun hg=>de J)<|eG J J (fun hg=>de J)<|eG J J (fun hg=>dx (bG J hg) (bG J hg))<|zo J (xf J J)<|bq J<|av<|c0 h J (fun h=>?_) (fun h=>?_)
  ·refine bA<|ap<|ap<|ax<|au<|zo rfl (lT (cx hx hN) rfl)<|aG rfl<|aP ?_;exact bg (aR (ih (i+1) own ⟨cw hx,h⟩) (bu J))
  ·refine aw<|aG J<|zo J (nX J)<|bq J<|av<|c0 h J (fun h=>?_) (fun h=>?_)
   ·refine au<|aG J<|bq J<|aP<|ap<|ap<|ax<|au<|zo rfl (lT (cx hx hN) rfl)<|aG rfl<|aP ?_;exact bg (aR (ih (i+1) e ⟨cw hx,h⟩) (bu J))
   ·refine au<|zo J (cy)<|aP<|ap<|ap<|ax<|au<|zo rfl (lT (cx hx hN) rfl)<|aG rfl<|aP ?_;exact bg (aR (ih (i+1) va ⟨cw hx,h⟩) (bu J))

theorem Jk(e:bJ)(kinds:(List Int)){R:Int×Int}(h:tp e kinds=some R):aW aQ 285 [tD co e,mK kinds] (tT [bN R.1,bN R.2]):=by
 refine aW.of Tryz.func285 J J J fun w0 S0=>aw<|zo J (js J)<|zo J (js J)<|zo J (cy)<|zo J (cy)<|av<|ah<|aw<|zo J (bC kQ J J)<|bB h fun r q_r h=>zo J (aB ZE (NW _ q_r) ⟨(ht J),aS⟩)<|bq J<|av<|aw<|aG J<|zo J (s8 J)<|av ?_;refine c0 h J (fun h=>?_) (fun h=>?_)
 ·refine aw<|aG J<|zo J (cy)<|bq J<|av<|am<|ae ?_;cases so h;exact cP J J J
 ·refine dP<|ah<|aw<|zo J (bC ea J J)<|zo J (i7 hX J)<|zo J (bE hI)<|av<|ay<|ba (k:=16) J fun hN=>bL ?_;refine aR (d7 (Z:=fun ls i=>(kinds.drop i=ls)∧qy e kinds ls=some R) (Of:=fun _ i=>[]) (Gf:=fun _ i=>[(2,bM co e),(3,bM od kinds),(16,mK kinds),(17,jr kinds),(18,bN (i:Int))]) (fun i h=>?_) (fun e1 tl ih i h=>?_) kinds 0 ⟨J,h⟩) (bu J)
  ·obtain⟨hx,h⟩:=h
   refine aA<|aw<|zo J (fF J J)<|av<|ah<|bz (ht J) (dm hx)<|bv ?_;refine ai (ai (aN ?_));refine ax<|ah<|aw<|zo rfl (bC kQ rfl rfl)<|bB h fun r1 q_r1 h=>jd XQ (LI _ q_r1) ⟨(ht J),aS⟩ J fun l c=>zo J (jO hX (.head _) (ht J))<|zo J (bE hI)<|av<|ay<|o0 (.head _) fun hN1=>bL ?_;refine aR (d7 (Z:=fun ls1 i1=>(r1.drop i1=ls1)∧nc e kinds ls1=some R) (Of:=fun _ i1=>[fE ca 3 l c r1]) (Gf:=fun _ i1=>[(2,bM co e),(3,bM od kinds),(30,sH l c r1),(31,jr r1),(32,bN (i1:Int))]) (fun i1 h=>?_) (fun e2 tl1 ih1 i1 h=>?_) r1 0 ⟨J,h⟩) (bu J)
   ·obtain⟨hx1,h⟩:=h
    refine aA<|aw<|zo J (fF J J)<|av<|ah<|bz (ht J) (dm hx1)<|bv ?_;refine ai (ai (aN ?_));refine ax<|aw<|zo rfl (bC kQ rfl rfl)<|zo rfl ((show bR _ _ _ _ ((dR aQ Uf Ue (fun(x:bp×(List Int))=>(jI kinds) x.1 x.2)))from ig (cts:=[bM od kinds]) (caps:=[.tmp 3]) aa8 ⟨(ht J),aS⟩ (fun x y h=>Vi _ _ _ h)))<|bB h fun r2 q_r2 h=>zo J (aB aa9 (Vj _ _ q_r2) ⟨(ht J),(ht J),aS⟩)<|zo J (gE J J)<|zo J (gE J J)<|bq J<|bq J<|av<|am<|bf ?_;cases so h;exact cP J J J
   ·obtain⟨hx1,h⟩:=h
    refine aA<|aw<|zo J (fF J J)<|av<|ah<|bw (ht J) (dg hx1)<|dP<|ah<|ay<|aw<|zo J (cM hX cr (.head _) (ht J) (ht J) (cT hx1))<|zo J (gG (r:=ca) (i:=(i1:Int)) (foff:=0) cr J J bU J (.head _) (cT hx1) (ht J))<|bq J<|av<|aw<|aG J<|zo J (bC ea J J)<|zo J (i7 hX J) ?_;refine zo J (ir (ht J) (ht J))<|av<|c0 h J (fun h=>?_) (fun h=>?_)
    ·refine aw<|zo J (cy)<|zo J (cy)<|av<|am ?_;refine aD (ae (ae (aD (ae ?_))));refine bf ?_;cases so h;exact cP J J J
    ·refine bA<|ap<|ax<|au<|zo rfl (lT (cx hx1 hN1) rfl)<|aG rfl<|aP ?_;exact bg (aR (ih1 (i1+1) ⟨cw hx1,h⟩) (bu J))
  ·obtain⟨hx,h⟩:=h
   refine aA<|aw<|zo J (fF J J)<|av<|ah<|bw (ht J) (dg hx)<|dP<|ah<|ay<|aw<|zo J (mz hX cr J J J (cT hx))<|zo J (bC cr J J)<|bq J<|av<|aw<|aG J<|zo J (gx (ht J) hI)<|aG J ?_;refine eG J J (fun hg=>de J)<|eG J J (fun hg=>fU (bG J hg) hI)<|zo J (xf J J)<|av<|c0 h J (fun h=>?_) (fun h=>?_)
   ·refine aw<|zo J (cy)<|zo J (cy)<|av<|am ?_;refine aD (ae (ae (aD (ae ?_))));cases so h;exact cP J J J
   ·refine bA<|ap<|ax<|au<|zo rfl (lT (cx hx hN) rfl)<|aG rfl<|aP ?_;exact bg (aR (ih (i+1) ⟨cw hx,h⟩) (bu J))

end Go.Proofs.YtfhhakidodmdfaaGreatDoor

