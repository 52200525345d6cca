/- cT of this claim: P1. -/
import Derived.Test.YtfhhakidodmdfaaGreatDoorJeT
import Derived.Test.YtfhhakidodmdfaaGreatDoorJeP0
set_option linter.all false
namespace Go.Proofs.YtfhhakidodmdfaaGreatDoor
open Go
set_option maxRecDepth 100000

theorem ML(e:bK){R:Int}(h:qA e=some R):aV aR 75 [tD cm e] (bI R):=by
 refine aV.of Tryz.func75 J J J fun w0 S0=>aw<|zo J (js J)<|zo J (cF)<|au<|ah<|aw<|zo J (bC kG J J)<|bB h fun r q_r h=>zo J (aE abA (Vp _ q_r) ⟨(ht J),aS⟩)<|aF J<|zo J (gV J J)<|zo J (gV J J)<|bo J<|bo J<|au<|aw<|aF J<|zo J (gg (ht J)) ?_;refine au<|dd h J (fun h=>?_) (fun h=>?_)
 ·refine aw<|zo J (cF)<|au<|am<|ae ?_;cases so h;exact aL J J
 ·refine dU<|aw<|zo J (cF)<|au<|am ?_;cases so h;exact aL J J

theorem Wh(l:Option Nat)(c:Nat)(s:(List Int)){R:(List Int)}(h:hZ s=some R):c0 aR 91 [qS l c s] [eH bT 3 l c s] (fun i:OI=>qS (i.h 0).1 (i.h 0).2 R) (fun i=>[eH bT 3 (i.h 0).1 (i.h 0).2 R]):=by
 refine c0.of Tryz.func91 J J J fun w0 S0=>aw<|bL false bT 3<|zo J (aK rr)<|au<|ah<|aw<|aF J<|zo J (i9 gF (.tail _ (.head _)) (ht J))<|zo J (gD (ht J) hI)<|au<|dd h J (fun h=>?_) (fun h=>?_)
 ·refine aw<|aF J<|bo J<|au<|am<|ae<|be ?_;cases so h;exact m8 J (oi l c) J J (fun _ _ h=>h)
 ·refine dU<|ah<|aw<|zo J (cF)<|au<|aA<|mR (.tail _ (.head _)) fun hN=>bJ<|oR ?_;refine aT (eI (Z:=fun ls i=>(s.drop i=ls)∧eJ s ls i=some R) (Of:=fun _ i=>[eH bT 3 l c s]) (Gf:=fun _ i=>[(0,qS l c s),(3,bI (i:Int))]) (fun i h=>?_) (fun e tl ih i h=>?_) (s.drop (1)) 1 ⟨J,h⟩) (bt J)
  ·obtain⟨hx,h⟩:=h
   refine aB<|ah<|aw<|aF J<|aF J<|zo J (i9 gF (.head _) (ht J))<|zo J (fL J J)<|au<|bz (ht J) (du hx)<|bu ?_;refine ai (ai (aN ?_));refine av<|aw<|aF rfl<|bo rfl<|au<|am ?_;cases so h;exact m8 J (oi l c) J J (fun _ _ h=>h)
  ·obtain⟨hx,h⟩:=h
   refine aB<|ah<|aw<|aF J<|aF J<|zo J (i9 gF (.head _) (ht J))<|zo J (fL J J)<|au<|bw (ht J) (dl hx)<|dU<|ah<|aA<|ah<|bB h fun e1 q_e1 h=>?_
   refine dc (ts:=[_,_,_,_,_,_,_,_,_,_]) mixed J J
    ⟨fb 0 J J J (dv J),
    ⟨fb 3 J J J (dv J),
    ⟨d6 16 0 17 1 J J J J (cw gF cu (.head _) (ht J) (ht J) (cX hx)),
    ⟨ca 18 2 J J J (fR (r:=bT) (i:=(i:Int)) (foff:=0) cu J J bR J (.head _) (cX hx) (ht J)),
    ⟨fb 0 J J J (dv J),
    ⟨fb 3 J J J (dv J),
    ⟨ca 21 5 J J J (jf (ht J) hI),
    ⟨d6 20 4 22 6 J J J J (cw gF cu (.head _) (ht J) (ht J) q_e1),
    ⟨ca 23 7 J J J (fR (r:=bT) (i:=(IntKind.i64.wrap ((i:Int)-(1:Int)))) (foff:=0) cu J J bR J (.head _) q_e1 (ht J)),
    ⟨d6 19 3 24 8 J J J J (dw (ht J) (ht J)),
    aS⟩⟩⟩⟩⟩⟩⟩⟩⟩⟩ ?_
   refine av<|dd h rfl (fun h=>?_) (fun h=>?_)
   ·refine aw<|aF J<|aF J<|bB h fun y q_y h=>zo J (nM gF cu J (.head _) (ht J) (ht J) q_y)<|mQ (.head _) q_y fun hv=>bo J<|au<|ah<|aw<|zo J (cF)<|au<|aA<|bJ ?_;refine aT (IV (Z:=fun k1 i1 s1 k=>(y.length-i1=k1)∧dZ i y k1 i1 s1 k=some R) (Of:=fun _ i1 s1 k=>[eH bT 3 l c s1]) (Gf:=fun _ i1 s1 k=>[(0,qS l c s1),(3,bI k),(4,tV (oy 1 l c (i:Int).toNat y.length)),(5,bI (i1:Int))]) (fun i1 s1 k h=>?_) (fun k2 ih1 i1 s1 k h=>?_) (y.length-1) 1 s (i:Int) ⟨J,h⟩) (bt J)
    ·obtain⟨hx1,h⟩:=h
     refine aB<|ah<|aw<|aF J<|aF J<|zo J (Dg gF hv.1 (ht J))<|zo J (fL J J)<|au<|bz (ht J) (Zp hx1)<|bu ?_;refine ai (ai (aN ?_));refine av<|aw<|aF rfl<|aF rfl<|bB h fun y1 q_y1 h=>zo J (nM gF cu J (.head _) (ht J) (ht J) q_y1)<|mQ (.head _) q_y1 fun hv1=>bB h fun cl q_cl h=>Hf cu J J gF (fun _=>J) J q_y1 (ht J) (so q_cl)<|iy (yo q_y1 (so q_cl)) 0 J<|iy (yo q_y1 (so q_cl)) 54 J<|au<|aw<|aF J<|aF J<|bB h fun y2 q_y2 h=>zo J (kX gF cu J (.head _) (ht J) (ht J) q_y2)<|we q_y2<|bo J<|au ?_;refine am ?_;refine aD (ae (ae (aD (ae ?_))));cases so h;exact m8 J (oi l c) J J (fun _ _ h=>h)
    ·obtain⟨hx1,h⟩:=h
     refine aB<|ah<|aw<|aF J<|aF J<|zo J (Dg gF hv.1 (ht J))<|zo J (fL J J)<|au<|bw (ht J) (Zo hx1)<|dU<|ah<|aA<|ah<|bB h fun e3 q_e3 h=>bB h fun e4 q_e4 h=>?_
     refine dc (ts:=[_,_,_,_,_,_,_,_,_,_]) mixed J J
      ⟨fb 4 J J J (dv J),
      ⟨fb 5 J J J (dv J),
      ⟨d6 35 0 36 1 J J J J (ne gF cu J (.head _) (si q_y) (ht J) (ht J) q_e3),
      ⟨ca 37 2 J J J (fR (r:=bT) (i:=((i:Int)+(i1:Int))) (foff:=0) cu J J bR J (.head _) (qr q_e3).2.2 (ht J)),
      ⟨fb 4 J J J (dv J),
      ⟨fb 5 J J J (dv J),
      ⟨ca 40 5 J J J (jf (ht J) hI),
      ⟨d6 39 4 41 6 J J J J (ne gF cu J (.head _) (si q_y) (ht J) (ht J) q_e4),
      ⟨ca 42 7 J J J (fR (r:=bT) (i:=((i:Int)+(IntKind.i64.wrap ((i1:Int)-(1:Int))))) (foff:=0) cu J J bR J (.head _) (qr q_e4).2.2 (ht J)),
      ⟨d6 38 3 43 8 J J J J (fM (ht J) (ht J)),
      aS⟩⟩⟩⟩⟩⟩⟩⟩⟩⟩ ?_
     refine av<|dd h rfl (fun h=>?_) (fun h=>?_)
     ·refine aw<|aF J<|aF J<|aF J<|aF J<|bB h fun e5 q_e5 h=>zo J (ne gF cu J (.head _) (si q_y) (ht J) (ht J) q_e5)<|zo J (fR (r:=bT) (i:=((i:Int)+(i1:Int))) (foff:=0) cu J J bR J (.head _) (qr q_e5).2.2 (ht J))<|bB h fun e6 q_e6 h=>zo J (cw gF cu (.head _) (ht J) (ht J) q_e6)<|bB h fun st q_st h=>sw cu J an J q_e6 (so q_st) (ht J) (ht J)<|iy (mq (so q_st)) 0 J<|iy (mq (so q_st)) 45 J<|au<|aq<|aF J<|zo J (nO (ht J) hI)<|bo J<|aQ<|ap<|av ?_;refine aq<|aF J<|zo J (AG (TL hx1 (TN hv.2)) (ht J) hI)<|bo J<|aQ ?_;exact bg (aT (ih1 (i1+1) st (IntKind.i64.wrap (k+(1:Int))) ⟨TK hx1,h⟩) (bt J))
     ·refine bA<|ap<|av<|aq<|aF rfl<|zo rfl (AG (TL hx1 (TN hv.2)) (ht rfl) hI)<|bo rfl<|aQ ?_;exact bg (aT (ih1 (i1+1) s1 k ⟨TK hx1,h⟩) (bt J))
   ·refine bA<|ap<|av<|aq<|aF rfl<|zo rfl (lZ (cL hx hN) rfl)<|bo rfl<|aQ ?_;exact bg (aT (ih (i+1) ⟨cK hx,h⟩) (bt J))

theorem KL(e:bK){R:(List Int)}(h:su e=some R):fJ aR 181 [tD cm e] false bT 3 R:=by
 refine fJ.of Tryz.func181 J J J fun w0 S0=>aw<|zo J (js J)<|bL false bT 3<|zo J (aK rr)<|au<|ah<|aw<|zo J (bC kG J J)<|bB h fun r q_r h=>zo J (aE YA (ML _ q_r) ⟨(ht J),aS⟩)<|zo J (uL J)<|au<|dd h J (fun h=>?_) (fun h=>?_)
 ·refine aw<|bL false bT 3<|zo J (aK rr)<|au<|am<|ae ?_;cases so h;exact fE J J
 ·refine dU<|aw<|bL false bT 3<|zo J (aK rr)<|au<|ah<|aw<|zo J (de pW lO J J)<|zo J (bC Aq J J)<|zo J (iJ wy J)<|zo J (bG hI)<|au<|aA<|bc (k:=10) J fun hN=>bJ<|gz<|oR ?_;refine aT (jq (Z:=fun ls i out l c=>(e.Nodes.drop i=ls)∧mI ls out=some R) (Of:=fun _ i out l c=>[eH bT 3 l c out]) (Gf:=fun _ i out l c=>[(3,qS l c out),(10,bZ (bN) e.Nodes),(11,jr e.Nodes),(12,bI (i:Int))]) (fun i out l c h=>?_) (fun e1 tl ih i out l c h=>?_) e.Nodes 0 uq none 0 ⟨J,h⟩) (bt J)
  ·obtain⟨hx,h⟩:=h
   refine aB<|aw<|zo J (fL J J)<|au<|ah<|bz (ht J) (du hx)<|bu ?_;refine ai (ai (aN ?_));refine av<|aw<|aF rfl<|bB h fun rC q_srt h=>?_;refine Lf (n:=out.length) (ys:=rC) Bj ?_ Z0 ?_ ?_ ?_ ?_ ?_
   ·rfl
   ·exact q_srt
   ·exact(ht J)
   ·rfl
   ·rfl
   intro hl
   refine m7 hl 3 J<|m7 hl 25 J<|au<|aw<|aF J<|bB h fun r1 q_r1 h=>xI [eH bT 3 l c rC] _ J ZZ (Wh l c _ q_r1) ⟨(ht J),aS⟩ J fun i1=>?_;refine(show RG _ _ _ _ [eH bT 3 (i1.h 0).1 (i1.h 0).2 r1] ((28,qS (i1.h 0).1 (i1.h 0).2 r1)::_)from ?_);refine bo J<|au<|am ?_;cases so h;exact fE J J
  ·obtain⟨hx,h⟩:=h
   refine aB<|aw<|zo J (fL J J)<|au<|ah<|bw (ht J) (dl hx)<|dU<|ah<|aA<|aw<|zo J (ml wy pw J J J (cX hx))<|zo J (bC pw J J)<|aY (r:=bN) (x:=Qw) pw (fun _=>uJ _) J fun b=>ax pw J an J (ht J) (ht J)<|aW 5 J<|au<|aw<|zo J (de pV ij J J) ?_;refine zo J (bC cu J J)<|zo J (nr J)<|au<|dd h J (fun h=>?_) (fun h=>?_)
   ·refine aq<|aF J<|zo J (de zK o8 J J)<|zo J (bC cu J J)<|zo J (aU (r:=bT) (ys:=[e1.Col]) (xs:=[.tmp 21]) gF cu J J J J J ⟨(ht J),aS⟩)<|bB h fun out1 q_out1 h=>cO cu J J J J gF J J (ht J) (ht J) q_out1 fun l2 c2=>bo J<|aQ<|ap<|av<|aq<|zo rfl (lZ (cL hx hN) rfl)<|aF rfl<|aQ ?_;exact bg (aT (ih (i+1) out1 l2 c2 ⟨cK hx,h⟩) (bt J))
   ·refine bA<|ap<|av<|aq<|zo rfl (lZ (cL hx hN) rfl)<|aF rfl<|aQ ?_;exact bg (aT (ih (i+1) out l c ⟨cK hx,h⟩) (bt J))
theorem Iw(s:(List Int)){R:(List Int)}(h:cx s=some R):fJ aR 73 [mh s] false bT 3 R:=by
 refine fJ.of Tryz.func73 J J J fun w0 S0=>aw<|bL false bT 3<|zo J (aK rr)<|au<|ah<|aw<|aF J<|tp gF (ht J) J fun isnil hisnil=>au<|oS (ht J) (fun hc=>?_) (fun hc=>?_)
 ·have hx:=hisnil hc
  have h:some uq=some R:=by simpa [cx,app,hx] using h
  refine aw<|bL false bT 3<|zo J (aK rr)<|au<|am<|ae ?_;cases so h;exact fE J J
 ·refine dU<|aw<|jX (r:=bT) (ys:=uq) (xs:=[]) gF cu J J J J J trivial J fun l c=>aF J<|bB h fun x q_x h=>cO cu J J J J gF J J (ht J) (ht J) q_x fun l1 c1=>bo J<|au<|am ?_;cases so h;exact fE J J
theorem RM(s:(List Int)){R:(List Int)}(h:cx s=some R):aV aR 73 [mh s] (mh R):=(Iw _ h).spec

theorem ZI{l:Option Nat}{c:Nat}{xs s:List Int}{lo:Int}{R:List Int}(hs:dj xs lo (xs.length:Int)=some s)(h:cx s=some R):c0 aR 73 [tV (oy 1 l c lo.toNat s.length)] [eH bT 3 l c xs] (fun i:OI=>qS (i.h 0).1 (i.h 0).2 R) (fun i=>[eH bT 3 (i.h 0).1 (i.h 0).2 R,eH bT 3 l c xs]):=by
 refine c0.of Tryz.func73 J J J fun w0 S0=>aw<|zo J (aK rr)<|au<|ah<|aw<|aF J<|Hd (r:=bT) gF (.head _) hs (ht J) J fun isnil hisnil=>au<|oS (ht J) (fun hc=>?_) (fun hc=>?_)
 ·have hx:=hisnil hc
  have h:some uq=some R:=by simpa [cx,app,hx] using h
  refine aw<|bL false bT 3<|zo J (aK rr)<|au<|am<|ae ?_;cases so h;exact m8 J (oi none 0) J J (fun _ _ h=>h)
 ·refine dU<|aw<|jX (r:=bT) (ys:=uq) (xs:=[]) gF cu J J J J J trivial J fun l1 c1=>aF J<|bB h fun x q_x h=>Fq cu J J J J gF J J (ht J) (.tail _ (.head _)) hs (ht J) q_x fun l2 c2=>bo J<|au<|am ?_;cases so h;exact m8 J (oi l2 c2) J J (fun _ _ h=>h)

theorem X6(b:Nat)(l:Option Nat)(c:Nat)(stack:(List Int))(k:Int){R:(List Int)×(List Int)}(h:oQ stack k=some R):c0 aR 366 [bI k,tV (aP b 0)] [bx rV 39 b (aO l c stack.length),eH bT 3 l c stack] (fun i:OI=>mh R.1) (fun i=>[bx rV 39 b (aO (i.h 0).1 (i.h 0).2 R.2.length),eH bT 3 (i.h 0).1 (i.h 0).2 R.2]):=by
 refine c0.of Tryz.func366 J J J fun w0 S0=>aw<|zo J (aK (show aH _ _ _ wU from jO))<|au<|aw<|zo J (gR d7 (.head _) (ht J))<|zo J (gR d7 (.head _) (ht J))<|zo J (i9 gF (.tail _ (.head _)) (ht J))<|aF J<|zo J (jf (ht J) (ht J))<|bB h fun y q_y h=>zo J (nM gF cu J (.tail _ (.head _)) (ht J) (ht J) q_y)<|mQ (.tail _ (.head _)) q_y fun hv=>bH<|bB h fun r q_r h=>xI [eH bT 3 l c stack] _ J Sd (ZI q_y q_r) ⟨(ht J),aS⟩ J fun i=>?_;refine(show RG _ _ _ _ [eH bT 3 (i.h 0).1 (i.h 0).2 r,eH bT 3 l c stack,bx rV 39 b (aO l c stack.length)] _ from ?_);refine bo J<|au<|aw<|zo J (gR d7 (.tail _ (.tail _ (.head _))) (ht J))<|zo J (gR d7 (.tail _ (.tail _ (.head _))) (ht J))<|zo J (i9 gF (.tail _ (.head _)) (ht J))<|aF J<|zo J (jf (ht J) (ht J))<|bB h fun y1 q_y1 h=>zo J (kX gF cu J (.tail _ (.head _)) (ht J) (ht J) q_y1)<|bH<|we q_y1<|fK<|ax d7 J an J (ht J) (PE (ht J))<|au<|aw<|aF J<|bo J<|au ?_;refine am<|aJ<|jv<|cE 3 J<|cE 11 J<|cE 4 J<|cE 18 J<|jw 3 J<|be<|bv<|bv ?_;cases so h;exact m8 J (oi l c) J J (fun _ _ h=>h)

theorem Uh(e:bK)(do1:(bm→(List Int)→Option (Int×Int))){R:Int×Int}(h:oK e do1=some R):aV aR 345 [tD cm e,(dX aR S5 S4 (fun(x:bm×(List Int))=>do1 x.1 x.2))] (tT [bI R.1,bI R.2]):=by
 refine aV.of Tryz.func345 J J J fun w0 S0=>aw<|zo J (js J)<|zo J (cF)<|zo J (cF)<|au<|Lq<|aw<|bL false bT 3<|aY (x:=aO none 0 0) d7 (fun _=>Eu) J fun b=>au<|aw<|zo J (cF)<|au<|aw<|zo J (Kf (cts:=[tV (aP b 0)]) (caps:=[.tmp 6]) ⟨(ht J),aS⟩)<|bo J ?_;refine au<|aw<|zo J (cF)<|au<|ah<|Lr<|av<|ah<|aw<|zo rfl (de pW lO rfl rfl)<|zo rfl (bC Aq rfl rfl)<|zo rfl (iJ wy rfl)<|zo rfl (bG hI)<|au ?_;refine Ho (Z:=fun bad stack l c=>lQ bad stack=some R) (Of:=fun bad stack l c=>[bx rV 39 b (aO l c stack.length),eH bT 3 l c stack]) (Gf:=fun bad stack l c=>[(6,tV (aP b 0)),(7,bI 0),(9,bI bad)]) (fun bad stack l c h=>?_) (fun K=>?_)
 ·skip
  refine av<|ah<|aw<|aF rfl<|zo rfl (uL rfl)<|au<|dd h rfl (fun h=>?_) (fun h=>?_)
  ·refine aw<|aF J<|aF J<|bo J<|bo J<|au<|am ?_;refine ae (yA ?_);refine be<|be ?_;cases so h;exact cN J J J
  ·refine dU<|aw<|zo J (gR d7 (.head _) (ht J))<|bB h fun e1 q_e1 h=>zo J (cw gF cu (.tail _ (.head _)) (ht J) hI q_e1)<|zo J (fR (r:=bT) (i:=(0:Int)) (foff:=0) cu J J bR J (.tail _ (.head _)) q_e1 (ht J))<|bo J<|zo J (cF)<|au<|am<|yA<|be<|be ?_;cases so h;exact cN J J J
 ·skip
  refine bc (k:=16) J fun hN=>bJ ?_;refine aT (tB (Z:=fun ls i bad1 stack1 l1 c1=>(e.Nodes.drop i=ls)∧gT do1 ls bad1 stack1=some R) (Of:=fun _ i bad1 stack1 l1 c1=>[bx rV 39 b (aO l1 c1 stack1.length),eH bT 3 l1 c1 stack1]) (Gf:=fun _ i bad1 stack1 l1 c1=>[(1,(dX aR S5 S4 (fun(x:bm×(List Int))=>do1 x.1 x.2))),(6,tV (aP b 0)),(7,bI 0),(8,tC 366 [tV (aP b 0)]),(9,bI bad1),(16,bZ (bN) e.Nodes),(17,jr e.Nodes),(18,bI (i:Int))]) (fun i bad1 stack1 l1 c1 h=>?_) (fun e2 tl ih i bad1 stack1 l1 c1 h=>?_) e.Nodes 0 (0:Int) uq none 0 ⟨J,h⟩) (bt J)
  ·obtain⟨hx,h⟩:=h
   refine aB<|aw<|zo J (fL J J)<|au<|ah<|bz (ht J) (du hx)<|bu ?_;refine ai (ai (aN ?_));exact cC (K bad1 stack1 l1 c1 h) (bt J)
  ·obtain⟨hx,h⟩:=h
   refine aB<|aw<|zo J (fL J J)<|au<|ah<|bw (ht J) (dl hx)<|dU<|ah<|aA<|aw<|zo J (ml wy pw J J J (cX hx))<|zo J (bC pw J J)<|aY (r:=bN) (x:=Qw) pw (fun _=>uJ _) J fun b1=>ax pw J an J (ht J) (ht J)<|aW 11 J<|au<|ah<|bB h fun r q_r h=>bB h fun r1 q_r1 h=>?_
   obtain⟨r2,q_r2,h⟩:=bs h
   refine oc 12 [tc ((dX aR S5 S4 (fun(x:bm×(List Int))=>do1 x.1 x.2))),tc (tD bN e2),tc (tC 366 [tV (aP b 0)]),tc (bM bT e2.Tag),tc (bI e2.Tag),tc (bI r),tc (mh r1.1),tc (tT [bI r2.1,bI r2.2]),tc (tT [bI r2.1,bI r2.2]),tc (bI r2.1),tc (bI r2.2),tc (bI r2.1)] [false,false,false,false,false,false,true,false,false,false,false,false] [fun _=>[bx rV 39 b (aO l1 c1 stack1.length),eH bT 3 l1 c1 stack1],fun sg=>[bx rV 39 b (aO ((sg 6).h 0).1 ((sg 6).h 0).2 r1.2.length),eH bT 3 ((sg 6).h 0).1 ((sg 6).h 0).2 r1.2]] J mixed J J J J J
    ⟨⟨[⟨1,fun _=>(dX aR WU WT (fun(x:bm×(List Int))=>do1 x.1 x.2)),none⟩],_,0,1,J,⟨(fun _=>J),aS⟩,J,J,J,J,J,fun _ sg _ _=>ay J (dv J)⟩,
    ⟨⟨[⟨11,fun _=>bM bN e2,none⟩],_,0,1,J,⟨(fun _=>J),aS⟩,J,J,J,J,J,fun _ sg _ _=>ay J (bC pw J J)⟩,
    ⟨⟨[⟨8,fun _=>tC 366 [tV (aP b 0)],none⟩],_,0,0,J,⟨(fun _=>J),aS⟩,J,J,J,J,J,fun _ sg _ _=>ay J (dv J)⟩,
    ⟨⟨[⟨11,fun _=>bM bN e2,none⟩],_,0,0,J,⟨(fun _=>J),aS⟩,J,J,J,J,J,fun _ sg _ _=>ay J (de pV ij J J)⟩,
    ⟨⟨[⟨26,fun _=>bM bT e2.Tag,some 3⟩],_,0,0,J,⟨(fun _=>J),aS⟩,J,J,J,J,J,fun _ sg _ _=>ay J (bC cu J J)⟩,
    ⟨⟨[⟨27,fun _=>tD bT e2.Tag,some 4⟩],_,0,0,J,⟨(fun _=>J),aS⟩,J,J,J,J,J,fun _ sg _ _=>ay J (aE ON (Dq _ q_r) ⟨(ht J),aS⟩)⟩,
    ⟨⟨[⟨25,fun _=>tC 366 [tV (aP b 0)],some 2⟩,⟨28,fun _=>tD bT r,some 5⟩],_,J,⟨(fun _=>J),(fun _=>J),aS⟩,J,J,J,fun sg=>d8 J (EffOK.fr1 (EffOK.fr1 (BZ (xs:=[.tmp 28]) (ts:=[tD bT r]) (cts:=[tV (aP b 0)]) [bx rV 39 b (aO l1 c1 stack1.length),eH bT 3 l1 c1 stack1] _ J Z5 (X6 b l1 c1 _ _ q_r1) (ht J) ⟨(ht J),aS⟩ (fun _=>J))))⟩,
    ⟨⟨[⟨23,fun _=>(dX aR WU WT (fun(x:bm×(List Int))=>do1 x.1 x.2)),some 0⟩,⟨24,fun _=>tD bN e2,some 1⟩,⟨29,fun _=>tD wT r1.1,some 6⟩],_,1,1,J,⟨(fun _=>J),(fun _=>J),(fun _=>J),aS⟩,J,J,J,J,J,fun _ sg _ _=>ay J (gS (args:=WU) (res:=WT) (f:=(fun(x:bm×(List Int))=>do1 x.1 x.2)) (x:=((e2,r1.1):bm×(List Int))) (ht J) q_r2 ⟨(ht J),(ht J),aS⟩)⟩,
    ⟨⟨[⟨30,fun _=>tT [tD bT r2.1,tD bT r2.2],some 7⟩],_,1,1,J,⟨(fun _=>J),aS⟩,J,J,J,J,J,fun _ sg _ _=>ay J (dv J)⟩,
    ⟨⟨[⟨22,fun _=>tT [tD bT r2.1,tD bT r2.2],some 8⟩],_,1,1,J,⟨(fun _=>J),aS⟩,J,J,J,J,J,fun _ sg _ _=>ay J (gV J J)⟩,
    ⟨⟨[⟨22,fun _=>tT [tD bT r2.1,tD bT r2.2],some 8⟩],_,1,1,J,⟨(fun _=>J),aS⟩,J,J,J,J,J,fun _ sg _ _=>ay J (gV J J)⟩,
    ⟨⟨[⟨31,fun _=>tD bT r2.1,some 9⟩],_,1,1,J,⟨(fun _=>J),aS⟩,J,J,J,J,J,fun _ sg _ _=>ay J (uM J)⟩,
    aS⟩⟩⟩⟩⟩⟩⟩⟩⟩⟩⟩⟩ (fun sg=>?_)
   refine(show RG _ _ _ _ [bx rV 39 b (aO ((sg 6).h 0).1 ((sg 6).h 0).2 r1.2.length),eH bT 3 ((sg 6).h 0).1 ((sg 6).h 0).2 r1.2] _ from ?_);refine bo J<|au<|ah<|aw<|aF J<|zo J (uL J)<|au<|dd h J (fun h=>?_) (fun h=>?_)
   ·refine aw<|aF J<|bo J<|au<|bu ?_;refine ai (cj J (ai (ai (aN ?_))));exact cC (K r2.2 r1.2 ((sg 6).h 0).1 ((sg 6).h 0).2 h) (bt J)
   ·refine dU<|aq<|zo J (gR d7 (.head _) (ht J))<|aF J<|zo J (aU (r:=bT) (ys:=[r2.1]) (xs:=[.tmp 37]) gF cu J J J J J ⟨(ht J),aS⟩)<|bH<|bB h fun l2 q_l2 h=>cO cu J J J J gF J J (ht J) (ht J) q_l2 fun l3 c2=>bH<|ax d7 J an J (ht J) (PE (ht J))<|aQ<|ap<|av<|aq<|zo rfl (lZ (cL hx hN) rfl)<|aF rfl<|aQ ?_;exact bg (aT (ih (i+1) bad1 l2 l3 c2 ⟨cK hx,h⟩) (bt J))

theorem Vq(tag:Int){R:Bool}(h:wp tag=some R):aV aR 123 [bI tag] (iz R):=by
 refine aV.of Tryz.func123 J J J fun w0 S0=>aw<|zo J (jS)<|au<|aw<|aF J<|zo J (nr J)<|aF J<|gY J J (fun hg=>dv J)<|gY J J (fun hg=>jg (bP J hg) hI)<|gY J J (fun hg=>bG (bP J hg))<|jI J J J J (fun hg=>dv J)<|jI J J J J (fun hg=>nN (bP J hg) hI)<|gY J J (fun hg=>qn (bP J hg) (fun hb=>(bP J (C8 hg hb))))<|zo J (yE J J)<|bo J<|au<|am ?_;cases so h;exact aL J J

theorem Ug(kinds:(List Int))(n:bm)(l:(List Int)){R:Int×Int}(h:jl kinds n l=some R):aV aR 346 [tD bN n,mh l,bM ny kinds] (tT [bI R.1,bI R.2]):=by
 refine aV.of Tryz.func346 J J J fun w0 S0=>aw<|zo J (js J)<|zo J (cF)<|zo J (cF)<|au<|aw<|zo J (cF)<|au<|ah<|aw<|aF J<|zo J (iJ gF J)<|zo J (bG hI)<|au<|aA<|bc (k:=12) J fun hN=>bJ ?_;refine aT (oa (Z:=fun ls i own=>(l.drop i=ls)∧lS kinds n ls own=some R) (Of:=fun _ i own=>[]) (Gf:=fun _ i own=>[(2,bM ny kinds),(3,bM bN n),(7,bI own),(12,mh l),(13,jr l),(14,bI (i:Int))]) (fun i own h=>?_) (fun e tl ih i own h=>?_) l 0 (0:Int) ⟨J,h⟩) (bt J)
 ·obtain⟨hx,h⟩:=h
  refine aB<|aw<|zo J (fL J J)<|au<|ah<|bz (ht J) (du hx)<|bu ?_;refine ai (ai (aN ?_));refine av<|aw<|aF rfl<|bo rfl<|au<|aw<|zo rfl (cF)<|au<|ah<|aA<|aw<|zo rfl (de pV ij rfl rfl)<|zo rfl (bC cu rfl rfl)<|zo rfl (nr rfl)<|bo rfl<|au<|dd h rfl (fun h=>?_) (fun h=>?_)
  ·refine aw<|zo J (de BU qv J J)<|zo J (de gZ cS J J)<|zo J (bC cu J J)<|bo J<|zo J (cF)<|au<|am ?_;refine aD (ae ?_);cases so h;exact cN J J J
  ·refine aw<|zo J (de pV ij J J)<|zo J (bC cu J J)<|zo J (nr J)<|bo J<|au<|dd h J (fun h=>?_) (fun h=>?_)
   ·refine aw<|zo J (bC d7 J J)<|zo J (de zK o8 J J)<|zo J (bC cu J J)<|bB h fun e1 q_e1 h=>zo J (ml gF cu J J J q_e1)<|zo J (bC cu J J)<|bo J<|zo J (cF)<|au<|am ?_;refine aD (ae ?_);cases so h;exact cN J J J
   ·refine aw<|zo J (de pV ij J J)<|zo J (bC cu J J)<|bB h fun r q_r h=>zo J (aE abC (Vq _ q_r) ⟨(ht J),aS⟩)<|bo J<|au<|dd h J (fun h=>?_) (fun h=>?_)
    ·refine aq<|zo J (cF)<|zo J (cF)<|aQ<|ap<|av<|ah<|aw<|aF rfl<|zo rfl (nr rfl)<|aF rfl<|gY rfl rfl (fun hg=>dv J)<|gY J J (fun hg=>fM (bP J hg) hI)<|gY J J (fun hg=>bG (bP J hg))<|jI J J J J (fun hg=>dv J)<|jI J J J J (fun hg=>dv J)<|jI J J J J (fun hg=>fM (bP J hg) (bP J hg))<|gY J J (fun hg=>qn (bP J hg) (fun hb=>(bP J (C8 hg hb))))<|zo J (yE J J)<|au<|dd h J (fun h=>?_) (fun h=>?_)
     ·refine aw<|zo J (cF)<|zo J (cF)<|au<|am<|ae ?_;cases so h;exact cN J J J
     ·refine dU<|aw<|aF J<|bo J<|zo J (cF)<|au<|am ?_;cases so h;exact cN J J J
    ·refine aw<|zo J (de pV ij J J)<|zo J (bC cu J J)<|zo J (nr J)<|aF J<|gY J J (fun hg=>de pV ij J J)<|gY J J (fun hg=>bO cu J J (bP J hg))<|gY J J (fun hg=>dw (bP J hg) hI)<|zo J (yE J J)<|aF J<|gY J J (fun hg=>de pV ij J J)<|gY J J (fun hg=>bO cu J J (bP J hg))<|gY J J (fun hg=>dw (bP J hg) hI)<|zo J (yE J J)<|bo J<|au<|dd h J (fun h=>?_) (fun h=>?_)
     ·refine aq<|zo J (cF)<|aQ<|ap<|av<|ah<|aw<|aF rfl<|zo rfl (nr rfl)<|aF rfl<|gY rfl rfl (fun hg=>dv J)<|gY J J (fun hg=>fM (bP J hg) hI)<|gY J J (fun hg=>bG (bP J hg))<|jI J J J J (fun hg=>dv J)<|jI J J J J (fun hg=>dv J)<|jI J J J J (fun hg=>fM (bP J hg) (bP J hg))<|gY J J (fun hg=>qn (bP J hg) (fun hb=>(bP J (C8 hg hb))))<|zo J (yE J J)<|au<|dd h J (fun h=>?_) (fun h=>?_)
      ·refine aw<|zo J (cF)<|zo J (cF)<|au<|am<|ae ?_;cases so h;exact cN J J J
      ·refine dU<|aw<|aF J<|bo J<|zo J (cF)<|au<|am ?_;cases so h;exact cN J J J
     ·refine bA<|ap<|av<|ah<|aw<|aF rfl<|zo rfl (nr rfl)<|aF rfl<|gY rfl rfl (fun hg=>dv J)<|gY J J (fun hg=>fM (bP J hg) hI)<|gY J J (fun hg=>bG (bP J hg))<|jI J J J J (fun hg=>dv J)<|jI J J J J (fun hg=>dv J)<|jI J J J J (fun hg=>fM (bP J hg) (bP J hg))<|gY J J (fun hg=>qn (bP J hg) (fun hb=>(bP J (C8 hg hb))))<|zo J (yE J J)<|au<|dd h J (fun h=>?_) (fun h=>?_)
      ·refine aw<|zo J (cF)<|zo J (cF)<|au<|am<|ae ?_;cases so h;exact cN J J J
      ·refine dU<|aw<|aF J<|bo J<|zo J (cF)<|au<|am ?_;cases so h;exact cN J J J
 ·obtain⟨hx,h⟩:=h
  refine aB<|aw<|zo J (fL J J)<|au<|ah<|bw (ht J) (dl hx)<|dU<|ah<|aA<|aw<|zo J (ml gF cu J J J (cX hx))<|zo J (bC cu J J)<|bo J<|au<|aA<|aw<|aF J<|zo J (nr J) ?_;refine aF J<|gY J J (fun hg=>dv J)<|gY J J (fun hg=>dv J)<|gY J J (fun hg=>dw (bP J hg) (bP J hg))<|zo J (yE J J)<|bo J<|au<|dd h J (fun h=>?_) (fun h=>?_)
  ·refine bA<|ap<|ap<|av<|aq<|zo rfl (lZ (cL hx hN) rfl)<|aF rfl<|aQ ?_;exact bg (aT (ih (i+1) own ⟨cK hx,h⟩) (bt J))
  ·refine aw<|aF J<|zo J (nr J)<|bo J<|au<|dd h J (fun h=>?_) (fun h=>?_)
   ·refine aq<|aF J<|bo J<|aQ<|ap<|ap<|av<|aq<|zo rfl (lZ (cL hx hN) rfl)<|aF rfl<|aQ ?_;exact bg (aT (ih (i+1) e ⟨cK hx,h⟩) (bt J))
   ·refine aq<|zo J (cF)<|aQ<|ap<|ap<|av<|aq<|zo rfl (lZ (cL hx hN) rfl)<|aF rfl<|aQ ?_;exact bg (aT (ih (i+1) vy ⟨cK hx,h⟩) (bt J))

theorem Iz(e:bK)(kinds:(List Int)){R:Int×Int}(h:sr e kinds=some R):aV aR 285 [tD cm e,mh kinds] (tT [bI R.1,bI R.2]):=by
 refine aV.of Tryz.func285 J J J fun w0 S0=>aw<|zo J (js J)<|zo J (js J)<|zo J (cF)<|zo J (cF)<|au<|ah<|aw<|zo J (bC kG J J)<|bB h fun r q_r h=>zo J (aE YA (ML _ q_r) ⟨(ht J),aS⟩)<|bo J<|au<|aw<|aF J<|zo J (uL J)<|au ?_;refine dd h J (fun h=>?_) (fun h=>?_)
 ·refine aw<|aF J<|zo J (cF)<|bo J<|au<|am<|ae ?_;cases so h;exact cN J J J
 ·refine dU<|ah<|aw<|zo J (bC d7 J J)<|zo J (iJ gF J)<|zo J (bG hI)<|au<|aA<|bc (k:=16) J fun hN=>bJ ?_;refine aT (eI (Z:=fun ls i=>(kinds.drop i=ls)∧pX e kinds ls=some R) (Of:=fun _ i=>[]) (Gf:=fun _ i=>[(2,bM cm e),(3,bM ny kinds),(16,mh kinds),(17,jr kinds),(18,bI (i:Int))]) (fun i h=>?_) (fun e1 tl ih i h=>?_) kinds 0 ⟨J,h⟩) (bt J)
  ·obtain⟨hx,h⟩:=h
   refine aB<|aw<|zo J (fL J J)<|au<|ah<|bz (ht J) (du hx)<|bu ?_;refine ai (ai (aN ?_));refine av<|ah<|aw<|zo rfl (bC kG rfl rfl)<|bB h fun r1 q_r1 h=>il WB (KL _ q_r1) ⟨(ht J),aS⟩ J fun l c=>zo J (i9 gF (.head _) (ht J))<|zo J (bG hI)<|au<|aA<|mR (.head _) fun hN1=>bJ ?_;refine aT (eI (Z:=fun ls1 i1=>(r1.drop i1=ls1)∧mH e kinds ls1=some R) (Of:=fun _ i1=>[eH bT 3 l c r1]) (Gf:=fun _ i1=>[(2,bM cm e),(3,bM ny kinds),(30,qS l c r1),(31,jr r1),(32,bI (i1:Int))]) (fun i1 h=>?_) (fun e2 tl1 ih1 i1 h=>?_) r1 0 ⟨J,h⟩) (bt J)
   ·obtain⟨hx1,h⟩:=h
    refine aB<|aw<|zo J (fL J J)<|au<|ah<|bz (ht J) (du hx1)<|bu ?_;refine ai (ai (aN ?_));refine av<|aw<|zo rfl (bC kG rfl rfl)<|zo rfl ((show bQ _ _ _ _ ((dX aR S5 S4 (fun(x:bm×(List Int))=>(jl kinds) x.1 x.2)))from iB (cts:=[bM ny kinds]) (caps:=[.tmp 3]) Z8 ⟨(ht J),aS⟩ (fun x y h=>Ug _ _ _ h)))<|bB h fun r2 q_r2 h=>zo J (aE Z9 (Uh _ _ q_r2) ⟨(ht J),(ht J),aS⟩)<|zo J (gV J J)<|zo J (gV J J)<|bo J<|bo J<|au<|am<|be ?_;cases so h;exact cN J J J
   ·obtain⟨hx1,h⟩:=h
    refine aB<|aw<|zo J (fL J J)<|au<|ah<|bw (ht J) (dl hx1)<|dU<|ah<|aA<|aw<|zo J (cw gF cu (.head _) (ht J) (ht J) (cX hx1))<|zo J (fR (r:=bT) (i:=(i1:Int)) (foff:=0) cu J J bR J (.head _) (cX hx1) (ht J))<|bo J<|au<|aw<|aF J<|zo J (bC d7 J J)<|zo J (iJ gF J) ?_;refine zo J (jg (ht J) (ht J))<|au<|dd h J (fun h=>?_) (fun h=>?_)
    ·refine aw<|zo J (cF)<|zo J (cF)<|au<|am ?_;refine aD (ae (ae (aD (ae ?_))));refine be ?_;cases so h;exact cN J J J
    ·refine bA<|ap<|av<|aq<|zo rfl (lZ (cL hx1 hN1) rfl)<|aF rfl<|aQ ?_;exact bg (aT (ih1 (i1+1) ⟨cK hx1,h⟩) (bt J))
  ·obtain⟨hx,h⟩:=h
   refine aB<|aw<|zo J (fL J J)<|au<|ah<|bw (ht J) (dl hx)<|dU<|ah<|aA<|aw<|zo J (ml gF cu J J J (cX hx))<|zo J (bC cu J J)<|bo J<|au<|aw<|aF J<|zo J (gD (ht J) hI)<|aF J ?_;refine gY J J (fun hg=>dv J)<|gY J J (fun hg=>gm (bP J hg) hI)<|zo J (yE J J)<|au<|dd h J (fun h=>?_) (fun h=>?_)
   ·refine aw<|zo J (cF)<|zo J (cF)<|au<|am ?_;refine aD (ae (ae (aD (ae ?_))));cases so h;exact cN J J J
   ·refine bA<|ap<|av<|aq<|zo rfl (lZ (cL hx hN) rfl)<|aF rfl<|aQ ?_;exact bg (aT (ih (i+1) ⟨cK hx,h⟩) (bt J))

end Go.Proofs.YtfhhakidodmdfaaGreatDoor

