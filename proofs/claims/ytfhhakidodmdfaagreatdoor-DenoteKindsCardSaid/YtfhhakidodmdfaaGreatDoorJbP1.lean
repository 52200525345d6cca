/- db of this claim: P1. -/
import Derived.Test.YtfhhakidodmdfaaGreatDoorJbT
import Derived.Test.YtfhhakidodmdfaaGreatDoorJbP0
set_option linter.all false
namespace Go.Proofs.YtfhhakidodmdfaaGreatDoor
open Go
set_option maxRecDepth 100000

theorem Io(e:br){R:Int}(h:pe e=some R):aU aO 75 [tD bT e] (bM R):=by
 refine aU.of Tryz.func75 J J J fun w0 S0=>au<|zo J (je J)<|zo J (cw)<|aq<|ah<|au<|zo J (bB jC J J)<|bC h fun r q_r h=>zo J (aD abG (Vr _ q_r) ⟨(ht J),aT⟩)<|aF J<|zo J (hY J J)<|zo J (hY J J)<|bp J<|bp J<|aq<|au<|aF J<|zo J (fS (ht J)) ?_;refine aq<|c9 h J (fun h=>?_) (fun h=>?_)
 ·refine au<|zo J (cw)<|aq<|ak<|ae ?_;cases so h;exact aG J J
 ·refine dS<|au<|zo J (cw)<|aq<|ak ?_;cases so h;exact aG J J

theorem ZK(l:Option Nat)(c:Nat)(s:(List Int)){R:(List Int)}(h:jR s=some R):c0 aO 91 [rL l c s] [fx bX 3 l c s] (fun i:OI=>rL (i.h 0).1 (i.h 0).2 R) (fun i=>[fx bX 3 (i.h 0).1 (i.h 0).2 R]):=by
 refine c0.of Tryz.func91 J J J fun w0 S0=>au<|bQ false bX 3<|zo J (aL s9)<|aq<|ah<|au<|aF J<|zo J (jy gM (.tail _ (.head _)) (ht J))<|zo J (gJ (ht J) hI)<|aq<|c9 h J (fun h=>?_) (fun h=>?_)
 ·refine au<|aF J<|bp J<|aq<|ak<|ae<|bm ?_;cases so h;exact m7 J (oi l c) J J (fun _ _ h=>h)
 ·refine dS<|ah<|au<|zo J (cw)<|aq<|ay<|oq (.tail _ (.head _)) fun hN=>bI<|qY ?_;refine aS (dQ (Z:=fun ls i=>(s.drop i=ls)∧eP s ls i=some R) (Of:=fun _ i=>[fx bX 3 l c s]) (Gf:=fun _ i=>[(0,rL l c s),(3,bM (i:Int))]) (fun i h=>?_) (fun e tl ih i h=>?_) (s.drop (1)) 1 ⟨J,h⟩) (bv J)
  ·obtain⟨hx,h⟩:=h
   refine aC<|ah<|au<|aF J<|aF J<|zo J (jy gM (.head _) (ht J))<|zo J (fD J J)<|aq<|bz (ht J) (di hx)<|bu ?_;refine ai (ai (aN ?_));refine aw<|au<|aF rfl<|bp rfl<|aq<|ak ?_;cases so h;exact m7 J (oi l c) J J (fun _ _ h=>h)
  ·obtain⟨hx,h⟩:=h
   refine aC<|ah<|au<|aF J<|aF J<|zo J (jy gM (.head _) (ht J))<|zo J (fD J J)<|aq<|bw (ht J) (dg hx)<|dS<|ah<|ay<|ah<|bC h fun e1 q_e1 h=>?_
   refine cU (ts:=[_,_,_,_,_,_,_,_,_,_]) mixed J J
    ⟨fd 0 J J J (dA J),
    ⟨fd 3 J J J (dA J),
    ⟨d8 16 0 17 1 J J J J (cH gM cr (.head _) (ht J) (ht J) (cS hx)),
    ⟨bW 18 2 J J J (gn (r:=bX) (i:=(i:Int)) (foff:=0) cr J J bS J (.head _) (cS hx) (ht J)),
    ⟨fd 0 J J J (dA J),
    ⟨fd 3 J J J (dA J),
    ⟨bW 21 5 J J J (jp (ht J) hI),
    ⟨d8 20 4 22 6 J J J J (cH gM cr (.head _) (ht J) (ht J) q_e1),
    ⟨bW 23 7 J J J (gn (r:=bX) (i:=(IntKind.i64.wrap ((i:Int)-(1:Int)))) (foff:=0) cr J J bS J (.head _) q_e1 (ht J)),
    ⟨d8 19 3 24 8 J J J J (dL (ht J) (ht J)),
    aT⟩⟩⟩⟩⟩⟩⟩⟩⟩⟩ ?_
   refine aw<|c9 h rfl (fun h=>?_) (fun h=>?_)
   ·refine au<|aF J<|aF J<|bC h fun y q_y h=>zo J (nM gM cr J (.head _) (ht J) (ht J) q_y)<|mQ (.head _) q_y fun hv=>bp J<|aq<|ah<|au<|zo J (cw)<|aq<|ay<|bI ?_;refine aS (IP (Z:=fun k1 i1 s1 k=>(y.length-i1=k1)∧dX i y k1 i1 s1 k=some R) (Of:=fun _ i1 s1 k=>[fx bX 3 l c s1]) (Gf:=fun _ i1 s1 k=>[(0,rL l c s1),(3,bM k),(4,tV (ou 1 l c (i:Int).toNat y.length)),(5,bM (i1:Int))]) (fun i1 s1 k h=>?_) (fun k2 ih1 i1 s1 k h=>?_) (y.length-1) 1 s (i:Int) ⟨J,h⟩) (bv J)
    ·obtain⟨hx1,h⟩:=h
     refine aC<|ah<|au<|aF J<|aF J<|zo J (Dg gM hv.1 (ht J))<|zo J (fD J J)<|aq<|bz (ht J) (Zs hx1)<|bu ?_;refine ai (ai (aN ?_));refine aw<|au<|aF rfl<|aF rfl<|bC h fun y1 q_y1 h=>zo J (nM gM cr J (.head _) (ht J) (ht J) q_y1)<|mQ (.head _) q_y1 fun hv1=>bC h fun cl q_cl h=>G8 cr J J gM (fun _=>J) J q_y1 (ht J) (so q_cl)<|iG (yg q_y1 (so q_cl)) 0 J<|iG (yg q_y1 (so q_cl)) 54 J<|aq<|au<|aF J<|aF J<|bC h fun y2 q_y2 h=>zo J (k7 gM cr J (.head _) (ht J) (ht J) q_y2)<|we q_y2<|bp J<|aq ?_;refine ak ?_;refine aA (ae (ae (aA (ae ?_))));cases so h;exact m7 J (oi l c) J J (fun _ _ h=>h)
    ·obtain⟨hx1,h⟩:=h
     refine aC<|ah<|au<|aF J<|aF J<|zo J (Dg gM hv.1 (ht J))<|zo J (fD J J)<|aq<|bw (ht J) (Zr hx1)<|dS<|ah<|ay<|ah<|bC h fun e3 q_e3 h=>bC h fun e4 q_e4 h=>?_
     refine cU (ts:=[_,_,_,_,_,_,_,_,_,_]) mixed J J
      ⟨fd 4 J J J (dA J),
      ⟨fd 5 J J J (dA J),
      ⟨d8 35 0 36 1 J J J J (nc gM cr J (.head _) (sq q_y) (ht J) (ht J) q_e3),
      ⟨bW 37 2 J J J (gn (r:=bX) (i:=((i:Int)+(i1:Int))) (foff:=0) cr J J bS J (.head _) (qB q_e3).2.2 (ht J)),
      ⟨fd 4 J J J (dA J),
      ⟨fd 5 J J J (dA J),
      ⟨bW 40 5 J J J (jp (ht J) hI),
      ⟨d8 39 4 41 6 J J J J (nc gM cr J (.head _) (sq q_y) (ht J) (ht J) q_e4),
      ⟨bW 42 7 J J J (gn (r:=bX) (i:=((i:Int)+(IntKind.i64.wrap ((i1:Int)-(1:Int))))) (foff:=0) cr J J bS J (.head _) (qB q_e4).2.2 (ht J)),
      ⟨d8 38 3 43 8 J J J J (fj (ht J) (ht J)),
      aT⟩⟩⟩⟩⟩⟩⟩⟩⟩⟩ ?_
     refine aw<|c9 h rfl (fun h=>?_) (fun h=>?_)
     ·refine au<|aF J<|aF J<|aF J<|aF J<|bC h fun e5 q_e5 h=>zo J (nc gM cr J (.head _) (sq q_y) (ht J) (ht J) q_e5)<|zo J (gn (r:=bX) (i:=((i:Int)+(i1:Int))) (foff:=0) cr J J bS J (.head _) (qB q_e5).2.2 (ht J))<|bC h fun e6 q_e6 h=>zo J (cH gM cr (.head _) (ht J) (ht J) q_e6)<|bC h fun st q_st h=>sF cr J an J q_e6 (so q_st) (ht J) (ht J)<|iG (mj (so q_st)) 0 J<|iG (mj (so q_st)) 45 J<|aq<|av<|aF J<|zo J (nO (ht J) hI)<|bp J<|aQ<|ap<|aw ?_;refine av<|aF J<|zo J (AH (TM hx1 (TO hv.2)) (ht J) hI)<|bp J<|aQ ?_;exact bf (aS (ih1 (i1+1) st (IntKind.i64.wrap (k+(1:Int))) ⟨TL hx1,h⟩) (bv J))
     ·refine bA<|ap<|aw<|av<|aF rfl<|zo rfl (AH (TM hx1 (TO hv.2)) (ht rfl) hI)<|bp rfl<|aQ ?_;exact bf (aS (ih1 (i1+1) s1 k ⟨TL hx1,h⟩) (bv J))
   ·refine bA<|ap<|aw<|av<|aF rfl<|zo rfl (lY (cA hx hN) rfl)<|bp rfl<|aQ ?_;exact bf (aS (ih (i+1) ⟨cz hx,h⟩) (bv J))

theorem KC(e:br){R:(List Int)}(h:sD e=some R):f9 aO 181 [tD bT e] false bX 3 R:=by
 refine f9.of Tryz.func181 J J J fun w0 S0=>au<|zo J (je J)<|bQ false bX 3<|zo J (aL s9)<|aq<|ah<|au<|zo J (bB jC J J)<|bC h fun r q_r h=>zo J (aD VJ (Io _ q_r) ⟨(ht J),aT⟩)<|zo J (tJ J)<|aq<|c9 h J (fun h=>?_) (fun h=>?_)
 ·refine au<|bQ false bX 3<|zo J (aL s9)<|aq<|ak<|ae ?_;cases so h;exact gm J J
 ·refine dS<|au<|bQ false bX 3<|zo J (aL s9)<|aq<|ah<|au<|zo J (cW ow ke J J)<|zo J (bB yz J J)<|zo J (iM uq J)<|zo J (bD hI)<|aq<|ay<|ba (k:=10) J fun hN=>bI<|jb<|qY ?_;refine aS (kE (Z:=fun ls i out l c=>(e.Nodes.drop i=ls)∧mH ls out=some R) (Of:=fun _ i out l c=>[fx bX 3 l c out]) (Gf:=fun _ i out l c=>[(3,rL l c out),(10,ca (bG) e.Nodes),(11,jk e.Nodes),(12,bM (i:Int))]) (fun i out l c h=>?_) (fun e1 tl ih i out l c h=>?_) e.Nodes 0 uL none 0 ⟨J,h⟩) (bv J)
  ·obtain⟨hx,h⟩:=h
   refine aC<|au<|zo J (fD J J)<|aq<|ah<|bz (ht J) (di hx)<|bu ?_;refine ai (ai (aN ?_));refine aw<|au<|aF rfl<|bC h fun uu q_srt h=>?_;refine SJ (n:=out.length) (ys:=uu) IJ ?_ ack ?_ ?_ ?_ ?_ ?_
   ·rfl
   ·exact q_srt
   ·exact(ht J)
   ·rfl
   ·rfl
   intro hl
   refine oL hl 3 J<|oL hl 25 J<|aq<|au<|aF J<|bC h fun r1 q_r1 h=>Bm [fx bX 3 l c uu] _ J acj (ZK l c _ q_r1) ⟨(ht J),aT⟩ J fun i1=>?_;refine(show RG _ _ _ _ [fx bX 3 (i1.h 0).1 (i1.h 0).2 r1] ((28,rL (i1.h 0).1 (i1.h 0).2 r1)::_)from ?_);refine bp J<|aq<|ak ?_;cases so h;exact gm J J
  ·obtain⟨hx,h⟩:=h
   refine aC<|au<|zo J (fD J J)<|aq<|ah<|bw (ht J) (dg hx)<|dS<|ah<|ay<|au<|zo J (lX uq oB J J J (cS hx))<|zo J (bB oB J J)<|aZ (r:=bG) (x:=Qq) oB (fun _=>uJ _) J fun b=>ax oB J an J (ht J) (ht J)<|aW 5 J<|aq<|au<|zo J (cW pb gU J J) ?_;refine zo J (bB cr J J)<|zo J (np J)<|aq<|c9 h J (fun h=>?_) (fun h=>?_)
   ·refine av<|aF J<|zo J (cW zG o9 J J)<|zo J (bB cr J J)<|zo J (aV (r:=bX) (ys:=[e1.Col]) (xs:=[.tmp 21]) gM cr J J J J J ⟨(ht J),aT⟩)<|bC h fun out1 q_out1 h=>cV cr J J J J gM J J (ht J) (ht J) q_out1 fun l2 c2=>bp J<|aQ<|ap<|aw<|av<|zo rfl (lY (cA hx hN) rfl)<|aF rfl<|aQ ?_;exact bf (aS (ih (i+1) out1 l2 c2 ⟨cz hx,h⟩) (bv J))
   ·refine bA<|ap<|aw<|av<|zo rfl (lY (cA hx hN) rfl)<|aF rfl<|aQ ?_;exact bf (aS (ih (i+1) out l c ⟨cz hx,h⟩) (bv J))
theorem Ip(s:(List Int)){R:(List Int)}(h:cu s=some R):f9 aO 73 [lW s] false bX 3 R:=by
 refine f9.of Tryz.func73 J J J fun w0 S0=>au<|bQ false bX 3<|zo J (aL s9)<|aq<|ah<|au<|aF J<|tq gM (ht J) J fun isnil hisnil=>aq<|oS (ht J) (fun hc=>?_) (fun hc=>?_)
 ·have hx:=hisnil hc
  have h:some uL=some R:=by simpa [cu,app,hx] using h
  refine au<|bQ false bX 3<|zo J (aL s9)<|aq<|ak<|ae ?_;cases so h;exact gm J J
 ·refine dS<|au<|j6 (r:=bX) (ys:=uL) (xs:=[]) gM cr J J J J J trivial J fun l c=>aF J<|bC h fun x q_x h=>cV cr J J J J gM J J (ht J) (ht J) q_x fun l1 c1=>bp J<|aq<|ak ?_;cases so h;exact gm J J
theorem RL(s:(List Int)){R:(List Int)}(h:cu s=some R):aU aO 73 [lW s] (lW R):=(Ip _ h).spec

theorem ZL{l:Option Nat}{c:Nat}{xs s:List Int}{lo:Int}{R:List Int}(hs:dD xs lo (xs.length:Int)=some s)(h:cu s=some R):c0 aO 73 [tV (ou 1 l c lo.toNat s.length)] [fx bX 3 l c xs] (fun i:OI=>rL (i.h 0).1 (i.h 0).2 R) (fun i=>[fx bX 3 (i.h 0).1 (i.h 0).2 R,fx bX 3 l c xs]):=by
 refine c0.of Tryz.func73 J J J fun w0 S0=>au<|zo J (aL s9)<|aq<|ah<|au<|aF J<|G6 (r:=bX) gM (.head _) hs (ht J) J fun isnil hisnil=>aq<|oS (ht J) (fun hc=>?_) (fun hc=>?_)
 ·have hx:=hisnil hc
  have h:some uL=some R:=by simpa [cu,app,hx] using h
  refine au<|bQ false bX 3<|zo J (aL s9)<|aq<|ak<|ae ?_;cases so h;exact m7 J (oi none 0) J J (fun _ _ h=>h)
 ·refine dS<|au<|j6 (r:=bX) (ys:=uL) (xs:=[]) gM cr J J J J J trivial J fun l1 c1=>aF J<|bC h fun x q_x h=>Fo cr J J J J gM J J (ht J) (.tail _ (.head _)) hs (ht J) q_x fun l2 c2=>bp J<|aq<|ak ?_;cases so h;exact m7 J (oi l2 c2) J J (fun _ _ h=>h)

theorem Yd(b:Nat)(l:Option Nat)(c:Nat)(stack:(List Int))(k:Int){R:(List Int)×(List Int)}(h:oR stack k=some R):c0 aO 366 [bM k,tV (aP b 0)] [bx rV 39 b (aR l c stack.length),fx bX 3 l c stack] (fun i:OI=>lW R.1) (fun i=>[bx rV 39 b (aR (i.h 0).1 (i.h 0).2 R.2.length),fx bX 3 (i.h 0).1 (i.h 0).2 R.2]):=by
 refine c0.of Tryz.func366 J J J fun w0 S0=>au<|zo J (aL (show aJ _ _ _ wN from j9))<|aq<|au<|zo J (hM d9 (.head _) (ht J))<|zo J (hM d9 (.head _) (ht J))<|zo J (jy gM (.tail _ (.head _)) (ht J))<|aF J<|zo J (jp (ht J) (ht J))<|bC h fun y q_y h=>zo J (nM gM cr J (.tail _ (.head _)) (ht J) (ht J) q_y)<|mQ (.tail _ (.head _)) q_y fun hv=>bL<|bC h fun r q_r h=>Bm [fx bX 3 l c stack] _ J Sh (ZL q_y q_r) ⟨(ht J),aT⟩ J fun i=>?_;refine(show RG _ _ _ _ [fx bX 3 (i.h 0).1 (i.h 0).2 r,fx bX 3 l c stack,bx rV 39 b (aR l c stack.length)] _ from ?_);refine bp J<|aq<|au<|zo J (hM d9 (.tail _ (.tail _ (.head _))) (ht J))<|zo J (hM d9 (.tail _ (.tail _ (.head _))) (ht J))<|zo J (jy gM (.tail _ (.head _)) (ht J))<|aF J<|zo J (jp (ht J) (ht J))<|bC h fun y1 q_y1 h=>zo J (k7 gM cr J (.tail _ (.head _)) (ht J) (ht J) q_y1)<|bL<|we q_y1<|hX<|ax d9 J an J (ht J) (Ru (ht J))<|aq<|au<|aF J<|bp J<|aq ?_;refine ak<|aK<|jA<|cB 3 J<|cB 11 J<|cB 4 J<|cB 18 J<|jB 3 J<|bm<|bF<|bF ?_;cases so h;exact m7 J (oi l c) J J (fun _ _ h=>h)

theorem Ui(e:br)(do1:(aX→(List Int)→Option (Int×Int))){R:Int×Int}(h:oI e do1=some R):aU aO 345 [tD bT e,(dn aO S6 S5 (fun(x:aX×(List Int))=>do1 x.1 x.2))] (tT [bM R.1,bM R.2]):=by
 refine aU.of Tryz.func345 J J J fun w0 S0=>au<|zo J (je J)<|zo J (cw)<|zo J (cw)<|aq<|Lg<|au<|bQ false bX 3<|aZ (x:=aR none 0 0) d9 (fun _=>Et) J fun b=>aq<|au<|zo J (cw)<|aq<|au<|zo J (JR (cts:=[tV (aP b 0)]) (caps:=[.tmp 6]) ⟨(ht J),aT⟩)<|bp J ?_;refine aq<|au<|zo J (cw)<|aq<|ah<|Lh<|aw<|ah<|au<|zo rfl (cW ow ke rfl rfl)<|zo rfl (bB yz rfl rfl)<|zo rfl (iM uq rfl)<|zo rfl (bD hI)<|aq ?_;refine Hh (Z:=fun bad stack l c=>lP bad stack=some R) (Of:=fun bad stack l c=>[bx rV 39 b (aR l c stack.length),fx bX 3 l c stack]) (Gf:=fun bad stack l c=>[(6,tV (aP b 0)),(7,bM 0),(9,bM bad)]) (fun bad stack l c h=>?_) (fun K=>?_)
 ·skip
  refine aw<|ah<|au<|aF rfl<|zo rfl (tJ rfl)<|aq<|c9 h rfl (fun h=>?_) (fun h=>?_)
  ·refine au<|aF J<|aF J<|bp J<|bp J<|aq<|ak ?_;refine ae (yp ?_);refine bm<|bm ?_;cases so h;exact cJ J J J
  ·refine dS<|au<|zo J (hM d9 (.head _) (ht J))<|bC h fun e1 q_e1 h=>zo J (cH gM cr (.tail _ (.head _)) (ht J) hI q_e1)<|zo J (gn (r:=bX) (i:=(0:Int)) (foff:=0) cr J J bS J (.tail _ (.head _)) q_e1 (ht J))<|bp J<|zo J (cw)<|aq<|ak<|yp<|bm<|bm ?_;cases so h;exact cJ J J J
 ·skip
  refine ba (k:=16) J fun hN=>bI ?_;refine aS (tE (Z:=fun ls i bad1 stack1 l1 c1=>(e.Nodes.drop i=ls)∧hU do1 ls bad1 stack1=some R) (Of:=fun _ i bad1 stack1 l1 c1=>[bx rV 39 b (aR l1 c1 stack1.length),fx bX 3 l1 c1 stack1]) (Gf:=fun _ i bad1 stack1 l1 c1=>[(1,(dn aO S6 S5 (fun(x:aX×(List Int))=>do1 x.1 x.2))),(6,tV (aP b 0)),(7,bM 0),(8,tC 366 [tV (aP b 0)]),(9,bM bad1),(16,ca (bG) e.Nodes),(17,jk e.Nodes),(18,bM (i:Int))]) (fun i bad1 stack1 l1 c1 h=>?_) (fun e2 tl ih i bad1 stack1 l1 c1 h=>?_) e.Nodes 0 (0:Int) uL none 0 ⟨J,h⟩) (bv J)
  ·obtain⟨hx,h⟩:=h
   refine aC<|au<|zo J (fD J J)<|aq<|ah<|bz (ht J) (di hx)<|bu ?_;refine ai (ai (aN ?_));exact cO (K bad1 stack1 l1 c1 h) (bv J)
  ·obtain⟨hx,h⟩:=h
   refine aC<|au<|zo J (fD J J)<|aq<|ah<|bw (ht J) (dg hx)<|dS<|ah<|ay<|au<|zo J (lX uq oB J J J (cS hx))<|zo J (bB oB J J)<|aZ (r:=bG) (x:=Qq) oB (fun _=>uJ _) J fun b1=>ax oB J an J (ht J) (ht J)<|aW 11 J<|aq<|ah<|bC h fun r q_r h=>bC h fun r1 q_r1 h=>?_
   obtain⟨r2,q_r2,h⟩:=bs h
   refine oM 12 [tc ((dn aO S6 S5 (fun(x:aX×(List Int))=>do1 x.1 x.2))),tc (tD bG e2),tc (tC 366 [tV (aP b 0)]),tc (bO bX e2.Tag),tc (bM e2.Tag),tc (bM r),tc (lW r1.1),tc (tT [bM r2.1,bM r2.2]),tc (tT [bM r2.1,bM r2.2]),tc (bM r2.1),tc (bM r2.2),tc (bM r2.1)] [false,false,false,false,false,false,true,false,false,false,false,false] [fun _=>[bx rV 39 b (aR l1 c1 stack1.length),fx bX 3 l1 c1 stack1],fun sg=>[bx rV 39 b (aR ((sg 6).h 0).1 ((sg 6).h 0).2 r1.2.length),fx bX 3 ((sg 6).h 0).1 ((sg 6).h 0).2 r1.2]] J mixed J J J J J
    ⟨⟨[⟨1,fun _=>(dn aO W0 WY (fun(x:aX×(List Int))=>do1 x.1 x.2)),none⟩],_,0,1,J,⟨(fun _=>J),aT⟩,J,J,J,J,J,fun _ sg _ _=>aB J (dA J)⟩,
    ⟨⟨[⟨11,fun _=>bO bG e2,none⟩],_,0,1,J,⟨(fun _=>J),aT⟩,J,J,J,J,J,fun _ sg _ _=>aB J (bB oB J J)⟩,
    ⟨⟨[⟨8,fun _=>tC 366 [tV (aP b 0)],none⟩],_,0,0,J,⟨(fun _=>J),aT⟩,J,J,J,J,J,fun _ sg _ _=>aB J (dA J)⟩,
    ⟨⟨[⟨11,fun _=>bO bG e2,none⟩],_,0,0,J,⟨(fun _=>J),aT⟩,J,J,J,J,J,fun _ sg _ _=>aB J (cW pb gU J J)⟩,
    ⟨⟨[⟨26,fun _=>bO bX e2.Tag,some 3⟩],_,0,0,J,⟨(fun _=>J),aT⟩,J,J,J,J,J,fun _ sg _ _=>aB J (bB cr J J)⟩,
    ⟨⟨[⟨27,fun _=>tD bX e2.Tag,some 4⟩],_,0,0,J,⟨(fun _=>J),aT⟩,J,J,J,J,J,fun _ sg _ _=>aB J (aD OH (Dq _ q_r) ⟨(ht J),aT⟩)⟩,
    ⟨⟨[⟨25,fun _=>tC 366 [tV (aP b 0)],some 2⟩,⟨28,fun _=>tD bX r,some 5⟩],_,J,⟨(fun _=>J),(fun _=>J),aT⟩,J,J,J,fun sg=>eC J (EffOK.fr1 (EffOK.fr1 (B2 (xs:=[.tmp 28]) (ts:=[tD bX r]) (cts:=[tV (aP b 0)]) [bx rV 39 b (aR l1 c1 stack1.length),fx bX 3 l1 c1 stack1] _ J Z8 (Yd b l1 c1 _ _ q_r1) (ht J) ⟨(ht J),aT⟩ (fun _=>J))))⟩,
    ⟨⟨[⟨23,fun _=>(dn aO W0 WY (fun(x:aX×(List Int))=>do1 x.1 x.2)),some 0⟩,⟨24,fun _=>tD bG e2,some 1⟩,⟨29,fun _=>tD wM r1.1,some 6⟩],_,1,1,J,⟨(fun _=>J),(fun _=>J),(fun _=>J),aT⟩,J,J,J,J,J,fun _ sg _ _=>aB J (fJ (args:=W0) (res:=WY) (f:=(fun(x:aX×(List Int))=>do1 x.1 x.2)) (x:=((e2,r1.1):aX×(List Int))) (ht J) q_r2 ⟨(ht J),(ht J),aT⟩)⟩,
    ⟨⟨[⟨30,fun _=>tT [tD bX r2.1,tD bX r2.2],some 7⟩],_,1,1,J,⟨(fun _=>J),aT⟩,J,J,J,J,J,fun _ sg _ _=>aB J (dA J)⟩,
    ⟨⟨[⟨22,fun _=>tT [tD bX r2.1,tD bX r2.2],some 8⟩],_,1,1,J,⟨(fun _=>J),aT⟩,J,J,J,J,J,fun _ sg _ _=>aB J (hY J J)⟩,
    ⟨⟨[⟨22,fun _=>tT [tD bX r2.1,tD bX r2.2],some 8⟩],_,1,1,J,⟨(fun _=>J),aT⟩,J,J,J,J,J,fun _ sg _ _=>aB J (hY J J)⟩,
    ⟨⟨[⟨31,fun _=>tD bX r2.1,some 9⟩],_,1,1,J,⟨(fun _=>J),aT⟩,J,J,J,J,J,fun _ sg _ _=>aB J (uM J)⟩,
    aT⟩⟩⟩⟩⟩⟩⟩⟩⟩⟩⟩⟩ (fun sg=>?_)
   refine(show RG _ _ _ _ [bx rV 39 b (aR ((sg 6).h 0).1 ((sg 6).h 0).2 r1.2.length),fx bX 3 ((sg 6).h 0).1 ((sg 6).h 0).2 r1.2] _ from ?_);refine bp J<|aq<|ah<|au<|aF J<|zo J (tJ J)<|aq<|c9 h J (fun h=>?_) (fun h=>?_)
   ·refine au<|aF J<|bp J<|aq<|bu ?_;refine ai (ci J (ai (ai (aN ?_))));exact cO (K r2.2 r1.2 ((sg 6).h 0).1 ((sg 6).h 0).2 h) (bv J)
   ·refine dS<|av<|zo J (hM d9 (.head _) (ht J))<|aF J<|zo J (aV (r:=bX) (ys:=[r2.1]) (xs:=[.tmp 37]) gM cr J J J J J ⟨(ht J),aT⟩)<|bL<|bC h fun l2 q_l2 h=>cV cr J J J J gM J J (ht J) (ht J) q_l2 fun l3 c2=>bL<|ax d9 J an J (ht J) (Ru (ht J))<|aQ<|ap<|aw<|av<|zo rfl (lY (cA hx hN) rfl)<|aF rfl<|aQ ?_;exact bf (aS (ih (i+1) bad1 l2 l3 c2 ⟨cz hx,h⟩) (bv J))

theorem Oo(tag:Int){R:Bool}(h:rJ tag=some R):aU aO 123 [bM tag] (ig R):=by
 refine aU.of Tryz.func123 J J J fun w0 S0=>au<|zo J (jj)<|aq<|au<|aF J<|zo J (np J)<|aF J<|gD J J (fun hg=>dA J)<|gD J J (fun hg=>iu (bK J hg) hI)<|gD J J (fun hg=>bD (bK J hg))<|jM J J J J (fun hg=>dA J)<|jM J J J J (fun hg=>nN (bK J hg) hI)<|gD J J (fun hg=>qx (bK J hg) (fun hb=>(bK J (Bi hg hb))))<|zo J (yO J J)<|bp J<|aq<|ak ?_;cases so h;exact aG J J

theorem Uh(kinds:(List Int))(n:aX)(l:(List Int)){R:Int×Int}(h:jt kinds n l=some R):aU aO 346 [tD bG n,lW l,bO nw kinds] (tT [bM R.1,bM R.2]):=by
 refine aU.of Tryz.func346 J J J fun w0 S0=>au<|zo J (je J)<|zo J (cw)<|zo J (cw)<|aq<|au<|zo J (cw)<|aq<|ah<|au<|aF J<|zo J (iM gM J)<|zo J (bD hI)<|aq<|ay<|ba (k:=12) J fun hN=>bI ?_;refine aS (n7 (Z:=fun ls i own=>(l.drop i=ls)∧lR kinds n ls own=some R) (Of:=fun _ i own=>[]) (Gf:=fun _ i own=>[(2,bO nw kinds),(3,bO bG n),(7,bM own),(12,lW l),(13,jk l),(14,bM (i:Int))]) (fun i own h=>?_) (fun e tl ih i own h=>?_) l 0 (0:Int) ⟨J,h⟩) (bv J)
 ·obtain⟨hx,h⟩:=h
  refine aC<|au<|zo J (fD J J)<|aq<|ah<|bz (ht J) (di hx)<|bu ?_;refine ai (ai (aN ?_));refine aw<|au<|aF rfl<|bp rfl<|aq<|au<|zo rfl (cw)<|aq<|ah<|ay<|au<|zo rfl (cW pb gU rfl rfl)<|zo rfl (bB cr rfl rfl)<|zo rfl (np rfl)<|bp rfl<|aq<|c9 h rfl (fun h=>?_) (fun h=>?_)
  ·refine au<|zo J (cW BW qD J J)<|zo J (cW gK cy J J)<|zo J (bB cr J J)<|bp J<|zo J (cw)<|aq<|ak ?_;refine aA (ae ?_);cases so h;exact cJ J J J
  ·refine au<|zo J (cW pb gU J J)<|zo J (bB cr J J)<|zo J (np J)<|bp J<|aq<|c9 h J (fun h=>?_) (fun h=>?_)
   ·refine au<|zo J (bB d9 J J)<|zo J (cW zG o9 J J)<|zo J (bB cr J J)<|bC h fun e1 q_e1 h=>zo J (lX gM cr J J J q_e1)<|zo J (bB cr J J)<|bp J<|zo J (cw)<|aq<|ak ?_;refine aA (ae ?_);cases so h;exact cJ J J J
   ·refine au<|zo J (cW pb gU J J)<|zo J (bB cr J J)<|bC h fun r q_r h=>zo J (aD WH (Oo _ q_r) ⟨(ht J),aT⟩)<|bp J<|aq<|c9 h J (fun h=>?_) (fun h=>?_)
    ·refine av<|zo J (cw)<|zo J (cw)<|aQ<|ap<|aw<|ah<|au<|aF rfl<|zo rfl (np rfl)<|aF rfl<|gD rfl rfl (fun hg=>dA J)<|gD J J (fun hg=>fj (bK J hg) hI)<|gD J J (fun hg=>bD (bK J hg))<|jM J J J J (fun hg=>dA J)<|jM J J J J (fun hg=>dA J)<|jM J J J J (fun hg=>fj (bK J hg) (bK J hg))<|gD J J (fun hg=>qx (bK J hg) (fun hb=>(bK J (Bi hg hb))))<|zo J (yO J J)<|aq<|c9 h J (fun h=>?_) (fun h=>?_)
     ·refine au<|zo J (cw)<|zo J (cw)<|aq<|ak<|ae ?_;cases so h;exact cJ J J J
     ·refine dS<|au<|aF J<|bp J<|zo J (cw)<|aq<|ak ?_;cases so h;exact cJ J J J
    ·refine au<|zo J (cW pb gU J J)<|zo J (bB cr J J)<|zo J (np J)<|aF J<|gD J J (fun hg=>cW pb gU J J)<|gD J J (fun hg=>bJ cr J J (bK J hg))<|gD J J (fun hg=>dL (bK J hg) hI)<|zo J (yO J J)<|aF J<|gD J J (fun hg=>cW pb gU J J)<|gD J J (fun hg=>bJ cr J J (bK J hg))<|gD J J (fun hg=>dL (bK J hg) hI)<|zo J (yO J J)<|bp J<|aq<|c9 h J (fun h=>?_) (fun h=>?_)
     ·refine av<|zo J (cw)<|aQ<|ap<|aw<|ah<|au<|aF rfl<|zo rfl (np rfl)<|aF rfl<|gD rfl rfl (fun hg=>dA J)<|gD J J (fun hg=>fj (bK J hg) hI)<|gD J J (fun hg=>bD (bK J hg))<|jM J J J J (fun hg=>dA J)<|jM J J J J (fun hg=>dA J)<|jM J J J J (fun hg=>fj (bK J hg) (bK J hg))<|gD J J (fun hg=>qx (bK J hg) (fun hb=>(bK J (Bi hg hb))))<|zo J (yO J J)<|aq<|c9 h J (fun h=>?_) (fun h=>?_)
      ·refine au<|zo J (cw)<|zo J (cw)<|aq<|ak<|ae ?_;cases so h;exact cJ J J J
      ·refine dS<|au<|aF J<|bp J<|zo J (cw)<|aq<|ak ?_;cases so h;exact cJ J J J
     ·refine bA<|ap<|aw<|ah<|au<|aF rfl<|zo rfl (np rfl)<|aF rfl<|gD rfl rfl (fun hg=>dA J)<|gD J J (fun hg=>fj (bK J hg) hI)<|gD J J (fun hg=>bD (bK J hg))<|jM J J J J (fun hg=>dA J)<|jM J J J J (fun hg=>dA J)<|jM J J J J (fun hg=>fj (bK J hg) (bK J hg))<|gD J J (fun hg=>qx (bK J hg) (fun hb=>(bK J (Bi hg hb))))<|zo J (yO J J)<|aq<|c9 h J (fun h=>?_) (fun h=>?_)
      ·refine au<|zo J (cw)<|zo J (cw)<|aq<|ak<|ae ?_;cases so h;exact cJ J J J
      ·refine dS<|au<|aF J<|bp J<|zo J (cw)<|aq<|ak ?_;cases so h;exact cJ J J J
 ·obtain⟨hx,h⟩:=h
  refine aC<|au<|zo J (fD J J)<|aq<|ah<|bw (ht J) (dg hx)<|dS<|ah<|ay<|au<|zo J (lX gM cr J J J (cS hx))<|zo J (bB cr J J)<|bp J<|aq<|ay<|au<|aF J<|zo J (np J) ?_;refine aF J<|gD J J (fun hg=>dA J)<|gD J J (fun hg=>dA J)<|gD J J (fun hg=>dL (bK J hg) (bK J hg))<|zo J (yO J J)<|bp J<|aq<|c9 h J (fun h=>?_) (fun h=>?_)
  ·refine bA<|ap<|ap<|aw<|av<|zo rfl (lY (cA hx hN) rfl)<|aF rfl<|aQ ?_;exact bf (aS (ih (i+1) own ⟨cz hx,h⟩) (bv J))
  ·refine au<|aF J<|zo J (np J)<|bp J<|aq<|c9 h J (fun h=>?_) (fun h=>?_)
   ·refine av<|aF J<|bp J<|aQ<|ap<|ap<|aw<|av<|zo rfl (lY (cA hx hN) rfl)<|aF rfl<|aQ ?_;exact bf (aS (ih (i+1) e ⟨cz hx,h⟩) (bv J))
   ·refine av<|zo J (cw)<|aQ<|ap<|ap<|aw<|av<|zo rfl (lY (cA hx hN) rfl)<|aF rfl<|aQ ?_;exact bf (aS (ih (i+1) vz ⟨cz hx,h⟩) (bv J))

theorem Is(e:br)(kinds:(List Int)){R:Int×Int}(h:sy e kinds=some R):aU aO 285 [tD bT e,lW kinds] (tT [bM R.1,bM R.2]):=by
 refine aU.of Tryz.func285 J J J fun w0 S0=>au<|zo J (je J)<|zo J (je J)<|zo J (cw)<|zo J (cw)<|aq<|ah<|au<|zo J (bB jC J J)<|bC h fun r q_r h=>zo J (aD VJ (Io _ q_r) ⟨(ht J),aT⟩)<|bp J<|aq<|au<|aF J<|zo J (tJ J)<|aq ?_;refine c9 h J (fun h=>?_) (fun h=>?_)
 ·refine au<|aF J<|zo J (cw)<|bp J<|aq<|ak<|ae ?_;cases so h;exact cJ J J J
 ·refine dS<|ah<|au<|zo J (bB d9 J J)<|zo J (iM gM J)<|zo J (bD hI)<|aq<|ay<|ba (k:=16) J fun hN=>bI ?_;refine aS (dQ (Z:=fun ls i=>(kinds.drop i=ls)∧p9 e kinds ls=some R) (Of:=fun _ i=>[]) (Gf:=fun _ i=>[(2,bO bT e),(3,bO nw kinds),(16,lW kinds),(17,jk kinds),(18,bM (i:Int))]) (fun i h=>?_) (fun e1 tl ih i h=>?_) kinds 0 ⟨J,h⟩) (bv J)
  ·obtain⟨hx,h⟩:=h
   refine aC<|au<|zo J (fD J J)<|aq<|ah<|bz (ht J) (di hx)<|bu ?_;refine ai (ai (aN ?_));refine aw<|ah<|au<|zo rfl (bB jC rfl rfl)<|bC h fun r1 q_r1 h=>iR WE (KC _ q_r1) ⟨(ht J),aT⟩ J fun l c=>zo J (jy gM (.head _) (ht J))<|zo J (bD hI)<|aq<|ay<|oq (.head _) fun hN1=>bI ?_;refine aS (dQ (Z:=fun ls1 i1=>(r1.drop i1=ls1)∧mG e kinds ls1=some R) (Of:=fun _ i1=>[fx bX 3 l c r1]) (Gf:=fun _ i1=>[(2,bO bT e),(3,bO nw kinds),(30,rL l c r1),(31,jk r1),(32,bM (i1:Int))]) (fun i1 h=>?_) (fun e2 tl1 ih1 i1 h=>?_) r1 0 ⟨J,h⟩) (bv J)
   ·obtain⟨hx1,h⟩:=h
    refine aC<|au<|zo J (fD J J)<|aq<|ah<|bz (ht J) (di hx1)<|bu ?_;refine ai (ai (aN ?_));refine aw<|au<|zo rfl (bB jC rfl rfl)<|zo rfl ((show bP _ _ _ _ ((dn aO S6 S5 (fun(x:aX×(List Int))=>(jt kinds) x.1 x.2)))from hJ (cts:=[bO nw kinds]) (caps:=[.tmp 3]) aab ⟨(ht J),aT⟩ (fun x y h=>Uh _ _ _ h)))<|bC h fun r2 q_r2 h=>zo J (aD aac (Ui _ _ q_r2) ⟨(ht J),(ht J),aT⟩)<|zo J (hY J J)<|zo J (hY J J)<|bp J<|bp J<|aq<|ak<|bm ?_;cases so h;exact cJ J J J
   ·obtain⟨hx1,h⟩:=h
    refine aC<|au<|zo J (fD J J)<|aq<|ah<|bw (ht J) (dg hx1)<|dS<|ah<|ay<|au<|zo J (cH gM cr (.head _) (ht J) (ht J) (cS hx1))<|zo J (gn (r:=bX) (i:=(i1:Int)) (foff:=0) cr J J bS J (.head _) (cS hx1) (ht J))<|bp J<|aq<|au<|aF J<|zo J (bB d9 J J)<|zo J (iM gM J) ?_;refine zo J (iu (ht J) (ht J))<|aq<|c9 h J (fun h=>?_) (fun h=>?_)
    ·refine au<|zo J (cw)<|zo J (cw)<|aq<|ak ?_;refine aA (ae (ae (aA (ae ?_))));refine bm ?_;cases so h;exact cJ J J J
    ·refine bA<|ap<|aw<|av<|zo rfl (lY (cA hx1 hN1) rfl)<|aF rfl<|aQ ?_;exact bf (aS (ih1 (i1+1) ⟨cz hx1,h⟩) (bv J))
  ·obtain⟨hx,h⟩:=h
   refine aC<|au<|zo J (fD J J)<|aq<|ah<|bw (ht J) (dg hx)<|dS<|ah<|ay<|au<|zo J (lX gM cr J J J (cS hx))<|zo J (bB cr J J)<|bp J<|aq<|au<|aF J<|zo J (gJ (ht J) hI)<|aF J ?_;refine gD J J (fun hg=>dA J)<|gD J J (fun hg=>gu (bK J hg) hI)<|zo J (yO J J)<|aq<|c9 h J (fun h=>?_) (fun h=>?_)
   ·refine au<|zo J (cw)<|zo J (cw)<|aq<|ak ?_;refine aA (ae (ae (aA (ae ?_))));cases so h;exact cJ J J J
   ·refine bA<|ap<|aw<|av<|zo rfl (lY (cA hx hN) rfl)<|aF rfl<|aQ ?_;exact bf (aS (ih (i+1) ⟨cz hx,h⟩) (bv J))

end Go.Proofs.YtfhhakidodmdfaaGreatDoor

