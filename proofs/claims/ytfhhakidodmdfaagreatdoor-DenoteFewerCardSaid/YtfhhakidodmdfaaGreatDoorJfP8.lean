/- cU of this claim: P8. -/
import Derived.Test.YtfhhakidodmdfaaGreatDoorJfT
import Derived.Test.YtfhhakidodmdfaaGreatDoorJfP7
set_option linter.all false
namespace Go.Proofs.YtfhhakidodmdfaaGreatDoor
open Go
set_option maxRecDepth 100000

theorem aaN(b:Nat)(ix:OI)(r:cZ)(n:aj){R:(List (List ac))×Int}(h:jP r n=some R):dd aQ 53 [tV (aO b 0),tD aF n] (jC b r ix) (fun _:OI=>tT [bW (cR) R.1,bN R.2]) (fun _=>(jC b r ix)):=by
 refine dd.of Tryz.func53 J J J fun w0 S0=>?_;refine(show CG _ _ _ [bx (rH ee [(1,aT (ix.h 0).1 (ix.h 0).2 r.rows.length),(2,aT (ix.h 1).1 (ix.h 1).2 r.width.length)]) 96 b r,dW dU 32 (ix.h 0).1 (ix.h 0).2 r.rows,dW ca 3 (ix.h 1).1 (ix.h 1).2 r.width] _ from ?_);refine aw<|zo J (js J)<|zo J (aM (show aJ _ _ _ wq from kE))<|zo J (cy)<|av<|aw<|bP false cR 43<|zo J (aM ud)<|av<|ah<|ah<|bB h fun e q_e h=>?_
 refine da (ts:=[_,_,_,_,_,_,_,_,_,_]) mixed J J
  ⟨eH 0 J J J (de J),
  ⟨bZ 11 0 J J J (dF (ht J)),
  ⟨bZ 12 1 J J J (jY 1 rj J J J),
  ⟨bZ 13 2 J J J (dl vB J (.tail _ (.head _)) (.tail _ (.tail _ (.head _))) (ht J)),
  ⟨eH 3 J J J (c9 jH dS J J),
  ⟨bZ 15 4 J J J (bC cr J J),
  ⟨d3 14 3 16 5 J J J J (br o3 gU J (lb (ht J)) (ht J) q_e),
  ⟨bZ 17 6 J J J (bC gU J J),
  ⟨bZ 18 7 J J J (i7 i9 J),
  ⟨Qg J J (bE hI),
  aS⟩⟩⟩⟩⟩⟩⟩⟩⟩⟩ ?_
 refine ax<|ay<|ba (k:=18) J fun hN=>bL ?_;refine aR (j8 (Z:=fun ls i out l c=>(e.drop i=ls)∧gg n ls out=some R) (Of:=fun _ i out l c=>[fE cR 43 l c out,bx (rH ee [(1,aT (ix.h 0).1 (ix.h 0).2 r.rows.length),(2,aT (ix.h 1).1 (ix.h 1).2 r.width.length)]) 96 b r,dW dU 32 (ix.h 0).1 (ix.h 0).2 r.rows,dW ca 3 (ix.h 1).1 (ix.h 1).2 r.width]) (Gf:=fun _ i out l c=>[(3,bM aF n),(6,sH l c out),(18,bW (cR) e),(19,jr e),(20,bN (i:Int))]) (fun i out l c h=>?_) (fun e1 tl ih i out l c h=>?_) e 0 Ig none 0 ⟨J,h⟩) (bu J)
 ·obtain⟨hx,h⟩:=h
  refine aA<|aw<|zo J (fF J J)<|av<|ah<|bz (ht J) (dm hx)<|bv ?_;refine ai (ai (aN ?_));refine ax<|aw<|aG rfl<|bq rfl<|zo rfl (cy)<|av<|am<|jQ<|cG 6 rfl<|cG 40 rfl<|cG 4 rfl<|jR 4 rfl<|bf<|aL<|aL<|aL ?_;cases so h;exact d8 (ts:=[bW (cR) out,bN 0]) (rvs:=[.tmp 4,.tmp 5]) J J ⟨aZ J,aZ J,aS⟩ p7 J J
 ·obtain⟨hx,h⟩:=h
  refine aA<|aw<|zo J (fF J J)<|av<|ah<|bw (ht J) (dg hx)<|dP<|ah<|ay<|aw<|zo J (mz i9 dy J J J (cT hx))<|zo J (bC dy J J)<|bq J<|av<|aw<|zo J (c9 sE lM J J)<|zo J (bC kQ J J)<|aG J ?_;refine bB h fun r1 q_r1 h=>zo J (aB XX (Px _ _ q_r1) ⟨(ht J),(ht J),aS⟩)<|aG J<|zo J (gE J J)<|zo J (gE J J)<|bq J<|bq J<|av<|ah<|aw<|aG J<|zo J (s8 J)<|av<|c0 h J (fun h=>?_) (fun h=>?_)
  ·refine aw<|aG J<|zo J (aM (show aJ _ _ _ wq from kE))<|bq J<|av<|am ?_;refine ae (aD (ae (ae (aD (ae ?_)))));refine bf<|aL<|aL<|aL ?_;cases so h;exact d8 (ts:=[bW (cR) ([]),bN r1.2]) (rvs:=[.tmp 4,.tmp 5]) J J ⟨aZ J,aZ J,aS⟩ p7 J J
  ·refine dP<|aw<|aG J<|av<|c0 h J (fun h=>?_) (fun h=>?_)
   ·refine au<|aG J<|aG J<|zo J (aU (r:=cR) (ys:=[e1]) (xs:=[.tmp 36]) i9 dy J J J J J ⟨(ht J),aS⟩)<|bB h fun out1 q_out1 h=>db dy J J J J i9 J J (ht J) (ht J) q_out1 fun l1 c1=>bq J<|aP<|ap<|ax<|au<|zo rfl (lT (cx hx hN) rfl)<|aG rfl<|aP ?_;exact bg (aR (ih (i+1) out1 l1 c1 ⟨cw hx,h⟩) (bu J))
   ·refine bA<|ap<|ax<|au<|zo rfl (lT (cx hx hN) rfl)<|aG rfl<|aP ?_;exact bg (aR (ih (i+1) out l c ⟨cw hx,h⟩) (bu J))

theorem Wr(a1:hU)(rows:(List (List ac))){R:(List ac)×Int}(h:yF a1 rows=some R):aW aQ 131 [tD fG a1,bW (cR) rows] (tT [bW (af) R.1,bN R.2]):=by
 refine aW.of Tryz.func131 J J J fun w0 S0=>aw<|zo J (js J)<|zo J (aM (show aJ _ _ _ (bW (af) ([]))from kE))<|zo J (cy)<|av<|aw<|bP false af 46<|zo J (aM ud)<|av<|aw<|zo J (cy)<|av<|ah<|aw<|aG J<|zo J (i7 i9 J) ?_;refine zo J (bE hI)<|av<|ay<|ba (k:=12) J fun hN=>bL ?_;refine aR (uA (Z:=fun ls i out l c fault=>(rows.drop i=ls)∧jK a1 ls out fault=some R) (Of:=fun _ i out l c fault=>[fE af 46 l c out]) (Gf:=fun _ i out l c fault=>[(2,bM fG a1),(6,sH l c out),(7,bN fault),(12,bW (cR) rows),(13,jr rows),(14,bN (i:Int))]) (fun i out l c fault h=>?_) (fun e tl ih i out l c fault h=>?_) rows 0 If none 0 (0:Int) ⟨J,h⟩) (bu J)
 ·obtain⟨hx,h⟩:=h
  refine aA<|aw<|zo J (fF J J)<|av<|ah<|bz (ht J) (dm hx)<|bv ?_;refine ai (ai (aN ?_));refine ax<|aw<|aG rfl<|aG rfl<|bq rfl<|bq rfl<|av<|am<|jQ<|cG 6 rfl<|cG 41 rfl<|cG 4 rfl<|jR 4 rfl<|bf ?_;cases so h;exact cP J J J
 ·obtain⟨hx,h⟩:=h
  refine aA<|aw<|zo J (fF J J)<|av<|ah<|bw (ht J) (dg hx)<|dP<|ah<|ay<|aw<|zo J (mz i9 dy J J J (cT hx))<|zo J (bC dy J J)<|bq J<|av<|aw<|zo J (c9 CH vU J J)<|zo J (bC kQ J J)<|aG J ?_;refine bB h fun r q_r h=>zo J (aB Tz (Jt _ _ q_r) ⟨(ht J),(ht J),aS⟩)<|aG J<|zo J (gE J J)<|zo J (gE J J)<|aX (r:=af) (x:=iy) aI (fun _=>bk _) J fun b=>aq aI J an J (ht J) (ht J)<|aV 10 J<|bq J<|av<|ay<|aw<|aG J<|zo J (nX J)<|bq J<|av<|c0 h J (fun h=>?_) (fun h=>?_)
  ·refine au<|aG J<|bq J<|aP<|ap<|ap<|ax<|au<|zo rfl (lT (cx hx hN) rfl)<|aG rfl<|aP ?_;exact bg (aR (ih (i+1) out l c r.2 ⟨cw hx,h⟩) (bu J))
  ·refine aw<|aG J<|zo J (s8 J)<|bq J<|av<|c0 h J (fun h=>?_) (fun h=>?_)
   ·refine aw<|zo J (aM (show aJ _ _ _ (bW (af) ([]))from kE))<|zo J (cy)<|av<|am ?_;refine aD (aD (ae (ae (aD (ae ?_)))));refine bf ?_;cases so h;exact cP J J J
   ·refine aw<|zo J (c9 iu cS J J)<|zo J (bC cr J J)<|zo J (s8 J)<|bq J<|av<|c0 h J (fun h=>?_) (fun h=>?_)
    ·refine au<|aG J<|zo J (bC aI J J)<|zo J (aU (r:=af) (ys:=[r.1]) (xs:=[.tmp 37]) kC aI J J J J J ⟨(ht J),aS⟩)<|bB h fun out1 q_out1 h=>db aI J J J J kC J J (ht J) (ht J) q_out1 fun l1 c1=>bq J<|aP<|ap<|ap<|ax<|au<|zo rfl (lT (cx hx hN) rfl)<|aG rfl<|aP ?_;exact bg (aR (ih (i+1) out1 l1 c1 fault ⟨cw hx,h⟩) (bu J))
    ·refine bA<|ap<|ap<|ax<|au<|zo rfl (lT (cx hx hN) rfl)<|aG rfl<|aP ?_;exact bg (aR (ih (i+1) out l c fault ⟨cw hx,h⟩) (bu J))

theorem Wq(v:ac){R:Bool}(h:ne v=some R):aW aQ 132 [tD af v] (iO R):=by
 refine aW.of Tryz.func132 J J J fun w0 S0=>aw<|zo J (js J)<|zo J (jy)<|av<|aw<|zo J (c9 iu cS J J)<|zo J (bC cr J J)<|zo J (s8 J)<|bq J<|av<|am ?_;cases so h;exact aH J J

theorem VZ(s:(List ac))(f:(ac→Option Bool)){R:Int}(h:gH s f=some R):aW aQ 215 [bW (af) s,(dR aQ Bb mA (fun(x:ac)=>f x))] (bN R):=by
 refine aW.of Tryz.func215 J J J fun w0 S0=>aw<|zo J (cy)<|av<|ah<|aw<|aG J<|zo J (i7 kC J)<|zo J (bE hI)<|av<|ay<|ba (k:=6) J fun hN=>bL ?_;refine aR (d7 (Z:=fun ls i=>(s.drop i=ls)∧dc f ls i=some R) (Of:=fun _ i=>[]) (Gf:=fun _ i=>[(0,bW (af) s),(1,(dR aQ Bb mA (fun(x:ac)=>f x))),(7,jr s),(8,bN (i:Int))]) (fun i h=>?_) (fun e tl ih i h=>?_) s 0 ⟨J,h⟩) (bu J)
 ·obtain⟨hx,h⟩:=h
  refine aA<|aw<|zo J (fF J J)<|av<|ah<|bz (ht J) (dm hx)<|bv ?_;refine ai (ai (aN ?_));refine ax<|aw<|zo rfl (cy)<|av<|am ?_;cases so h;exact aH J J
 ·obtain⟨hx,h⟩:=h
  refine aA<|aw<|zo J (fF J J)<|av<|ah<|bw (ht J) (dg hx)<|dP<|ah<|ay<|aw<|aG J<|bq J<|av<|aw<|aG J<|aG J<|aG J<|zo J (mz kC aI J J J (cT hx)) ?_;refine zo J (bC aI J J)<|bB h fun r q_r h=>zo J (eU (args:=Bb) (res:=Ih) (f:=(fun(x:ac)=>f x)) (x:=((e):ac)) (ht J) q_r ⟨(ht J),aS⟩)<|av<|c0 h J (fun h=>?_) (fun h=>?_)
  ·refine aw<|aG J<|bq J<|av<|am ?_;refine aD (ae (ae (aD (ae ?_))));cases so h;exact aH J J
  ·refine bA<|ap<|ax<|au<|zo rfl (lT (cx hx hN) rfl)<|aG rfl<|aP ?_;exact bg (aR (ih (i+1) ⟨cw hx,h⟩) (bu J))

theorem Wp(s:(List ac))(f:(ac→Option Bool)){R:Bool}(h:dY s f=some R):aW aQ 133 [bW (af) s,(dR aQ Bb mA (fun(x:ac)=>f x))] (iO R):=by
 refine aW.of Tryz.func133 J J J fun w0 S0=>aw<|zo J (jy)<|av<|aw<|aG J<|aG J<|bB h fun r q_r h=>zo J (aB abR (VZ _ _ q_r) ⟨(ht J),(ht J),aS⟩)<|zo J (ir (ht J) hI)<|bq J<|av<|am ?_;cases so h;exact aH J J

theorem Jj(v:ac){R:ac}(h:rq v=some R):aW aQ 289 [tD af v] (tD af R):=by
 refine aW.of Tryz.func289 J J J fun w0 S0=>aw<|zo J (js J)<|aX (r:=af) (x:=iy) aI (fun _=>bk _) J fun b=>av<|aw<|zo J (c9 ml fI J J)<|zo J (bC Gx J J)<|zo J (Cx (ht J) hI (by decide))<|zo J (c9 ml fI J J)<|zo J (bC Gx J J)<|zo J (sY A1 A4 (ht J))<|zo J (bY (y:=(⟨(4:Int),((v.N).fdiv (2^(min (Int.toNat (63:Int)) IntKind.i64.bits))),(IntKind.u64.wrap v.N),[]⟩:ac)) aI qO bk (⟨_,_,_,_,_,J,oq,J,hI,⟨_,_,_,_,_,J,pC,J,(ht J),⟨_,_,_,_,_,J,Av,J,(ht J),J⟩⟩⟩))<|aq aI J an J (ht J) (ht J)<|aV 2 J<|av<|am ?_;cases so h;exact je J aI J J J

theorem VB(s:ac)(t:ac){R:ac×Int}(h:w7 s t=some R):aW aQ 290 [tD af s,tD af t] (tT [tD af R.1,bN R.2]):=by
 refine aW.of Tryz.func290 J J J fun w0 S0=>aw<|zo J (js J)<|zo J (js J)<|aX (r:=af) (x:=iy) aI (fun _=>bk _) J fun b=>zo J (cy)<|av<|aw<|zo J (c9 CI rf J J)<|zo J (bC MK J J)<|zo J (c9 CI rf J J)<|zo J (bC MK J J)<|bB h fun r q_r h=>zo J (KW Tryz.func347 (by kernel_rfl) (by kernel_rfl) (by kernel_rfl) (by kernel_rfl) (ht J) (ht J) hI q_r)<|aG J<|zo J (gE J J)<|zo J (gE J J)<|bq J<|bq J<|av ?_;refine aw<|zo J (c9 ml fI J J)<|zo J (bC Gx J J)<|zo J (sY A1 A4 (ht J))<|zo J (c9 ml fI J J)<|zo J (bC Gx J J)<|zo J (sY A1 A4 (ht J))<|aG J<|bB h fun r1 q_r1 h=>zo J (KW Tryz.func347 (by kernel_rfl) (by kernel_rfl) (by kernel_rfl) (by kernel_rfl) (ht J) (ht J) (ht J) q_r1)<|aG J<|zo J (gE J J)<|zo J (gE J J)<|bq J<|bq J<|av<|aw<|aG J<|zo J (sY A4 A1 (ht J))<|bq J<|aP ?_;refine ax<|ah<|aw<|zo rfl (c9 ml fI rfl rfl)<|zo rfl (bC Gx rfl rfl)<|aG rfl<|zo rfl (Cw (ht rfl) (ht rfl))<|zo rfl (c9 ml fI rfl rfl)<|zo rfl (bC Gx rfl rfl)<|aG rfl<|zo rfl (Cw (ht rfl) (ht rfl))<|zo rfl (Cy (ht rfl) (ht rfl))<|zo rfl (gx (ht rfl) hI)<|av<|c0 h rfl (fun h=>?_) (fun h=>?_)
 ·refine aw<|zo J (bY (y:=iy) aI qO bk (J))<|aq aI J an J (ht J) (ht J)<|zo J (cy)<|av<|am<|ae<|bj 4 J ?_;cases so h;exact bQ J J ⟨bt aI J J J,aZ J,aS⟩
 ·refine dP<|aw<|aG J<|aG J<|zo J (bY (y:=(⟨(4:Int),(IntKind.i64.wrap r1.1),r.1,[]⟩:ac)) aI qO bk (⟨_,_,_,_,_,J,oq,J,hI,⟨_,_,_,_,_,J,pC,J,(ht J),⟨_,_,_,_,_,J,Av,J,(ht J),J⟩⟩⟩))<|aq aI J an J (ht J) (ht J)<|zo J (cy)<|av<|am<|bj 4 J ?_;cases so h;exact bQ J J ⟨bt aI J J J,aZ J,aS⟩

theorem VY(s:ac)(v:ac){R:ac×Int}(h:tu s v=some R):aW aQ 217 [tD af s,tD af v] (tT [tD af R.1,bN R.2]):=by
 refine aW.of Tryz.func217 J J J fun w0 S0=>aw<|zo J (js J)<|zo J (js J)<|aX (r:=af) (x:=iy) aI (fun _=>bk _) J fun b=>zo J (cy)<|av<|ah<|ah<|bB h fun r q_r h=>bB h fun r1 q_r1 h=>?_
 refine da (ts:=[_,_,_,_,_,_,_,_]) mixed J J
  ⟨eH 2 J J J (bC aI J J),
  ⟨bZ 8 0 J J J (aU (r:=af) (ys:=[s]) (xs:=[.tmp 8]) kC aI J J J J J ⟨(ht J),aS⟩),
  ⟨bZ 9 1 J J J (aB PJ (Ei _ _ q_r) ⟨hI,(ht J),aS⟩),
  ⟨eH 3 J J J (bC aI J J),
  ⟨bZ 11 3 J J J (aU (r:=af) (ys:=[v]) (xs:=[.tmp 11]) kC aI J J J J J ⟨(ht J),aS⟩),
  ⟨bZ 12 4 J J J (aB PJ (Ei _ _ q_r1) ⟨hI,(ht J),aS⟩),
  ⟨bZ 10 2 J J J (vx J),
  ⟨bZ 13 5 J J J (vx J),
  aS⟩⟩⟩⟩⟩⟩⟩⟩ ?_
 refine ax<|ay<|aw<|aG rfl<|zo rfl (nX rfl)<|aG rfl<|eG rfl rfl (fun hg=>de J)<|eG J J (fun hg=>dx (bG J hg) hI)<|zo J (xf J J)<|bq J<|av<|c0 h J (fun h=>?_) (fun h=>?_)
 ·refine aw<|zo J (bY (y:=iy) aI qO bk (J))<|aq aI J an J (ht J) (ht J)<|zo J (cy)<|av<|am ?_;refine aD (ae ?_);refine bj 4 J ?_;cases so h;exact bQ J J ⟨bt aI J J J,aZ J,aS⟩
 ·refine aw<|aG J<|zo J (s8 J)<|aG J<|eG J J (fun hg=>de J)<|eG J J (fun hg=>ft (bG J hg) hI)<|zo J (xf J J)<|bq J<|av<|c0 h J (fun h=>?_) (fun h=>?_)
  ·refine aw<|zo J (bY (y:=iy) aI qO bk (J))<|aq aI J an J (ht J) (ht J)<|zo J (cy)<|av<|am ?_;refine aD (ae ?_);refine bj 4 J ?_;cases so h;exact bQ J J ⟨bt aI J J J,aZ J,aS⟩
  ·refine aw<|zo J (c9 iu cS J J)<|zo J (bC cr J J)<|zo J (nX J)<|bq J<|av<|c0 h J (fun h=>?_) (fun h=>?_)
   ·refine aw<|zo J (bC aI J J)<|aq aI J an J (ht J) (ht J)<|zo J (cy)<|av<|am ?_;refine aD (ae ?_);refine bj 4 J ?_;cases so h;exact bQ J J ⟨bt aI J J J,aZ J,aS⟩
   ·refine aw<|zo J (c9 iu cS J J)<|zo J (bC cr J J)<|zo J (nX J)<|bq J<|av<|c0 h J (fun h=>?_) (fun h=>?_)
    ·refine aw<|zo J (bC aI J J)<|bB h fun r2 q_r2 h=>zo J (aB Tk (Jj _ q_r2) ⟨(ht J),aS⟩)<|aq aI J an J (ht J) (ht J)<|zo J (cy)<|av<|am ?_;refine aD (ae ?_);refine bj 4 J ?_;cases so h;exact bQ J J ⟨bt aI J J J,aZ J,aS⟩
    ·refine bA<|ap<|ax<|ah<|bB h fun r3 q_r3 h=>bB h fun r4 q_r4 h=>?_
     refine qJ 6 (ts:=[tD af s,tD af v,tD af r3,tT [tD af r4.1,bN r4.2],tD af r4.1,bN r4.2]) mixed J J J
      ⟨eH 2 J J J (bC aI J J),
      ⟨eH 3 J J J (bC aI J J),
      ⟨bZ 42 1 J J J (aB Tk (Jj _ q_r3) ⟨(ht J),aS⟩),
      ⟨d3 41 0 43 2 J J J J (aB abs (VB _ _ q_r4) ⟨(ht J),(ht J),aS⟩),
      ⟨bZ 44 3 J J J (gE J J),
      ⟨bZ 44 3 J J J (gE J J),
      aS⟩⟩⟩⟩⟩⟩ ?_
     refine aq aI J an J (ht J) (ht J)<|bq J<|av<|am<|bj 4 J ?_;cases so h;exact bQ J J ⟨bt aI J J J,aZ J,aS⟩

theorem VX(s:ac){R:ac×Int}(h:zp s=some R):aW aQ 218 [tD af s] (tT [tD af R.1,bN R.2]):=by
 refine aW.of Tryz.func218 J J J fun w0 S0=>aw<|zo J (js J)<|aX (r:=af) (x:=iy) aI (fun _=>bk _) J fun b=>zo J (cy)<|av<|ah<|aw<|zo J (bC aI J J)<|zo J (aU (r:=af) (ys:=[s]) (xs:=[.tmp 6]) kC aI J J J J J ⟨(ht J),aS⟩)<|bB h fun r q_r h=>zo J (aB PJ (Ei _ _ q_r) ⟨hI,(ht J),aS⟩)<|bq J<|av<|ay<|aw<|aG J<|zo J (s8 J)<|bq J ?_;refine av<|c0 h J (fun h=>?_) (fun h=>?_)
 ·refine aw<|zo J (bY (y:=iy) aI qO bk (J))<|aG J<|aq aI J an J (ht J) (ht J)<|bq J<|av<|am ?_;refine aD (ae ?_);refine bj 2 J ?_;cases so h;exact bQ J J ⟨bt aI J J J,aZ J,aS⟩
 ·refine aw<|zo J (c9 iu cS J J)<|zo J (bC cr J J)<|zo J (nX J)<|bq J<|av<|c0 h J (fun h=>?_) (fun h=>?_)
  ·refine aw<|zo J (bC aI J J)<|aq aI J an J (ht J) (ht J)<|zo J (cy)<|av<|am ?_;refine aD (ae ?_);refine bj 2 J ?_;cases so h;exact bQ J J ⟨bt aI J J J,aZ J,aS⟩
  ·refine bA<|ap<|ax<|ah<|aw<|zo rfl (c9 CI rf rfl rfl)<|zo rfl (bC MK rfl rfl)<|zo rfl (sY A4 A1 (ht rfl))<|bB h fun r1 q_r1 h=>zo J (aB LY (BK _ q_r1) ⟨(ht J),aS⟩)<|aX (r:=af) (x:=iy) aI (fun _=>bk _) J fun b1=>aq aI J an J (ht J) (ht J)<|aV 5 J<|av<|ah<|bB h fun r2 q_r2 h=>?_
   refine da (ts:=[_,_,_,_]) mixed J J
    ⟨eH 5 J J J (bC aI J J),
    ⟨bZ 23 0 J J J (aB Tk (Jj _ q_r2) ⟨(ht J),aS⟩),
    ⟨eH 1 J J J (bC aI J J),
    ⟨d3 24 1 25 2 J J J J (Eb QS (ht J) (ht J)),
    aS⟩⟩⟩⟩ ?_
   refine ax<|c0 h rfl (fun h=>?_) (fun h=>?_)
   ·refine aw<|zo J (bC aI J J)<|aq aI J an J (ht J) (ht J)<|zo J (cy)<|av<|am<|ae<|bj 2 J ?_;cases so h;exact bQ J J ⟨bt aI J J J,aZ J,aS⟩
   ·refine dP<|aw<|zo J (bY (y:=iy) aI qO bk (J))<|aq aI J an J (ht J) (ht J)<|zo J (cy)<|av<|am<|bj 2 J ?_;cases so h;exact bQ J J ⟨bt aI J J J,aZ J,aS⟩

theorem Wo(l:(List ac)){R:ac×Int}(h:zq l=some R):aW aQ 134 [bW (af) l] (tT [tD af R.1,bN R.2]):=by
 refine aW.of Tryz.func134 J J J fun w0 S0=>aw<|aX (r:=af) (x:=iy) aI (fun _=>bk _) J fun b=>zo J (cy)<|av<|ah<|aw<|aG J<|zo J (i7 kC J)<|zo J (fU (ht J) hI)<|av<|c0 h J (fun h=>?_) (fun h=>?_)
 ·refine aw<|zo J (bY (y:=iy) aI qO bk (J))<|aq aI J an J (ht J) (ht J)<|zo J (cy)<|av<|am<|ae<|bj 2 J ?_;cases so h;exact bQ J J ⟨bt aI J J J,aZ J,aS⟩
 ·refine dP<|aw<|bB h fun r q_r h=>zo J (aB Tp (Jp q_r) trivial)<|aX (r:=af) (x:=iy) aI (fun _=>bk _) J fun b1=>aq aI J an J (ht J) (ht J)<|av<|ah<|aw<|aG J<|zo J (i7 kC J)<|zo J (bE hI)<|av<|ay<|ba (k:=14) J fun hN=>bL<|im ?_;refine aR (wd (Z:=fun ls i x s=>(l.drop i=ls)∧nk ls x s=some R) (Of:=fun _ i x s=>[bx af 46 b x,bx af 46 b1 s]) (Gf:=fun _ i x s=>[(2,tV (aO b 0)),(4,tV (aO b1 0)),(14,bW (af) l),(15,jr l),(16,bN (i:Int))]) (fun i x s h=>?_) (fun e tl ih i x s h=>?_) l 0 iy r ⟨J,h⟩) (bu J)
  ·obtain⟨hx,h⟩:=h
   refine aA<|aw<|zo J (fF J J)<|av<|ah<|bz (ht J) (dm hx)<|bv ?_;refine ai (ai (aN ?_));refine ax<|aw<|zo rfl (ce aI rfl rfl bU (.tail _ (.head _)) (ht rfl))<|bB h fun r1 q_r1 h=>zo J (aB abP (VX _ q_r1) ⟨(ht J),aS⟩)<|zo J (gE J J)<|zo J (gE J J)<|aq aI J an J (ht J) (ht J)<|bq J<|av<|am<|bj 2 J<|bf ?_;cases so h;exact bQ J J ⟨bt aI J J J,aZ J,aS⟩
  ·obtain⟨hx,h⟩:=h
   refine aA<|aw<|zo J (fF J J)<|av<|ah<|bw (ht J) (dg hx)<|dP<|ah<|ay<|aw<|zo J (mz kC aI J J J (cT hx))<|zo J (bC aI J J)<|aX (r:=af) (x:=iy) aI (fun _=>bk _) J fun b2=>aq aI J an J (ht J) (ht J)<|aV 6 J<|av<|aw<|zo J (ce aI J J bU (.tail _ (.head _)) (ht J)) ?_;refine zo J (bC aI J J)<|bB h fun r2 q_r2 h=>zo J (aB abQ (VY _ _ q_r2) ⟨(ht J),(ht J),aS⟩)<|aG J<|zo J (gE J J)<|zo J (gE J J)<|aX (r:=af) (x:=iy) aI (fun _=>bk _) J fun b3=>aq aI J an J (ht J) (ht J)<|aV 7 J<|bq J<|av<|ah<|aw<|aG J<|zo J (s8 J)<|av<|c0 h J (fun h=>?_) (fun h=>?_)
   ·refine aw<|zo J (bC aI J J)<|aG J<|aq aI J an J (ht J) (ht J)<|bq J<|av<|am ?_;refine ae (aD (ae (ae (aD (ae ?_)))));refine bj 2 J<|bf ?_;cases so h;exact bQ J J ⟨bt aI J J J,aZ J,aS⟩
   ·refine dP<|au<|zo J (bC aI J J)<|bH<|aq aI J an J (ht J) (ht J)<|aP<|ap<|ax<|au<|zo rfl (lT (cx hx hN) rfl)<|aG rfl<|aP<|bD ?_;exact bg (aR (ih (i+1) x r2.1 ⟨cw hx,h⟩) (bu J))

theorem Wn(p:(List ac))(cmp:(ac→ac→Option Int)){R:ac}(h:eX p cmp=some R):aW aQ 135 [bW (af) p,(dR aQ qK xT (fun(x:ac×ac)=>cmp x.1 x.2))] (tD af R):=by
 refine aW.of Tryz.func135 J J J fun w0 S0=>aw<|aX (r:=af) (x:=iy) aI (fun _=>bk _) J fun b=>av ?_;refine tz (Z:=gq p cmp=some R) (Of:=[bx af 46 b iy]) (Gf:=[(0,bW (af) p),(1,(dR aQ qK xT (fun(x:ac×ac)=>cmp x.1 x.2))),(4,tV (aO b 0))]) (fun h=>?_) (fun K=>?_)
 ·skip
  refine aw<|aG J<|bB h fun e q_e h=>zo J (br kC aI J (ht J) hI q_e)<|zo J (bC aI J J)<|aX (r:=af) (x:=iy) aI (fun _=>bk _) J fun b1=>aq aI J an J (ht J) (ht J)<|av<|ah<|aw<|zo J (cy)<|av<|ay<|ba (k:=0) J fun hN=>bL<|im ?_;refine aR (nE (Z:=fun ls i m=>(p.drop i=ls)∧cH cmp ls m=some R) (Of:=fun _ i m=>[bx af 46 b iy,bx af 46 b1 m]) (Gf:=fun _ i m=>[(0,bW (af) p),(1,(dR aQ qK xT (fun(x:ac×ac)=>cmp x.1 x.2))),(4,tV (aO b 0)),(5,tV (aO b1 0)),(6,bN (i:Int))]) (fun i m h=>?_) (fun e1 tl ih i m h=>?_) (p.drop (1)) 1 e ⟨J,h⟩) (bu J)
  ·obtain⟨hx,h⟩:=h
   refine aA<|ah<|aw<|aG J<|aG J<|zo J (i7 kC J)<|zo J (fF J J)<|av<|bz (ht J) (dm hx)<|bv ?_;refine ai (ai (aN ?_));refine ax<|aw<|zo rfl (ce aI rfl rfl bU (.tail _ (.head _)) (ht rfl))<|aq aI rfl an rfl (ht rfl) (ht rfl)<|aV 4 rfl<|av<|am<|bf ?_;cases so h;exact je J aI J J J
  ·obtain⟨hx,h⟩:=h
   refine aA<|ah<|aw<|aG J<|aG J<|zo J (i7 kC J)<|zo J (fF J J)<|av<|bw (ht J) (dg hx)<|dP<|ah<|ay<|ah<|bB h fun r q_r h=>?_
   refine da (ts:=[_,_,_,_,_,_,_,_]) mixed J J
    ⟨eH 1 J J J (de J),
    ⟨eH 0 J J J (de J),
    ⟨eH 6 J J J (de J),
    ⟨d3 21 1 22 2 J J J J (mz kC aI J J J (cT hx)),
    ⟨bZ 23 3 J J J (bC aI J J),
    ⟨eH 5 J J J (ce aI J J bU (.tail _ (.head _)) (ht J)),
    ⟨De 20 0 24 4 25 5 J J J J J (eU (args:=qK) (res:=Gu) (f:=(fun(x:ac×ac)=>cmp x.1 x.2)) (x:=((e1,m):ac×ac)) (ht J) q_r ⟨(ht J),(ht J),aS⟩),
    ⟨bZ 26 6 J J J (gx (ht J) hI),
    aS⟩⟩⟩⟩⟩⟩⟩⟩ ?_
   refine ax<|c0 h rfl (fun h=>?_) (fun h=>?_)
   ·refine au<|aG J<|aG J<|zo J (mz kC aI J J J (cT hx))<|zo J (bC aI J J)<|bH<|aq aI J an J (ht J) (ht J)<|aP<|ap<|ax<|au<|aG rfl<|zo rfl (lT (cx hx hN) rfl)<|bq rfl<|aP<|bD ?_;exact bg (aR (ih (i+1) e1 ⟨cw hx,h⟩) (bu J))
   ·refine bA<|ap<|ax<|au<|aG rfl<|zo rfl (lT (cx hx hN) rfl)<|bq rfl<|aP ?_;exact bg (aR (ih (i+1) m ⟨cw hx,h⟩) (bu J))
 ·skip
  refine aw<|aG J<|zo J (i7 kC J)<|zo J (gx (ht J) hI)<|av<|c0 h J (fun h=>?_) (fun h=>?_)
  ·refine au ?_;exact(nn h).elim
  ·refine bA ?_;exact cF (K h) (bu J)

theorem Wh(v:ac){R:Bool}(h:rR v=some R):aW aQ 158 [tD af v] (iO R):=by
 refine aW.of Tryz.func158 J J J fun w0 S0=>aw<|zo J (js J)<|zo J (jy)<|av<|aw<|zo J (bC aI J J)<|bB h fun r q_r h=>zo J (aB LZ (BL _ q_r) ⟨(ht J),aS⟩)<|zo J (s8 J)<|bq J<|av<|am ?_;cases so h;exact aH J J

theorem VV(s:(List ac))(f:(ac→Option Bool)){R:Int}(h:kR s f=some R):aW aQ 242 [bW (af) s,(dR aQ Bb mA (fun(x:ac)=>f x))] (bN R):=by
 refine aW.of Tryz.func242 J J J fun w0 S0=>aw<|zo J (cy)<|av<|ah<|aw<|aG J<|zo J (i7 jf J)<|zo J (bE hI)<|av<|ay<|ba (k:=6) J fun hN=>bL ?_;refine aR (d7 (Z:=fun ls i=>(s.drop i=ls)∧cJ f ls i=some R) (Of:=fun _ i=>[]) (Gf:=fun _ i=>[(0,bW (af) s),(1,(dR aQ Bb mA (fun(x:ac)=>f x))),(7,jr s),(8,bN (i:Int))]) (fun i h=>?_) (fun e tl ih i h=>?_) s 0 ⟨J,h⟩) (bu J)
 ·obtain⟨hx,h⟩:=h
  refine aA<|aw<|zo J (fF J J)<|av<|ah<|bz (ht J) (dm hx)<|bv ?_;refine ai (ai (aN ?_));refine ax<|aw<|zo rfl (cy)<|av<|am ?_;cases so h;exact aH J J
 ·obtain⟨hx,h⟩:=h
  refine aA<|aw<|zo J (fF J J)<|av<|ah<|bw (ht J) (dg hx)<|dP<|ah<|ay<|aw<|aG J<|bq J<|av<|aw<|aG J<|aG J<|aG J<|zo J (mz jf aI J J J (cT hx)) ?_;refine zo J (bC aI J J)<|bB h fun r q_r h=>zo J (eU (args:=Bb) (res:=Ih) (f:=(fun(x:ac)=>f x)) (x:=((e):ac)) (ht J) q_r ⟨(ht J),aS⟩)<|av<|c0 h J (fun h=>?_) (fun h=>?_)
  ·refine aw<|aG J<|bq J<|av<|am ?_;refine aD (ae (ae (aD (ae ?_))));cases so h;exact aH J J
  ·refine bA<|ap<|ax<|au<|zo rfl (lT (cx hx hN) rfl)<|aG rfl<|aP ?_;exact bg (aR (ih (i+1) ⟨cw hx,h⟩) (bu J))

theorem Wg(s:(List ac))(f:(ac→Option Bool)){R:Bool}(h:gu s f=some R):aW aQ 159 [bW (af) s,(dR aQ Bb mA (fun(x:ac)=>f x))] (iO R):=by
 refine aW.of Tryz.func159 J J J fun w0 S0=>aw<|zo J (jy)<|av<|aw<|aG J<|aG J<|bB h fun r q_r h=>zo J (aB abN (VV _ _ q_r) ⟨(ht J),(ht J),aS⟩)<|zo J (ir (ht J) hI)<|bq J<|av<|am ?_;cases so h;exact aH J J

theorem Jf(r:(List ac)){R:Bool}(h:qX r=some R):aW aQ 94 [bW (af) r] (iO R):=by
 refine aW.of Tryz.func94 J J J fun w0 S0=>aw<|zo J (jy)<|av<|aw<|zo J (aM (show aJ _ _ _ ((dR aQ Bb mA (fun(x:ac)=>rR x)))from(zJ acp fun x y h=>Wh _ h)))<|av<|aw<|aG J<|zo J (i7 jf J)<|zo J (mY (ht J) hI)<|aG J<|bB h fun t q_t h=>dN J J (fun hg=>de J)<|dN J J (fun hg=>de J) ?_
 obtain⟨r1,h1t,h0t⟩:=og q_t
 have q_r1g:=fun hb=>(h1t hb).1
 refine dN J J (fun hg=>aB aco (Wg _ _ (q_r1g hg)) ⟨(bG J hg),(bG J hg),aS⟩)<|dN J J (fun hg=>fj (bG J hg))<|zo J (eT (ht J) (fun hb=>(bG J hb)) (fun hb=>(h1t hb).2) h0t)<|bq J<|av<|am ?_;cases so h;exact aH J J

end Go.Proofs.YtfhhakidodmdfaaGreatDoor

