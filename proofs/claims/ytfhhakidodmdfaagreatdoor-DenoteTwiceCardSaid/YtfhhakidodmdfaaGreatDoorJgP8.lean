/- cP of this claim: P8. -/
import Derived.Test.YtfhhakidodmdfaaGreatDoorJgT
import Derived.Test.YtfhhakidodmdfaaGreatDoorJgP7
set_option linter.all false
namespace Go.Proofs.YtfhhakidodmdfaaGreatDoor
open Go
set_option maxRecDepth 100000

theorem aag(b:Nat)(ix:OI)(r:cS)(n:aj){R:(List (List ac))×Int}(h:jB r n=some R):cX aQ 53 [tV (aN b 0),tD aF n] (jr b r ix) (fun _:OI=>tT [ca (cY) R.1,bM R.2]) (fun _=>(jr b r ix)):=by
 refine cX.of Tryz.func53 J J J fun w0 S0=>?_;refine(show CG _ _ _ [bx (rH ea [(1,aR (ix.h 0).1 (ix.h 0).2 r.rows.length),(2,aR (ix.h 1).1 (ix.h 1).2 r.width.length)]) 96 b r,dT dO 32 (ix.h 0).1 (ix.h 0).2 r.rows,dT cd 3 (ix.h 1).1 (ix.h 1).2 r.width] _ from ?_);refine aw<|zo J (jm J)<|zo J (aM (show aI _ _ _ uN from jQ))<|zo J (cD)<|av<|aw<|bQ false cY 43<|zo J (aM tJ)<|av<|ah<|ah<|bC h fun e q_e h=>?_
 refine c9 (ts:=[_,_,_,_,_,_,_,_,_,_]) mixed J J
  ⟨eM 0 J J J (dl J),
  ⟨bY 11 0 J J J (dB (ht J)),
  ⟨bY 12 1 J J J (jN 1 qV J J J),
  ⟨bY 13 2 J J J (dd vb J (.tail _ (.head _)) (.tail _ (.tail _ (.head _))) (ht J)),
  ⟨eM 3 J J J (df ju dN J J),
  ⟨bY 15 4 J J J (bB cx J J),
  ⟨d8 14 3 16 5 J J J J (br oA gF J (kz (ht J)) (ht J) q_e),
  ⟨bY 17 6 J J J (bB gF J J),
  ⟨bY 18 7 J J J (jg jF J),
  ⟨Pv J J (bI hI),
  aT⟩⟩⟩⟩⟩⟩⟩⟩⟩⟩ ?_
 refine ax<|aA<|be (k:=18) J fun hN=>bL ?_;refine aU (jW (Z:=fun ls i out l c=>(e.drop i=ls)∧fT n ls out=some R) (Of:=fun _ i out l c=>[fj cY 43 l c out,bx (rH ea [(1,aR (ix.h 0).1 (ix.h 0).2 r.rows.length),(2,aR (ix.h 1).1 (ix.h 1).2 r.width.length)]) 96 b r,dT dO 32 (ix.h 0).1 (ix.h 0).2 r.rows,dT cd 3 (ix.h 1).1 (ix.h 1).2 r.width]) (Gf:=fun _ i out l c=>[(3,bK aF n),(6,sb l c out),(18,ca (cY) e),(19,jz e),(20,bM (i:Int))]) (fun i out l c h=>?_) (fun e1 tl ih i out l c h=>?_) e 0 HR none 0 ⟨J,h⟩) (bu J)
 ·obtain⟨hx,h⟩:=h
  refine aB<|aw<|zo J (fM J J)<|av<|ah<|bz (ht J) (du hx)<|bv ?_;refine ai (ai (aO ?_));refine ax<|aw<|aG rfl<|bp rfl<|zo rfl (cD)<|av<|am<|jD<|cE 6 rfl<|cE 40 rfl<|cE 4 rfl<|jE 4 rfl<|ba<|aK<|aK<|aK ?_;cases so h;exact d6 (ts:=[ca (cY) out,bM 0]) (rvs:=[.tmp 4,.tmp 5]) J J ⟨aZ J,aZ J,aT⟩ pS J J
 ·obtain⟨hx,h⟩:=h
  refine aB<|aw<|zo J (fM J J)<|av<|ah<|bw (ht J) (di hx)<|dS<|ah<|aA<|aw<|zo J (my jF dW J J J (da hx))<|zo J (bB dW J J)<|bp J<|av<|aw<|zo J (df uV ol J J)<|zo J (bB j3 J J)<|aG J ?_;refine bC h fun r1 q_r1 h=>zo J (aC Xe (OT _ _ q_r1) ⟨(ht J),(ht J),aT⟩)<|aG J<|zo J (gp J J)<|zo J (gp J J)<|bp J<|bp J<|av<|ah<|aw<|aG J<|zo J (s4 J)<|av<|cU h J (fun h=>?_) (fun h=>?_)
  ·refine aw<|aG J<|zo J (aM (show aI _ _ _ uN from jQ))<|bp J<|av<|am ?_;refine ae (aD (ae (ae (aD (ae ?_)))));refine ba<|aK<|aK<|aK ?_;cases so h;exact d6 (ts:=[ca (cY) ([]),bM r1.2]) (rvs:=[.tmp 4,.tmp 5]) J J ⟨aZ J,aZ J,aT⟩ pS J J
  ·refine dS<|aw<|aG J<|av<|cU h J (fun h=>?_) (fun h=>?_)
   ·refine au<|aG J<|aG J<|zo J (aS (r:=cY) (ys:=[e1]) (xs:=[.tmp 36]) jF dW J J J J J ⟨(ht J),aT⟩)<|bC h fun out1 q_out1 h=>cT dW J J J J jF J J (ht J) (ht J) q_out1 fun l1 c1=>bp J<|aP<|aq<|ax<|au<|zo rfl (mz (cM hx hN) rfl)<|aG rfl<|aP ?_;exact bm (aU (ih (i+1) out1 l1 c1 ⟨cL hx,h⟩) (bu J))
   ·refine bA<|aq<|ax<|au<|zo rfl (mz (cM hx hN) rfl)<|aG rfl<|aP ?_;exact bm (aU (ih (i+1) out l c ⟨cL hx,h⟩) (bu J))

theorem VN(a1:gS)(rows:(List (List ac))){R:(List ac)×Int}(h:ya a1 rows=some R):aX aQ 131 [tD fm a1,ca (cY) rows] (tT [ca (af) R.1,bM R.2]):=by
 refine aX.of Tryz.func131 J J J fun w0 S0=>aw<|zo J (jm J)<|zo J (aM (show aI _ _ _ (ca (af) ([]))from jQ))<|zo J (cD)<|av<|aw<|bQ false af 46<|zo J (aM tJ)<|av<|aw<|zo J (cD)<|av<|ah<|aw<|aG J<|zo J (jg jF J) ?_;refine zo J (bI hI)<|av<|aA<|be (k:=12) J fun hN=>bL ?_;refine aU (ub (Z:=fun ls i out l c fault=>(rows.drop i=ls)∧jx a1 ls out fault=some R) (Of:=fun _ i out l c fault=>[fj af 46 l c out]) (Gf:=fun _ i out l c fault=>[(2,bK fm a1),(6,sb l c out),(7,bM fault),(12,ca (cY) rows),(13,jz rows),(14,bM (i:Int))]) (fun i out l c fault h=>?_) (fun e tl ih i out l c fault h=>?_) rows 0 HQ none 0 (0:Int) ⟨J,h⟩) (bu J)
 ·obtain⟨hx,h⟩:=h
  refine aB<|aw<|zo J (fM J J)<|av<|ah<|bz (ht J) (du hx)<|bv ?_;refine ai (ai (aO ?_));refine ax<|aw<|aG rfl<|aG rfl<|bp rfl<|bp rfl<|av<|am<|jD<|cE 6 rfl<|cE 41 rfl<|cE 4 rfl<|jE 4 rfl<|ba ?_;cases so h;exact cC J J J
 ·obtain⟨hx,h⟩:=h
  refine aB<|aw<|zo J (fM J J)<|av<|ah<|bw (ht J) (di hx)<|dS<|ah<|aA<|aw<|zo J (my jF dW J J J (da hx))<|zo J (bB dW J J)<|bp J<|av<|aw<|zo J (df Co vx J J)<|zo J (bB j3 J J)<|aG J ?_;refine bC h fun r q_r h=>zo J (aC SQ (I6 _ _ q_r) ⟨(ht J),(ht J),aT⟩)<|aG J<|zo J (gp J J)<|zo J (gp J J)<|aW (r:=af) (x:=ig) aH (fun _=>bj _) J fun b=>ap aH J an J (ht J) (ht J)<|aV 10 J<|bp J<|av<|aA<|aw<|aG J<|zo J (nI J)<|bp J<|av<|cU h J (fun h=>?_) (fun h=>?_)
  ·refine au<|aG J<|bp J<|aP<|aq<|aq<|ax<|au<|zo rfl (mz (cM hx hN) rfl)<|aG rfl<|aP ?_;exact bm (aU (ih (i+1) out l c r.2 ⟨cL hx,h⟩) (bu J))
  ·refine aw<|aG J<|zo J (s4 J)<|bp J<|av<|cU h J (fun h=>?_) (fun h=>?_)
   ·refine aw<|zo J (aM (show aI _ _ _ (ca (af) ([]))from jQ))<|zo J (cD)<|av<|am ?_;refine aD (aD (ae (ae (aD (ae ?_)))));refine ba ?_;cases so h;exact cC J J J
   ·refine aw<|zo J (df hZ cQ J J)<|zo J (bB cx J J)<|zo J (s4 J)<|bp J<|av<|cU h J (fun h=>?_) (fun h=>?_)
    ·refine au<|aG J<|zo J (bB aH J J)<|zo J (aS (r:=af) (ys:=[r.1]) (xs:=[.tmp 37]) ki aH J J J J J ⟨(ht J),aT⟩)<|bC h fun out1 q_out1 h=>cT aH J J J J ki J J (ht J) (ht J) q_out1 fun l1 c1=>bp J<|aP<|aq<|aq<|ax<|au<|zo rfl (mz (cM hx hN) rfl)<|aG rfl<|aP ?_;exact bm (aU (ih (i+1) out1 l1 c1 fault ⟨cL hx,h⟩) (bu J))
    ·refine bA<|aq<|aq<|ax<|au<|zo rfl (mz (cM hx hN) rfl)<|aG rfl<|aP ?_;exact bm (aU (ih (i+1) out l c fault ⟨cL hx,h⟩) (bu J))

theorem VM(v:ac){R:Bool}(h:mX v=some R):aX aQ 132 [tD af v] (iR R):=by
 refine aX.of Tryz.func132 J J J fun w0 S0=>aw<|zo J (jm J)<|zo J (jL)<|av<|aw<|zo J (df hZ cQ J J)<|zo J (bB cx J J)<|zo J (s4 J)<|bp J<|av<|am ?_;cases so h;exact aJ J J

theorem Vm(s:(List ac))(f:(ac→Option Bool)){R:Int}(h:gr s f=some R):aX aQ 215 [ca (af) s,(dX aQ AP nH (fun(x:ac)=>f x))] (bM R):=by
 refine aX.of Tryz.func215 J J J fun w0 S0=>aw<|zo J (cD)<|av<|ah<|aw<|aG J<|zo J (jg ki J)<|zo J (bI hI)<|av<|aA<|be (k:=6) J fun hN=>bL ?_;refine aU (eI (Z:=fun ls i=>(s.drop i=ls)∧cV f ls i=some R) (Of:=fun _ i=>[]) (Gf:=fun _ i=>[(0,ca (af) s),(1,(dX aQ AP nH (fun(x:ac)=>f x))),(7,jz s),(8,bM (i:Int))]) (fun i h=>?_) (fun e tl ih i h=>?_) s 0 ⟨J,h⟩) (bu J)
 ·obtain⟨hx,h⟩:=h
  refine aB<|aw<|zo J (fM J J)<|av<|ah<|bz (ht J) (du hx)<|bv ?_;refine ai (ai (aO ?_));refine ax<|aw<|zo rfl (cD)<|av<|am ?_;cases so h;exact aJ J J
 ·obtain⟨hx,h⟩:=h
  refine aB<|aw<|zo J (fM J J)<|av<|ah<|bw (ht J) (di hx)<|dS<|ah<|aA<|aw<|aG J<|bp J<|av<|aw<|aG J<|aG J<|aG J<|zo J (my ki aH J J J (da hx)) ?_;refine zo J (bB aH J J)<|bC h fun r q_r h=>zo J (gZ (args:=AP) (res:=HS) (f:=(fun(x:ac)=>f x)) (x:=((e):ac)) (ht J) q_r ⟨(ht J),aT⟩)<|av<|cU h J (fun h=>?_) (fun h=>?_)
  ·refine aw<|aG J<|bp J<|av<|am ?_;refine aD (ae (ae (aD (ae ?_))));cases so h;exact aJ J J
  ·refine bA<|aq<|ax<|au<|zo rfl (mz (cM hx hN) rfl)<|aG rfl<|aP ?_;exact bm (aU (ih (i+1) ⟨cL hx,h⟩) (bu J))

theorem VL(s:(List ac))(f:(ac→Option Bool)){R:Bool}(h:dV s f=some R):aX aQ 133 [ca (af) s,(dX aQ AP nH (fun(x:ac)=>f x))] (iR R):=by
 refine aX.of Tryz.func133 J J J fun w0 S0=>aw<|zo J (jL)<|av<|aw<|aG J<|aG J<|bC h fun r q_r h=>zo J (aC abk (Vm _ _ q_r) ⟨(ht J),(ht J),aT⟩)<|zo J (jq (ht J) hI)<|bp J<|av<|am ?_;cases so h;exact aJ J J

theorem IW(v:ac){R:ac}(h:q7 v=some R):aX aQ 289 [tD af v] (tD af R):=by
 refine aX.of Tryz.func289 J J J fun w0 S0=>aw<|zo J (jm J)<|aW (r:=af) (x:=ig) aH (fun _=>bj _) J fun b=>av<|aw<|zo J (df lY ft J J)<|zo J (bB F8 J J)<|zo J (Cg (ht J) hI (by decide))<|zo J (df lY ft J J)<|zo J (bB F8 J J)<|zo J (sC AD AF (ht J))<|zo J (bU (y:=(⟨(4:Int),((v.N).fdiv (2^(min (Int.toNat (63:Int)) IntKind.i64.bits))),(IntKind.u64.wrap v.N),[]⟩:ac)) aH qk bj (⟨_,_,_,_,_,J,mD,J,hI,⟨_,_,_,_,_,J,pp,J,(ht J),⟨_,_,_,_,_,J,zY,J,(ht J),J⟩⟩⟩))<|ap aH J an J (ht J) (ht J)<|aV 2 J<|av<|am ?_;cases so h;exact iX J aH J J J

theorem UY(s:ac)(t:ac){R:ac×Int}(h:wy s t=some R):aX aQ 290 [tD af s,tD af t] (tT [tD af R.1,bM R.2]):=by
 refine aX.of Tryz.func290 J J J fun w0 S0=>aw<|zo J (jm J)<|zo J (jm J)<|aW (r:=af) (x:=ig) aH (fun _=>bj _) J fun b=>zo J (cD)<|av<|aw<|zo J (df Cp qS J J)<|zo J (bB Mc J J)<|zo J (df Cp qS J J)<|zo J (bB Mc J J)<|bC h fun r q_r h=>zo J (Kw Tryz.func347 (by kernel_rfl) (by kernel_rfl) (by kernel_rfl) (by kernel_rfl) (ht J) (ht J) hI q_r)<|aG J<|zo J (gp J J)<|zo J (gp J J)<|bp J<|bp J<|av ?_;refine aw<|zo J (df lY ft J J)<|zo J (bB F8 J J)<|zo J (sC AD AF (ht J))<|zo J (df lY ft J J)<|zo J (bB F8 J J)<|zo J (sC AD AF (ht J))<|aG J<|bC h fun r1 q_r1 h=>zo J (Kw Tryz.func347 (by kernel_rfl) (by kernel_rfl) (by kernel_rfl) (by kernel_rfl) (ht J) (ht J) (ht J) q_r1)<|aG J<|zo J (gp J J)<|zo J (gp J J)<|bp J<|bp J<|av<|aw<|aG J<|zo J (sC AF AD (ht J))<|bp J<|aP ?_;refine ax<|ah<|aw<|zo rfl (df lY ft rfl rfl)<|zo rfl (bB F8 rfl rfl)<|aG rfl<|zo rfl (Cf (ht rfl) (ht rfl))<|zo rfl (df lY ft rfl rfl)<|zo rfl (bB F8 rfl rfl)<|aG rfl<|zo rfl (Cf (ht rfl) (ht rfl))<|zo rfl (Ci (ht rfl) (ht rfl))<|zo rfl (gi (ht rfl) hI)<|av<|cU h rfl (fun h=>?_) (fun h=>?_)
 ·refine aw<|zo J (bU (y:=ig) aH qk bj (J))<|ap aH J an J (ht J) (ht J)<|zo J (cD)<|av<|am<|ae<|bk 4 J ?_;cases so h;exact bR J J ⟨bq aH J J J,aZ J,aT⟩
 ·refine dS<|aw<|aG J<|aG J<|zo J (bU (y:=(⟨(4:Int),(IntKind.i64.wrap r1.1),r.1,[]⟩:ac)) aH qk bj (⟨_,_,_,_,_,J,mD,J,hI,⟨_,_,_,_,_,J,pp,J,(ht J),⟨_,_,_,_,_,J,zY,J,(ht J),J⟩⟩⟩))<|ap aH J an J (ht J) (ht J)<|zo J (cD)<|av<|am<|bk 4 J ?_;cases so h;exact bR J J ⟨bq aH J J J,aZ J,aT⟩

theorem Vl(s:ac)(v:ac){R:ac×Int}(h:sU s v=some R):aX aQ 217 [tD af s,tD af v] (tT [tD af R.1,bM R.2]):=by
 refine aX.of Tryz.func217 J J J fun w0 S0=>aw<|zo J (jm J)<|zo J (jm J)<|aW (r:=af) (x:=ig) aH (fun _=>bj _) J fun b=>zo J (cD)<|av<|ah<|ah<|bC h fun r q_r h=>bC h fun r1 q_r1 h=>?_
 refine c9 (ts:=[_,_,_,_,_,_,_,_]) mixed J J
  ⟨eM 2 J J J (bB aH J J),
  ⟨bY 8 0 J J J (aS (r:=af) (ys:=[s]) (xs:=[.tmp 8]) ki aH J J J J J ⟨(ht J),aT⟩),
  ⟨bY 9 1 J J J (aC O8 (DL _ _ q_r) ⟨hI,(ht J),aT⟩),
  ⟨eM 3 J J J (bB aH J J),
  ⟨bY 11 3 J J J (aS (r:=af) (ys:=[v]) (xs:=[.tmp 11]) ki aH J J J J J ⟨(ht J),aT⟩),
  ⟨bY 12 4 J J J (aC O8 (DL _ _ q_r1) ⟨hI,(ht J),aT⟩),
  ⟨bY 10 2 J J J (u8 J),
  ⟨bY 13 5 J J J (u8 J),
  aT⟩⟩⟩⟩⟩⟩⟩⟩ ?_
 refine ax<|aA<|aw<|aG rfl<|zo rfl (nI rfl)<|aG rfl<|gz rfl rfl (fun hg=>dl J)<|gz J J (fun hg=>dH (bN J hg) hI)<|zo J (xo J J)<|bp J<|av<|cU h J (fun h=>?_) (fun h=>?_)
 ·refine aw<|zo J (bU (y:=ig) aH qk bj (J))<|ap aH J an J (ht J) (ht J)<|zo J (cD)<|av<|am ?_;refine aD (ae ?_);refine bk 4 J ?_;cases so h;exact bR J J ⟨bq aH J J J,aZ J,aT⟩
 ·refine aw<|aG J<|zo J (s4 J)<|aG J<|gz J J (fun hg=>dl J)<|gz J J (fun hg=>fe (bN J hg) hI)<|zo J (xo J J)<|bp J<|av<|cU h J (fun h=>?_) (fun h=>?_)
  ·refine aw<|zo J (bU (y:=ig) aH qk bj (J))<|ap aH J an J (ht J) (ht J)<|zo J (cD)<|av<|am ?_;refine aD (ae ?_);refine bk 4 J ?_;cases so h;exact bR J J ⟨bq aH J J J,aZ J,aT⟩
  ·refine aw<|zo J (df hZ cQ J J)<|zo J (bB cx J J)<|zo J (nI J)<|bp J<|av<|cU h J (fun h=>?_) (fun h=>?_)
   ·refine aw<|zo J (bB aH J J)<|ap aH J an J (ht J) (ht J)<|zo J (cD)<|av<|am ?_;refine aD (ae ?_);refine bk 4 J ?_;cases so h;exact bR J J ⟨bq aH J J J,aZ J,aT⟩
   ·refine aw<|zo J (df hZ cQ J J)<|zo J (bB cx J J)<|zo J (nI J)<|bp J<|av<|cU h J (fun h=>?_) (fun h=>?_)
    ·refine aw<|zo J (bB aH J J)<|bC h fun r2 q_r2 h=>zo J (aC SE (IW _ q_r2) ⟨(ht J),aT⟩)<|ap aH J an J (ht J) (ht J)<|zo J (cD)<|av<|am ?_;refine aD (ae ?_);refine bk 4 J ?_;cases so h;exact bR J J ⟨bq aH J J J,aZ J,aT⟩
    ·refine bA<|aq<|ax<|ah<|bC h fun r3 q_r3 h=>bC h fun r4 q_r4 h=>?_
     refine qw 6 (ts:=[tD af s,tD af v,tD af r3,tT [tD af r4.1,bM r4.2],tD af r4.1,bM r4.2]) mixed J J J
      ⟨eM 2 J J J (bB aH J J),
      ⟨eM 3 J J J (bB aH J J),
      ⟨bY 42 1 J J J (aC SE (IW _ q_r3) ⟨(ht J),aT⟩),
      ⟨d8 41 0 43 2 J J J J (aC aaV (UY _ _ q_r4) ⟨(ht J),(ht J),aT⟩),
      ⟨bY 44 3 J J J (gp J J),
      ⟨bY 44 3 J J J (gp J J),
      aT⟩⟩⟩⟩⟩⟩ ?_
     refine ap aH J an J (ht J) (ht J)<|bp J<|av<|am<|bk 4 J ?_;cases so h;exact bR J J ⟨bq aH J J J,aZ J,aT⟩

theorem Vk(s:ac){R:ac×Int}(h:yS s=some R):aX aQ 218 [tD af s] (tT [tD af R.1,bM R.2]):=by
 refine aX.of Tryz.func218 J J J fun w0 S0=>aw<|zo J (jm J)<|aW (r:=af) (x:=ig) aH (fun _=>bj _) J fun b=>zo J (cD)<|av<|ah<|aw<|zo J (bB aH J J)<|zo J (aS (r:=af) (ys:=[s]) (xs:=[.tmp 6]) ki aH J J J J J ⟨(ht J),aT⟩)<|bC h fun r q_r h=>zo J (aC O8 (DL _ _ q_r) ⟨hI,(ht J),aT⟩)<|bp J<|av<|aA<|aw<|aG J<|zo J (s4 J)<|bp J ?_;refine av<|cU h J (fun h=>?_) (fun h=>?_)
 ·refine aw<|zo J (bU (y:=ig) aH qk bj (J))<|aG J<|ap aH J an J (ht J) (ht J)<|bp J<|av<|am ?_;refine aD (ae ?_);refine bk 2 J ?_;cases so h;exact bR J J ⟨bq aH J J J,aZ J,aT⟩
 ·refine aw<|zo J (df hZ cQ J J)<|zo J (bB cx J J)<|zo J (nI J)<|bp J<|av<|cU h J (fun h=>?_) (fun h=>?_)
  ·refine aw<|zo J (bB aH J J)<|ap aH J an J (ht J) (ht J)<|zo J (cD)<|av<|am ?_;refine aD (ae ?_);refine bk 2 J ?_;cases so h;exact bR J J ⟨bq aH J J J,aZ J,aT⟩
  ·refine bA<|aq<|ax<|ah<|aw<|zo rfl (df Cp qS rfl rfl)<|zo rfl (bB Mc rfl rfl)<|zo rfl (sC AF AD (ht rfl))<|bC h fun r1 q_r1 h=>zo J (aC Ln (Bt _ q_r1) ⟨(ht J),aT⟩)<|aW (r:=af) (x:=ig) aH (fun _=>bj _) J fun b1=>ap aH J an J (ht J) (ht J)<|aV 5 J<|av<|ah<|bC h fun r2 q_r2 h=>?_
   refine c9 (ts:=[_,_,_,_]) mixed J J
    ⟨eM 5 J J J (bB aH J J),
    ⟨bY 23 0 J J J (aC SE (IW _ q_r2) ⟨(ht J),aT⟩),
    ⟨eM 1 J J J (bB aH J J),
    ⟨d8 24 1 25 2 J J J J (DD Qh (ht J) (ht J)),
    aT⟩⟩⟩⟩ ?_
   refine ax<|cU h rfl (fun h=>?_) (fun h=>?_)
   ·refine aw<|zo J (bB aH J J)<|ap aH J an J (ht J) (ht J)<|zo J (cD)<|av<|am<|ae<|bk 2 J ?_;cases so h;exact bR J J ⟨bq aH J J J,aZ J,aT⟩
   ·refine dS<|aw<|zo J (bU (y:=ig) aH qk bj (J))<|ap aH J an J (ht J) (ht J)<|zo J (cD)<|av<|am<|bk 2 J ?_;cases so h;exact bR J J ⟨bq aH J J J,aZ J,aT⟩

theorem VK(l:(List ac)){R:ac×Int}(h:yT l=some R):aX aQ 134 [ca (af) l] (tT [tD af R.1,bM R.2]):=by
 refine aX.of Tryz.func134 J J J fun w0 S0=>aw<|aW (r:=af) (x:=ig) aH (fun _=>bj _) J fun b=>zo J (cD)<|av<|ah<|aw<|aG J<|zo J (jg ki J)<|zo J (gv (ht J) hI)<|av<|cU h J (fun h=>?_) (fun h=>?_)
 ·refine aw<|zo J (bU (y:=ig) aH qk bj (J))<|ap aH J an J (ht J) (ht J)<|zo J (cD)<|av<|am<|ae<|bk 2 J ?_;cases so h;exact bR J J ⟨bq aH J J J,aZ J,aT⟩
 ·refine dS<|aw<|bC h fun r q_r h=>zo J (aC SK (I1 q_r) trivial)<|aW (r:=af) (x:=ig) aH (fun _=>bj _) J fun b1=>ap aH J an J (ht J) (ht J)<|av<|ah<|aw<|aG J<|zo J (jg ki J)<|zo J (bI hI)<|av<|aA<|be (k:=14) J fun hN=>bL<|hU ?_;refine aU (vE (Z:=fun ls i x s=>(l.drop i=ls)∧m6 ls x s=some R) (Of:=fun _ i x s=>[bx af 46 b x,bx af 46 b1 s]) (Gf:=fun _ i x s=>[(2,tV (aN b 0)),(4,tV (aN b1 0)),(14,ca (af) l),(15,jz l),(16,bM (i:Int))]) (fun i x s h=>?_) (fun e tl ih i x s h=>?_) l 0 ig r ⟨J,h⟩) (bu J)
  ·obtain⟨hx,h⟩:=h
   refine aB<|aw<|zo J (fM J J)<|av<|ah<|bz (ht J) (du hx)<|bv ?_;refine ai (ai (aO ?_));refine ax<|aw<|zo rfl (cg aH rfl rfl bT (.tail _ (.head _)) (ht rfl))<|bC h fun r1 q_r1 h=>zo J (aC abi (Vk _ q_r1) ⟨(ht J),aT⟩)<|zo J (gp J J)<|zo J (gp J J)<|ap aH J an J (ht J) (ht J)<|bp J<|av<|am<|bk 2 J<|ba ?_;cases so h;exact bR J J ⟨bq aH J J J,aZ J,aT⟩
  ·obtain⟨hx,h⟩:=h
   refine aB<|aw<|zo J (fM J J)<|av<|ah<|bw (ht J) (di hx)<|dS<|ah<|aA<|aw<|zo J (my ki aH J J J (da hx))<|zo J (bB aH J J)<|aW (r:=af) (x:=ig) aH (fun _=>bj _) J fun b2=>ap aH J an J (ht J) (ht J)<|aV 6 J<|av<|aw<|zo J (cg aH J J bT (.tail _ (.head _)) (ht J)) ?_;refine zo J (bB aH J J)<|bC h fun r2 q_r2 h=>zo J (aC abj (Vl _ _ q_r2) ⟨(ht J),(ht J),aT⟩)<|aG J<|zo J (gp J J)<|zo J (gp J J)<|aW (r:=af) (x:=ig) aH (fun _=>bj _) J fun b3=>ap aH J an J (ht J) (ht J)<|aV 7 J<|bp J<|av<|ah<|aw<|aG J<|zo J (s4 J)<|av<|cU h J (fun h=>?_) (fun h=>?_)
   ·refine aw<|zo J (bB aH J J)<|aG J<|ap aH J an J (ht J) (ht J)<|bp J<|av<|am ?_;refine ae (aD (ae (ae (aD (ae ?_)))));refine bk 2 J<|ba ?_;cases so h;exact bR J J ⟨bq aH J J J,aZ J,aT⟩
   ·refine dS<|au<|zo J (bB aH J J)<|bF<|ap aH J an J (ht J) (ht J)<|aP<|aq<|ax<|au<|zo rfl (mz (cM hx hN) rfl)<|aG rfl<|aP<|bD ?_;exact bm (aU (ih (i+1) x r2.1 ⟨cL hx,h⟩) (bu J))

theorem VJ(p:(List ac))(cmp:(ac→ac→Option Int)){R:ac}(h:eN p cmp=some R):aX aQ 135 [ca (af) p,(dX aQ qx y6 (fun(x:ac×ac)=>cmp x.1 x.2))] (tD af R):=by
 refine aX.of Tryz.func135 J J J fun w0 S0=>aw<|aW (r:=af) (x:=ig) aH (fun _=>bj _) J fun b=>av ?_;refine sX (Z:=ga p cmp=some R) (Of:=[bx af 46 b ig]) (Gf:=[(0,ca (af) p),(1,(dX aQ qx y6 (fun(x:ac×ac)=>cmp x.1 x.2))),(4,tV (aN b 0))]) (fun h=>?_) (fun K=>?_)
 ·skip
  refine aw<|aG J<|bC h fun e q_e h=>zo J (br ki aH J (ht J) hI q_e)<|zo J (bB aH J J)<|aW (r:=af) (x:=ig) aH (fun _=>bj _) J fun b1=>ap aH J an J (ht J) (ht J)<|av<|ah<|aw<|zo J (cD)<|av<|aA<|be (k:=0) J fun hN=>bL<|hU ?_;refine aU (oz (Z:=fun ls i m=>(p.drop i=ls)∧cF cmp ls m=some R) (Of:=fun _ i m=>[bx af 46 b ig,bx af 46 b1 m]) (Gf:=fun _ i m=>[(0,ca (af) p),(1,(dX aQ qx y6 (fun(x:ac×ac)=>cmp x.1 x.2))),(4,tV (aN b 0)),(5,tV (aN b1 0)),(6,bM (i:Int))]) (fun i m h=>?_) (fun e1 tl ih i m h=>?_) (p.drop (1)) 1 e ⟨J,h⟩) (bu J)
  ·obtain⟨hx,h⟩:=h
   refine aB<|ah<|aw<|aG J<|aG J<|zo J (jg ki J)<|zo J (fM J J)<|av<|bz (ht J) (du hx)<|bv ?_;refine ai (ai (aO ?_));refine ax<|aw<|zo rfl (cg aH rfl rfl bT (.tail _ (.head _)) (ht rfl))<|ap aH rfl an rfl (ht rfl) (ht rfl)<|aV 4 rfl<|av<|am<|ba ?_;cases so h;exact iX J aH J J J
  ·obtain⟨hx,h⟩:=h
   refine aB<|ah<|aw<|aG J<|aG J<|zo J (jg ki J)<|zo J (fM J J)<|av<|bw (ht J) (di hx)<|dS<|ah<|aA<|ah<|bC h fun r q_r h=>?_
   refine c9 (ts:=[_,_,_,_,_,_,_,_]) mixed J J
    ⟨eM 1 J J J (dl J),
    ⟨eM 0 J J J (dl J),
    ⟨eM 6 J J J (dl J),
    ⟨d8 21 1 22 2 J J J J (my ki aH J J J (da hx)),
    ⟨bY 23 3 J J J (bB aH J J),
    ⟨eM 5 J J J (cg aH J J bT (.tail _ (.head _)) (ht J)),
    ⟨GL 20 0 24 4 25 5 J J J J J (gZ (args:=qx) (res:=Tq) (f:=(fun(x:ac×ac)=>cmp x.1 x.2)) (x:=((e1,m):ac×ac)) (ht J) q_r ⟨(ht J),(ht J),aT⟩),
    ⟨bY 26 6 J J J (gi (ht J) hI),
    aT⟩⟩⟩⟩⟩⟩⟩⟩ ?_
   refine ax<|cU h rfl (fun h=>?_) (fun h=>?_)
   ·refine au<|aG J<|aG J<|zo J (my ki aH J J J (da hx))<|zo J (bB aH J J)<|bF<|ap aH J an J (ht J) (ht J)<|aP<|aq<|ax<|au<|aG rfl<|zo rfl (mz (cM hx hN) rfl)<|bp rfl<|aP<|bD ?_;exact bm (aU (ih (i+1) e1 ⟨cL hx,h⟩) (bu J))
   ·refine bA<|aq<|ax<|au<|aG rfl<|zo rfl (mz (cM hx hN) rfl)<|bp rfl<|aP ?_;exact bm (aU (ih (i+1) m ⟨cL hx,h⟩) (bu J))
 ·skip
  refine aw<|aG J<|zo J (jg ki J)<|zo J (gi (ht J) hI)<|av<|cU h J (fun h=>?_) (fun h=>?_)
  ·refine au ?_;exact(nn h).elim
  ·refine bA ?_;exact cw (K h) (bu J)

theorem VE(v:ac){R:Bool}(h:rp v=some R):aX aQ 158 [tD af v] (iR R):=by
 refine aX.of Tryz.func158 J J J fun w0 S0=>aw<|zo J (jm J)<|zo J (jL)<|av<|aw<|zo J (bB aH J J)<|bC h fun r q_r h=>zo J (aC Lo (Bu _ q_r) ⟨(ht J),aT⟩)<|zo J (s4 J)<|bp J<|av<|am ?_;cases so h;exact aJ J J

theorem Vi(s:(List ac))(f:(ac→Option Bool)){R:Int}(h:kC s f=some R):aX aQ 242 [ca (af) s,(dX aQ AP nH (fun(x:ac)=>f x))] (bM R):=by
 refine aX.of Tryz.func242 J J J fun w0 S0=>aw<|zo J (cD)<|av<|ah<|aw<|aG J<|zo J (jg jh J)<|zo J (bI hI)<|av<|aA<|be (k:=6) J fun hN=>bL ?_;refine aU (eI (Z:=fun ls i=>(s.drop i=ls)∧cH f ls i=some R) (Of:=fun _ i=>[]) (Gf:=fun _ i=>[(0,ca (af) s),(1,(dX aQ AP nH (fun(x:ac)=>f x))),(7,jz s),(8,bM (i:Int))]) (fun i h=>?_) (fun e tl ih i h=>?_) s 0 ⟨J,h⟩) (bu J)
 ·obtain⟨hx,h⟩:=h
  refine aB<|aw<|zo J (fM J J)<|av<|ah<|bz (ht J) (du hx)<|bv ?_;refine ai (ai (aO ?_));refine ax<|aw<|zo rfl (cD)<|av<|am ?_;cases so h;exact aJ J J
 ·obtain⟨hx,h⟩:=h
  refine aB<|aw<|zo J (fM J J)<|av<|ah<|bw (ht J) (di hx)<|dS<|ah<|aA<|aw<|aG J<|bp J<|av<|aw<|aG J<|aG J<|aG J<|zo J (my jh aH J J J (da hx)) ?_;refine zo J (bB aH J J)<|bC h fun r q_r h=>zo J (gZ (args:=AP) (res:=HS) (f:=(fun(x:ac)=>f x)) (x:=((e):ac)) (ht J) q_r ⟨(ht J),aT⟩)<|av<|cU h J (fun h=>?_) (fun h=>?_)
  ·refine aw<|aG J<|bp J<|av<|am ?_;refine aD (ae (ae (aD (ae ?_))));cases so h;exact aJ J J
  ·refine bA<|aq<|ax<|au<|zo rfl (mz (cM hx hN) rfl)<|aG rfl<|aP ?_;exact bm (aU (ih (i+1) ⟨cL hx,h⟩) (bu J))

theorem VD(s:(List ac))(f:(ac→Option Bool)){R:Bool}(h:gc s f=some R):aX aQ 159 [ca (af) s,(dX aQ AP nH (fun(x:ac)=>f x))] (iR R):=by
 refine aX.of Tryz.func159 J J J fun w0 S0=>aw<|zo J (jL)<|av<|aw<|aG J<|aG J<|bC h fun r q_r h=>zo J (aC abg (Vi _ _ q_r) ⟨(ht J),(ht J),aT⟩)<|zo J (jq (ht J) hI)<|bp J<|av<|am ?_;cases so h;exact aJ J J

theorem Nb(r:(List ac)){R:Bool}(h:sK r=some R):aX aQ 94 [ca (af) r] (iR R):=by
 refine aX.of Tryz.func94 J J J fun w0 S0=>aw<|zo J (jL)<|av<|aw<|zo J (aM (show aI _ _ _ ((dX aQ AP nH (fun(x:ac)=>rp x)))from(zC abS fun x y h=>VE _ h)))<|av<|aw<|aG J<|zo J (jg jh J)<|zo J (n9 (ht J) hI)<|aG J<|bC h fun t q_t h=>dQ J J (fun hg=>dl J)<|dQ J J (fun hg=>dl J) ?_
 obtain⟨r1,h1t,h0t⟩:=og q_t
 have q_r1g:=fun hb=>(h1t hb).1
 refine dQ J J (fun hg=>aC abR (VD _ _ (q_r1g hg)) ⟨(bN J hg),(bN J hg),aT⟩)<|dQ J J (fun hg=>gh (bN J hg))<|zo J (fQ (ht J) (fun hb=>(bN J hb)) (fun hb=>(h1t hb).2) h0t)<|bp J<|av<|am ?_;cases so h;exact aJ J J

end Go.Proofs.YtfhhakidodmdfaaGreatDoor

