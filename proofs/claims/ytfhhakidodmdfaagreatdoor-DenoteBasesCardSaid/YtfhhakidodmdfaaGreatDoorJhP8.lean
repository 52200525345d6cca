/- cX of this claim: P8. -/
import Derived.Test.YtfhhakidodmdfaaGreatDoorJhT
import Derived.Test.YtfhhakidodmdfaaGreatDoorJhP7
set_option linter.all false
namespace Go.Proofs.YtfhhakidodmdfaaGreatDoor
open Go
set_option maxRecDepth 100000

theorem Nl(b:Nat)(ix:OI)(r:cU)(n:aC){R:(List (List M))×Int}(h:lv r n=some R):cy aJ 53 [tV (aO b 0),tD aM n] (fG b r ix) (fun _:OI=>tT [bK (cE) R.1,bu R.2]) (fun _=>(fG b r ix)):=by
 refine cy.of Tryz.func53 J J J fun w0 S0=>?_;refine(show CG _ _ _ [bx (rH dn [(1,aQ (ix.h 0).1 (ix.h 0).2 r.rows.length),(2,aQ (ix.h 1).1 (ix.h 1).2 r.width.length)]) 96 b r,db da 32 (ix.h 0).1 (ix.h 0).2 r.rows,db bI 3 (ix.h 1).1 (ix.h 1).2 r.width] _ from ?_);refine ap<|zo J (ff J)<|zo J (aD (show aH _ _ _ pY from gr))<|zo J (bO)<|al<|ap<|bA false cE 43<|zo J (aD mZ)<|al<|ae<|ae<|bp h fun e q_e h=>?_
 refine bZ (ts:=[_,_,_,_,_,_,_,_,_,_]) mixed J J
  ⟨dp 0 J J J (cr J),
  ⟨bH 11 0 J J J (cQ (ht J)),
  ⟨bH 12 1 J J J (gQ 1 l0 J J J),
  ⟨bH 13 2 J J J (cC oL J (.tail _ (.head _)) (.tail _ (.tail _ (.head _))) (ht J)),
  ⟨dp 3 J J J (bS gm cW J J),
  ⟨bH 15 4 J J J (bn bP J J),
  ⟨cO 14 3 16 5 J J J J (bf jH eu J (gz (ht J)) (ht J) q_e),
  ⟨bH 17 6 J J J (bn eu J J),
  ⟨bH 18 7 J J J (eH ge J),
  ⟨Fg J J (br hI),
  aP⟩⟩⟩⟩⟩⟩⟩⟩⟩⟩ ?_
 refine ak<|au<|aU (k:=18) J fun hN=>bo ?_;refine aI (gb (Z:=fun ls i out l c=>(e.drop i=ls)∧hZ n ls out=some R) (Of:=fun _ i out l c=>[dJ cE 43 l c out,bx (rH dn [(1,aQ (ix.h 0).1 (ix.h 0).2 r.rows.length),(2,aQ (ix.h 1).1 (ix.h 1).2 r.width.length)]) 96 b r,db da 32 (ix.h 0).1 (ix.h 0).2 r.rows,db bI 3 (ix.h 1).1 (ix.h 1).2 r.width]) (Gf:=fun _ i out l c=>[(3,bv aM n),(6,mp l c out),(18,bK (cE) e),(19,fC e),(20,bu (i:Int))]) (fun i out l c h=>?_) (fun e1 tl ih i out l c h=>?_) e 0 Ak none 0 ⟨J,h⟩) (bh J)
 ·obtain⟨hx,h⟩:=h
  refine aw<|ap<|zo J (dC J J)<|al<|ae<|bm (ht J) (cx hx)<|be ?_;refine af (af (aE ?_));refine ak<|ap<|aB rfl<|ba rfl<|zo rfl (bO)<|al<|ai<|fQ<|ce 6 rfl<|ce 40 rfl<|ce 4 rfl<|fR 4 rfl<|aY<|aK<|aK<|aK ?_;cases so h;exact df (ts:=[bK (cE) out,bu 0]) (rvs:=[.tmp 4,.tmp 5]) J J ⟨aW J,aW J,aP⟩ kY J J
 ·obtain⟨hx,h⟩:=h
  refine aw<|ap<|zo J (dC J J)<|al<|ae<|bl (ht J) (cw hx)<|cF<|ae<|au<|ap<|zo J (gw ge dd J J J (ci hx))<|zo J (bn dd J J)<|ba J<|al<|ap<|zo J (bS qk kN J J)<|zo J (bn jg J J)<|aB J ?_;refine bp h fun r1 q_r1 h=>zo J (ax K8 (EM _ _ q_r1) ⟨(ht J),(ht J),aP⟩)<|aB J<|zo J (eT J J)<|zo J (eT J J)<|ba J<|ba J<|al<|ae<|ap<|aB J<|zo J (pt J)<|al<|bX h J (fun h=>?_) (fun h=>?_)
  ·refine ap<|aB J<|zo J (aD (show aH _ _ _ pY from gr))<|ba J<|al<|ai ?_;refine aa (aq (aa (aa (aq (aa ?_)))));refine aY<|aK<|aK<|aK ?_;cases so h;exact df (ts:=[bK (cE) ([]),bu r1.2]) (rvs:=[.tmp 4,.tmp 5]) J J ⟨aW J,aW J,aP⟩ kY J J
  ·refine cF<|ap<|aB J<|al<|bX h J (fun h=>?_) (fun h=>?_)
   ·refine an<|aB J<|aB J<|zo J (aR (r:=cE) (ys:=[e1]) (xs:=[.tmp 36]) ge dd J J J J J ⟨(ht J),aP⟩)<|bp h fun out1 q_out1 h=>cg dd J J J J ge J J (ht J) (ht J) q_out1 fun l1 c1=>ba J<|aL<|aj<|ak<|an<|zo rfl (iq (bW hx hN) rfl)<|aB rfl<|aL ?_;exact aT (aI (ih (i+1) out1 l1 c1 ⟨bV hx,h⟩) (bh J))
   ·refine bi<|aj<|ak<|an<|zo rfl (iq (bW hx hN) rfl)<|aB rfl<|aL ?_;exact aT (aI (ih (i+1) out l c ⟨bV hx,h⟩) (bh J))

theorem J7(a1:kz)(rows:(List (List M))){R:(List M)×Int}(h:wk a1 rows=some R):aN aJ 131 [tD ej a1,bK (cE) rows] (tT [bK (ac) R.1,bu R.2]):=by
 refine aN.of Tryz.func131 J J J fun w0 S0=>ap<|zo J (ff J)<|zo J (aD (show aH _ _ _ (bK (ac) ([]))from gr))<|zo J (bO)<|al<|ap<|bA false ac 46<|zo J (aD mZ)<|al<|ap<|zo J (bO)<|al<|ae<|ap<|aB J<|zo J (eH ge J) ?_;refine zo J (br hI)<|al<|au<|aU (k:=12) J fun hN=>bo ?_;refine aI (oG (Z:=fun ls i out l c fault=>(rows.drop i=ls)∧jX a1 ls out fault=some R) (Of:=fun _ i out l c fault=>[dJ ac 46 l c out]) (Gf:=fun _ i out l c fault=>[(2,bv ej a1),(6,mp l c out),(7,bu fault),(12,bK (cE) rows),(13,fC rows),(14,bu (i:Int))]) (fun i out l c fault h=>?_) (fun e tl ih i out l c fault h=>?_) rows 0 Aj none 0 (0:Int) ⟨J,h⟩) (bh J)
 ·obtain⟨hx,h⟩:=h
  refine aw<|ap<|zo J (dC J J)<|al<|ae<|bm (ht J) (cx hx)<|be ?_;refine af (af (aE ?_));refine ak<|ap<|aB rfl<|aB rfl<|ba rfl<|ba rfl<|al<|ai<|fQ<|ce 6 rfl<|ce 41 rfl<|ce 4 rfl<|fR 4 rfl<|aY ?_;cases so h;exact ca J J J
 ·obtain⟨hx,h⟩:=h
  refine aw<|ap<|zo J (dC J J)<|al<|ae<|bl (ht J) (cw hx)<|cF<|ae<|au<|ap<|zo J (gw ge dd J J J (ci hx))<|zo J (bn dd J J)<|ba J<|al<|ap<|zo J (bS yh rN J J)<|zo J (bn jg J J)<|aB J ?_;refine bp h fun r q_r h=>zo J (ax HC (A5 _ _ q_r) ⟨(ht J),(ht J),aP⟩)<|aB J<|zo J (eT J J)<|zo J (eT J J)<|aV (r:=ac) (x:=eS) aG (fun _=>aZ _) J fun b=>av aG J am J (ht J) (ht J)<|aS 10 J<|ba J<|al<|au<|ap<|aB J<|zo J (io J)<|ba J<|al<|bX h J (fun h=>?_) (fun h=>?_)
  ·refine an<|aB J<|ba J<|aL<|aj<|aj<|ak<|an<|zo rfl (iq (bW hx hN) rfl)<|aB rfl<|aL ?_;exact aT (aI (ih (i+1) out l c r.2 ⟨bV hx,h⟩) (bh J))
  ·refine ap<|aB J<|zo J (pt J)<|ba J<|al<|bX h J (fun h=>?_) (fun h=>?_)
   ·refine ap<|zo J (aD (show aH _ _ _ (bK (ac) ([]))from gr))<|zo J (bO)<|al<|ai ?_;refine aq (aq (aa (aa (aq (aa ?_)))));refine aY ?_;cases so h;exact ca J J J
   ·refine ap<|zo J (bS em bU J J)<|zo J (bn bP J J)<|zo J (pt J)<|ba J<|al<|bX h J (fun h=>?_) (fun h=>?_)
    ·refine an<|aB J<|zo J (bn aG J J)<|zo J (aR (r:=ac) (ys:=[r.1]) (xs:=[.tmp 37]) ns aG J J J J J ⟨(ht J),aP⟩)<|bp h fun out1 q_out1 h=>cg aG J J J J ns J J (ht J) (ht J) q_out1 fun l1 c1=>ba J<|aL<|aj<|aj<|ak<|an<|zo rfl (iq (bW hx hN) rfl)<|aB rfl<|aL ?_;exact aT (aI (ih (i+1) out1 l1 c1 fault ⟨bV hx,h⟩) (bh J))
    ·refine bi<|aj<|aj<|ak<|an<|zo rfl (iq (bW hx hN) rfl)<|aB rfl<|aL ?_;exact aT (aI (ih (i+1) out l c fault ⟨bV hx,h⟩) (bh J))

theorem J6(v:M){R:Bool}(h:kR v=some R):aN aJ 132 [tD ac v] (er R):=by
 refine aN.of Tryz.func132 J J J fun w0 S0=>ap<|zo J (ff J)<|zo J (ef)<|al<|ap<|zo J (bS em bU J J)<|zo J (bn bP J J)<|zo J (pt J)<|ba J<|al<|ai ?_;cases so h;exact ay J J

theorem Jy(s:(List M))(f:(M→Option Bool)){R:Int}(h:fY s f=some R):aN aJ 215 [bK (ac) s,(cB aJ uc ib (fun(x:M)=>f x))] (bu R):=by
 refine aN.of Tryz.func215 J J J fun w0 S0=>ap<|zo J (bO)<|al<|ae<|ap<|aB J<|zo J (eH ns J)<|zo J (br hI)<|al<|au<|aU (k:=6) J fun hN=>bo ?_;refine aI (cN (Z:=fun ls i=>(s.drop i=ls)∧d2 f ls i=some R) (Of:=fun _ i=>[]) (Gf:=fun _ i=>[(0,bK (ac) s),(1,(cB aJ uc ib (fun(x:M)=>f x))),(7,fC s),(8,bu (i:Int))]) (fun i h=>?_) (fun e tl ih i h=>?_) s 0 ⟨J,h⟩) (bh J)
 ·obtain⟨hx,h⟩:=h
  refine aw<|ap<|zo J (dC J J)<|al<|ae<|bm (ht J) (cx hx)<|be ?_;refine af (af (aE ?_));refine ak<|ap<|zo rfl (bO)<|al<|ai ?_;cases so h;exact ay J J
 ·obtain⟨hx,h⟩:=h
  refine aw<|ap<|zo J (dC J J)<|al<|ae<|bl (ht J) (cw hx)<|cF<|ae<|au<|ap<|aB J<|ba J<|al<|ap<|aB J<|aB J<|aB J<|zo J (gw ns aG J J J (ci hx)) ?_;refine zo J (bn aG J J)<|bp h fun r q_r h=>zo J (dz (args:=uc) (res:=yH) (f:=(fun(x:M)=>f x)) (x:=((e):M)) (ht J) q_r ⟨(ht J),aP⟩)<|al<|bX h J (fun h=>?_) (fun h=>?_)
  ·refine ap<|aB J<|ba J<|al<|ai ?_;refine aq (aa (aa (aq (aa ?_))));cases so h;exact ay J J
  ·refine bi<|aj<|ak<|an<|zo rfl (iq (bW hx hN) rfl)<|aB rfl<|aL ?_;exact aT (aI (ih (i+1) ⟨bV hx,h⟩) (bh J))

theorem J5(s:(List M))(f:(M→Option Bool)){R:Bool}(h:fB s f=some R):aN aJ 133 [bK (ac) s,(cB aJ uc ib (fun(x:M)=>f x))] (er R):=by
 refine aN.of Tryz.func133 J J J fun w0 S0=>ap<|zo J (ef)<|al<|ap<|aB J<|aB J<|bp h fun r q_r h=>zo J (ax OQ (Jy _ _ q_r) ⟨(ht J),(ht J),aP⟩)<|zo J (dU (ht J) hI)<|ba J<|al<|ai ?_;cases so h;exact ay J J

theorem AU(v:M){R:M}(h:qC v=some R):aN aJ 289 [tD ac v] (tD ac R):=by
 refine aN.of Tryz.func289 J J J fun w0 S0=>ap<|zo J (ff J)<|aV (r:=ac) (x:=eS) aG (fun _=>aZ _) J fun b=>al<|ap<|zo J (bS gK dg J J)<|zo J (bn wM J J)<|zo J (vq (ht J) hI (by decide))<|zo J (bS gK dg J J)<|zo J (bn wM J J)<|zo J (mw tY ua (ht J))<|zo J (bM (y:=(⟨(4:Int),((v.N).fdiv (2^(min (Int.toNat (63:Int)) IntKind.i64.bits))),(IntKind.u64.wrap v.N),[]⟩:M)) aG lq aZ (⟨_,_,_,_,_,J,jK,J,hI,⟨_,_,_,_,_,J,kJ,J,(ht J),⟨_,_,_,_,_,J,tf,J,(ht J),J⟩⟩⟩))<|av aG J am J (ht J) (ht J)<|aS 2 J<|al<|ai ?_;cases so h;exact fq J aG J J J

theorem I3(s:M)(t:M){R:M×Int}(h:yo s t=some R):aN aJ 290 [tD ac s,tD ac t] (tT [tD ac R.1,bu R.2]):=by
 refine aN.of Tryz.func290 J J J fun w0 S0=>ap<|zo J (ff J)<|zo J (ff J)<|aV (r:=ac) (x:=eS) aG (fun _=>aZ _) J fun b=>zo J (bO)<|al<|ap<|zo J (bS qn i5 J J)<|zo J (bn yK J J)<|zo J (bS qn i5 J J)<|zo J (bn yK J J)<|bp h fun r q_r h=>zo J (B0 Tryz.func347 (by kernel_rfl) (by kernel_rfl) (by kernel_rfl) (by kernel_rfl) (ht J) (ht J) hI q_r)<|aB J<|zo J (eT J J)<|zo J (eT J J)<|ba J<|ba J<|al ?_;refine ap<|zo J (bS gK dg J J)<|zo J (bn wM J J)<|zo J (mw tY ua (ht J))<|zo J (bS gK dg J J)<|zo J (bn wM J J)<|zo J (mw tY ua (ht J))<|aB J<|bp h fun r1 q_r1 h=>zo J (B0 Tryz.func347 (by kernel_rfl) (by kernel_rfl) (by kernel_rfl) (by kernel_rfl) (ht J) (ht J) (ht J) q_r1)<|aB J<|zo J (eT J J)<|zo J (eT J J)<|ba J<|ba J<|al<|ap<|aB J<|zo J (mw ua tY (ht J))<|ba J<|aL ?_;refine ak<|ae<|ap<|zo rfl (bS gK dg rfl rfl)<|zo rfl (bn wM rfl rfl)<|aB rfl<|zo rfl (vp (ht rfl) (ht rfl))<|zo rfl (bS gK dg rfl rfl)<|zo rfl (bn wM rfl rfl)<|aB rfl<|zo rfl (vp (ht rfl) (ht rfl))<|zo rfl (vt (ht rfl) (ht rfl))<|zo rfl (dO (ht rfl) hI)<|al<|bX h rfl (fun h=>?_) (fun h=>?_)
 ·refine ap<|zo J (bM (y:=eS) aG lq aZ (J))<|av aG J am J (ht J) (ht J)<|zo J (bO)<|al<|ai<|aa<|bg 4 J ?_;cases so h;exact bF J J ⟨bq aG J J J,aW J,aP⟩
 ·refine cF<|ap<|aB J<|aB J<|zo J (bM (y:=(⟨(4:Int),(IntKind.i64.wrap r1.1),r.1,[]⟩:M)) aG lq aZ (⟨_,_,_,_,_,J,jK,J,hI,⟨_,_,_,_,_,J,kJ,J,(ht J),⟨_,_,_,_,_,J,tf,J,(ht J),J⟩⟩⟩))<|av aG J am J (ht J) (ht J)<|zo J (bO)<|al<|ai<|bg 4 J ?_;cases so h;exact bF J J ⟨bq aG J J J,aW J,aP⟩

theorem Jx(s:M)(v:M){R:M×Int}(h:zL s v=some R):aN aJ 217 [tD ac s,tD ac v] (tT [tD ac R.1,bu R.2]):=by
 refine aN.of Tryz.func217 J J J fun w0 S0=>ap<|zo J (ff J)<|zo J (ff J)<|aV (r:=ac) (x:=eS) aG (fun _=>aZ _) J fun b=>zo J (bO)<|al<|ae<|ae<|bp h fun r q_r h=>bp h fun r1 q_r1 h=>?_
 refine bZ (ts:=[_,_,_,_,_,_,_,_]) mixed J J
  ⟨dp 2 J J J (bn aG J J),
  ⟨bH 8 0 J J J (aR (r:=ac) (ys:=[s]) (xs:=[.tmp 8]) ns aG J J J J J ⟨(ht J),aP⟩),
  ⟨bH 9 1 J J J (ax ER (wV _ _ q_r) ⟨hI,(ht J),aP⟩),
  ⟨dp 3 J J J (bn aG J J),
  ⟨bH 11 3 J J J (aR (r:=ac) (ys:=[v]) (xs:=[.tmp 11]) ns aG J J J J J ⟨(ht J),aP⟩),
  ⟨bH 12 4 J J J (ax ER (wV _ _ q_r1) ⟨hI,(ht J),aP⟩),
  ⟨bH 10 2 J J J (pe J),
  ⟨bH 13 5 J J J (pe J),
  aP⟩⟩⟩⟩⟩⟩⟩⟩ ?_
 refine ak<|au<|ap<|aB rfl<|zo rfl (io rfl)<|aB rfl<|dv rfl rfl (fun hg=>cr J)<|dv J J (fun hg=>cA (bk J hg) hI)<|zo J (qY J J)<|ba J<|al<|bX h J (fun h=>?_) (fun h=>?_)
 ·refine ap<|zo J (bM (y:=eS) aG lq aZ (J))<|av aG J am J (ht J) (ht J)<|zo J (bO)<|al<|ai ?_;refine aq (aa ?_);refine bg 4 J ?_;cases so h;exact bF J J ⟨bq aG J J J,aW J,aP⟩
 ·refine ap<|aB J<|zo J (pt J)<|aB J<|dv J J (fun hg=>cr J)<|dv J J (fun hg=>dc (bk J hg) hI)<|zo J (qY J J)<|ba J<|al<|bX h J (fun h=>?_) (fun h=>?_)
  ·refine ap<|zo J (bM (y:=eS) aG lq aZ (J))<|av aG J am J (ht J) (ht J)<|zo J (bO)<|al<|ai ?_;refine aq (aa ?_);refine bg 4 J ?_;cases so h;exact bF J J ⟨bq aG J J J,aW J,aP⟩
  ·refine ap<|zo J (bS em bU J J)<|zo J (bn bP J J)<|zo J (io J)<|ba J<|al<|bX h J (fun h=>?_) (fun h=>?_)
   ·refine ap<|zo J (bn aG J J)<|av aG J am J (ht J) (ht J)<|zo J (bO)<|al<|ai ?_;refine aq (aa ?_);refine bg 4 J ?_;cases so h;exact bF J J ⟨bq aG J J J,aW J,aP⟩
   ·refine ap<|zo J (bS em bU J J)<|zo J (bn bP J J)<|zo J (io J)<|ba J<|al<|bX h J (fun h=>?_) (fun h=>?_)
    ·refine ap<|zo J (bn aG J J)<|bp h fun r2 q_r2 h=>zo J (ax Hq (AU _ q_r2) ⟨(ht J),aP⟩)<|av aG J am J (ht J) (ht J)<|zo J (bO)<|al<|ai ?_;refine aq (aa ?_);refine bg 4 J ?_;cases so h;exact bF J J ⟨bq aG J J J,aW J,aP⟩
    ·refine bi<|aj<|ak<|ae<|bp h fun r3 q_r3 h=>bp h fun r4 q_r4 h=>?_
     refine oH 6 (ts:=[tD ac s,tD ac v,tD ac r3,tT [tD ac r4.1,bu r4.2],tD ac r4.1,bu r4.2]) mixed J J J
      ⟨dp 2 J J J (bn aG J J),
      ⟨dp 3 J J J (bn aG J J),
      ⟨bH 42 1 J J J (ax Hq (AU _ q_r3) ⟨(ht J),aP⟩),
      ⟨cO 41 0 43 2 J J J J (ax Oc (I3 _ _ q_r4) ⟨(ht J),(ht J),aP⟩),
      ⟨bH 44 3 J J J (eT J J),
      ⟨bH 44 3 J J J (eT J J),
      aP⟩⟩⟩⟩⟩⟩ ?_
     refine av aG J am J (ht J) (ht J)<|ba J<|al<|ai<|bg 4 J ?_;cases so h;exact bF J J ⟨bq aG J J J,aW J,aP⟩

theorem Jw(s:M){R:M×Int}(h:zN s=some R):aN aJ 218 [tD ac s] (tT [tD ac R.1,bu R.2]):=by
 refine aN.of Tryz.func218 J J J fun w0 S0=>ap<|zo J (ff J)<|aV (r:=ac) (x:=eS) aG (fun _=>aZ _) J fun b=>zo J (bO)<|al<|ae<|ap<|zo J (bn aG J J)<|zo J (aR (r:=ac) (ys:=[s]) (xs:=[.tmp 6]) ns aG J J J J J ⟨(ht J),aP⟩)<|bp h fun r q_r h=>zo J (ax ER (wV _ _ q_r) ⟨hI,(ht J),aP⟩)<|ba J<|al<|au<|ap<|aB J<|zo J (pt J)<|ba J ?_;refine al<|bX h J (fun h=>?_) (fun h=>?_)
 ·refine ap<|zo J (bM (y:=eS) aG lq aZ (J))<|aB J<|av aG J am J (ht J) (ht J)<|ba J<|al<|ai ?_;refine aq (aa ?_);refine bg 2 J ?_;cases so h;exact bF J J ⟨bq aG J J J,aW J,aP⟩
 ·refine ap<|zo J (bS em bU J J)<|zo J (bn bP J J)<|zo J (io J)<|ba J<|al<|bX h J (fun h=>?_) (fun h=>?_)
  ·refine ap<|zo J (bn aG J J)<|av aG J am J (ht J) (ht J)<|zo J (bO)<|al<|ai ?_;refine aq (aa ?_);refine bg 2 J ?_;cases so h;exact bF J J ⟨bq aG J J J,aW J,aP⟩
  ·refine bi<|aj<|ak<|ae<|ap<|zo rfl (bS qn i5 rfl rfl)<|zo rfl (bn yK rfl rfl)<|zo rfl (mw ua tY (ht rfl))<|bp h fun r1 q_r1 h=>zo J (ax Cl (uJ _ q_r1) ⟨(ht J),aP⟩)<|aV (r:=ac) (x:=eS) aG (fun _=>aZ _) J fun b1=>av aG J am J (ht J) (ht J)<|aS 5 J<|al<|ae<|bp h fun r2 q_r2 h=>?_
   refine bZ (ts:=[_,_,_,_]) mixed J J
    ⟨dp 5 J J J (bn aG J J),
    ⟨bH 23 0 J J J (ax Hq (AU _ q_r2) ⟨(ht J),aP⟩),
    ⟨dp 1 J J J (bn aG J J),
    ⟨cO 24 1 25 2 J J J J (uq DN (ht J) (ht J)),
    aP⟩⟩⟩⟩ ?_
   refine ak<|bX h rfl (fun h=>?_) (fun h=>?_)
   ·refine ap<|zo J (bn aG J J)<|av aG J am J (ht J) (ht J)<|zo J (bO)<|al<|ai<|aa<|bg 2 J ?_;cases so h;exact bF J J ⟨bq aG J J J,aW J,aP⟩
   ·refine cF<|ap<|zo J (bM (y:=eS) aG lq aZ (J))<|av aG J am J (ht J) (ht J)<|zo J (bO)<|al<|ai<|bg 2 J ?_;cases so h;exact bF J J ⟨bq aG J J J,aW J,aP⟩

theorem J4(l:(List M)){R:M×Int}(h:zO l=some R):aN aJ 134 [bK (ac) l] (tT [tD ac R.1,bu R.2]):=by
 refine aN.of Tryz.func134 J J J fun w0 S0=>ap<|aV (r:=ac) (x:=eS) aG (fun _=>aZ _) J fun b=>zo J (bO)<|al<|ae<|ap<|aB J<|zo J (eH ns J)<|zo J (eb (ht J) hI)<|al<|bX h J (fun h=>?_) (fun h=>?_)
 ·refine ap<|zo J (bM (y:=eS) aG lq aZ (J))<|av aG J am J (ht J) (ht J)<|zo J (bO)<|al<|ai<|aa<|bg 2 J ?_;cases so h;exact bF J J ⟨bq aG J J J,aW J,aP⟩
 ·refine cF<|ap<|bp h fun r q_r h=>zo J (ax Hx (A2 q_r) trivial)<|aV (r:=ac) (x:=eS) aG (fun _=>aZ _) J fun b1=>av aG J am J (ht J) (ht J)<|al<|ae<|ap<|aB J<|zo J (eH ns J)<|zo J (br hI)<|al<|au<|aU (k:=14) J fun hN=>bo<|fA ?_;refine aI (pQ (Z:=fun ls i x s=>(l.drop i=ls)∧qE ls x s=some R) (Of:=fun _ i x s=>[bx ac 46 b x,bx ac 46 b1 s]) (Gf:=fun _ i x s=>[(2,tV (aO b 0)),(4,tV (aO b1 0)),(14,bK (ac) l),(15,fC l),(16,bu (i:Int))]) (fun i x s h=>?_) (fun e tl ih i x s h=>?_) l 0 eS r ⟨J,h⟩) (bh J)
  ·obtain⟨hx,h⟩:=h
   refine aw<|ap<|zo J (dC J J)<|al<|ae<|bm (ht J) (cx hx)<|be ?_;refine af (af (aE ?_));refine ak<|ap<|zo rfl (bL aG rfl rfl bG (.tail _ (.head _)) (ht rfl))<|bp h fun r1 q_r1 h=>zo J (ax OO (Jw _ q_r1) ⟨(ht J),aP⟩)<|zo J (eT J J)<|zo J (eT J J)<|av aG J am J (ht J) (ht J)<|ba J<|al<|ai<|bg 2 J<|aY ?_;cases so h;exact bF J J ⟨bq aG J J J,aW J,aP⟩
  ·obtain⟨hx,h⟩:=h
   refine aw<|ap<|zo J (dC J J)<|al<|ae<|bl (ht J) (cw hx)<|cF<|ae<|au<|ap<|zo J (gw ns aG J J J (ci hx))<|zo J (bn aG J J)<|aV (r:=ac) (x:=eS) aG (fun _=>aZ _) J fun b2=>av aG J am J (ht J) (ht J)<|aS 6 J<|al<|ap<|zo J (bL aG J J bG (.tail _ (.head _)) (ht J)) ?_;refine zo J (bn aG J J)<|bp h fun r2 q_r2 h=>zo J (ax OP (Jx _ _ q_r2) ⟨(ht J),(ht J),aP⟩)<|aB J<|zo J (eT J J)<|zo J (eT J J)<|aV (r:=ac) (x:=eS) aG (fun _=>aZ _) J fun b3=>av aG J am J (ht J) (ht J)<|aS 7 J<|ba J<|al<|ae<|ap<|aB J<|zo J (pt J)<|al<|bX h J (fun h=>?_) (fun h=>?_)
   ·refine ap<|zo J (bn aG J J)<|aB J<|av aG J am J (ht J) (ht J)<|ba J<|al<|ai ?_;refine aa (aq (aa (aa (aq (aa ?_)))));refine bg 2 J<|aY ?_;cases so h;exact bF J J ⟨bq aG J J J,aW J,aP⟩
   ·refine cF<|an<|zo J (bn aG J J)<|bz<|av aG J am J (ht J) (ht J)<|aL<|aj<|ak<|an<|zo rfl (iq (bW hx hN) rfl)<|aB rfl<|aL<|bt ?_;exact aT (aI (ih (i+1) x r2.1 ⟨bV hx,h⟩) (bh J))

theorem J3(p:(List M))(cmp:(M→M→Option Int)){R:M}(h:gA p cmp=some R):aN aJ 135 [bK (ac) p,(cB aJ lC sI (fun(x:M×M)=>cmp x.1 x.2))] (tD ac R):=by
 refine aN.of Tryz.func135 J J J fun w0 S0=>ap<|aV (r:=ac) (x:=eS) aG (fun _=>aZ _) J fun b=>al ?_;refine pS (Z:=fK p cmp=some R) (Of:=[bx ac 46 b eS]) (Gf:=[(0,bK (ac) p),(1,(cB aJ lC sI (fun(x:M×M)=>cmp x.1 x.2))),(4,tV (aO b 0))]) (fun h=>?_) (fun K=>?_)
 ·skip
  refine ap<|aB J<|bp h fun e q_e h=>zo J (bf ns aG J (ht J) hI q_e)<|zo J (bn aG J J)<|aV (r:=ac) (x:=eS) aG (fun _=>aZ _) J fun b1=>av aG J am J (ht J) (ht J)<|al<|ae<|ap<|zo J (bO)<|al<|au<|aU (k:=0) J fun hN=>bo<|fA ?_;refine aI (jk (Z:=fun ls i m=>(p.drop i=ls)∧di cmp ls m=some R) (Of:=fun _ i m=>[bx ac 46 b eS,bx ac 46 b1 m]) (Gf:=fun _ i m=>[(0,bK (ac) p),(1,(cB aJ lC sI (fun(x:M×M)=>cmp x.1 x.2))),(4,tV (aO b 0)),(5,tV (aO b1 0)),(6,bu (i:Int))]) (fun i m h=>?_) (fun e1 tl ih i m h=>?_) (p.drop (1)) 1 e ⟨J,h⟩) (bh J)
  ·obtain⟨hx,h⟩:=h
   refine aw<|ae<|ap<|aB J<|aB J<|zo J (eH ns J)<|zo J (dC J J)<|al<|bm (ht J) (cx hx)<|be ?_;refine af (af (aE ?_));refine ak<|ap<|zo rfl (bL aG rfl rfl bG (.tail _ (.head _)) (ht rfl))<|av aG rfl am rfl (ht rfl) (ht rfl)<|aS 4 rfl<|al<|ai<|aY ?_;cases so h;exact fq J aG J J J
  ·obtain⟨hx,h⟩:=h
   refine aw<|ae<|ap<|aB J<|aB J<|zo J (eH ns J)<|zo J (dC J J)<|al<|bl (ht J) (cw hx)<|cF<|ae<|au<|ae<|bp h fun r q_r h=>?_
   refine bZ (ts:=[_,_,_,_,_,_,_,_]) mixed J J
    ⟨dp 1 J J J (cr J),
    ⟨dp 0 J J J (cr J),
    ⟨dp 6 J J J (cr J),
    ⟨cO 21 1 22 2 J J J J (gw ns aG J J J (ci hx)),
    ⟨bH 23 3 J J J (bn aG J J),
    ⟨dp 5 J J J (bL aG J J bG (.tail _ (.head _)) (ht J)),
    ⟨y9 20 0 24 4 25 5 J J J J J (dz (args:=lC) (res:=HV) (f:=(fun(x:M×M)=>cmp x.1 x.2)) (x:=((e1,m):M×M)) (ht J) q_r ⟨(ht J),(ht J),aP⟩),
    ⟨bH 26 6 J J J (dO (ht J) hI),
    aP⟩⟩⟩⟩⟩⟩⟩⟩ ?_
   refine ak<|bX h rfl (fun h=>?_) (fun h=>?_)
   ·refine an<|aB J<|aB J<|zo J (gw ns aG J J J (ci hx))<|zo J (bn aG J J)<|bz<|av aG J am J (ht J) (ht J)<|aL<|aj<|ak<|an<|aB rfl<|zo rfl (iq (bW hx hN) rfl)<|ba rfl<|aL<|bt ?_;exact aT (aI (ih (i+1) e1 ⟨bV hx,h⟩) (bh J))
   ·refine bi<|aj<|ak<|an<|aB rfl<|zo rfl (iq (bW hx hN) rfl)<|ba rfl<|aL ?_;exact aT (aI (ih (i+1) m ⟨bV hx,h⟩) (bh J))
 ·skip
  refine ap<|aB J<|zo J (eH ns J)<|zo J (dO (ht J) hI)<|al<|bX h J (fun h=>?_) (fun h=>?_)
  ·refine an ?_;exact(nn h).elim
  ·refine bi ?_;exact cn (K h) (bh J)

theorem JX(v:M){R:Bool}(h:rp v=some R):aN aJ 158 [tD ac v] (er R):=by
 refine aN.of Tryz.func158 J J J fun w0 S0=>ap<|zo J (ff J)<|zo J (ef)<|al<|ap<|zo J (bn aG J J)<|bp h fun r q_r h=>zo J (ax Cm (uK _ q_r) ⟨(ht J),aP⟩)<|zo J (pt J)<|ba J<|al<|ai ?_;cases so h;exact ay J J

theorem Ju(s:(List M))(f:(M→Option Bool)){R:Int}(h:gD s f=some R):aN aJ 242 [bK (ac) s,(cB aJ uc ib (fun(x:M)=>f x))] (bu R):=by
 refine aN.of Tryz.func242 J J J fun w0 S0=>ap<|zo J (bO)<|al<|ae<|ap<|aB J<|zo J (eH lG J)<|zo J (br hI)<|al<|au<|aU (k:=6) J fun hN=>bo ?_;refine aI (cN (Z:=fun ls i=>(s.drop i=ls)∧eh f ls i=some R) (Of:=fun _ i=>[]) (Gf:=fun _ i=>[(0,bK (ac) s),(1,(cB aJ uc ib (fun(x:M)=>f x))),(7,fC s),(8,bu (i:Int))]) (fun i h=>?_) (fun e tl ih i h=>?_) s 0 ⟨J,h⟩) (bh J)
 ·obtain⟨hx,h⟩:=h
  refine aw<|ap<|zo J (dC J J)<|al<|ae<|bm (ht J) (cx hx)<|be ?_;refine af (af (aE ?_));refine ak<|ap<|zo rfl (bO)<|al<|ai ?_;cases so h;exact ay J J
 ·obtain⟨hx,h⟩:=h
  refine aw<|ap<|zo J (dC J J)<|al<|ae<|bl (ht J) (cw hx)<|cF<|ae<|au<|ap<|aB J<|ba J<|al<|ap<|aB J<|aB J<|aB J<|zo J (gw lG aG J J J (ci hx)) ?_;refine zo J (bn aG J J)<|bp h fun r q_r h=>zo J (dz (args:=uc) (res:=yH) (f:=(fun(x:M)=>f x)) (x:=((e):M)) (ht J) q_r ⟨(ht J),aP⟩)<|al<|bX h J (fun h=>?_) (fun h=>?_)
  ·refine ap<|aB J<|ba J<|al<|ai ?_;refine aq (aa (aa (aq (aa ?_))));cases so h;exact ay J J
  ·refine bi<|aj<|ak<|an<|zo rfl (iq (bW hx hN) rfl)<|aB rfl<|aL ?_;exact aT (aI (ih (i+1) ⟨bV hx,h⟩) (bh J))

theorem JW(s:(List M))(f:(M→Option Bool)){R:Bool}(h:fM s f=some R):aN aJ 159 [bK (ac) s,(cB aJ uc ib (fun(x:M)=>f x))] (er R):=by
 refine aN.of Tryz.func159 J J J fun w0 S0=>ap<|zo J (ef)<|al<|ap<|aB J<|aB J<|bp h fun r q_r h=>zo J (ax OM (Ju _ _ q_r) ⟨(ht J),(ht J),aP⟩)<|zo J (dU (ht J) hI)<|ba J<|al<|ai ?_;cases so h;exact ay J J

theorem DH(r:(List M)){R:Bool}(h:se r=some R):aN aJ 94 [bK (ac) r] (er R):=by
 refine aN.of Tryz.func94 J J J fun w0 S0=>ap<|zo J (ef)<|al<|ap<|zo J (aD (show aH _ _ _ ((cB aJ uc ib (fun(x:M)=>rp x)))from(sr Px fun x y h=>JX _ h)))<|al<|ap<|aB J<|zo J (eH lG J)<|zo J (gH (ht J) hI)<|aB J<|bp h fun t q_t h=>cd J J (fun hg=>cr J)<|cd J J (fun hg=>cr J) ?_
 obtain⟨r1,h1t,h0t⟩:=og q_t
 have q_r1g:=fun hb=>(h1t hb).1
 refine cd J J (fun hg=>ax Pw (JW _ _ (q_r1g hg)) ⟨(bk J hg),(bk J hg),aP⟩)<|cd J J (fun hg=>cH (bk J hg))<|zo J (cJ (ht J) (fun hb=>(bk J hb)) (fun hb=>(h1t hb).2) h0t)<|ba J<|al<|ai ?_;cases so h;exact ay J J

end Go.Proofs.YtfhhakidodmdfaaGreatDoor

