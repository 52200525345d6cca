/- db of this claim: P8. -/
import Derived.Test.YtfhhakidodmdfaaGreatDoorJbT
import Derived.Test.YtfhhakidodmdfaaGreatDoorJbP7
set_option linter.all false
namespace Go.Proofs.YtfhhakidodmdfaaGreatDoor
open Go
set_option maxRecDepth 100000

theorem ZR(b:Nat)(ix:OI)(r:cT)(n:am){R:(List (List ac))×Int}(h:jz r n=some R):c0 aO 53 [tV (aP b 0),tD aI n] (jq b r ix) (fun _:OI=>tT [ca (dj) R.1,bM R.2]) (fun _=>(jq b r ix)):=by
 refine c0.of Tryz.func53 J J J fun w0 S0=>?_;refine(show CG _ _ _ [bx (rH ee [(1,aR (ix.h 0).1 (ix.h 0).2 r.rows.length),(2,aR (ix.h 1).1 (ix.h 1).2 r.width.length)]) 96 b r,dV dT 32 (ix.h 0).1 (ix.h 0).2 r.rows,dV bX 3 (ix.h 1).1 (ix.h 1).2 r.width] _ from ?_);refine au<|zo J (je J)<|zo J (aL (show aJ _ _ _ vA from j9))<|zo J (cw)<|aq<|au<|bQ false dj 43<|zo J (aL s9)<|aq<|ah<|ah<|bC h fun e q_e h=>?_
 refine cU (ts:=[_,_,_,_,_,_,_,_,_,_]) mixed J J
  ⟨fd 0 J J J (dA J),
  ⟨bW 11 0 J J J (dE (ht J)),
  ⟨bW 12 1 J J J (kP 1 qF J J J),
  ⟨bW 13 2 J J J (df uP J (.tail _ (.head _)) (.tail _ (.tail _ (.head _))) (ht J)),
  ⟨fd 3 J J J (cW jT dP J J),
  ⟨bW 15 4 J J J (bB cr J J),
  ⟨d8 14 3 16 5 J J J J (bq ot gF J (lk (ht J)) (ht J) q_e),
  ⟨bW 17 6 J J J (bB gF J J),
  ⟨bW 18 7 J J J (iM jW J),
  ⟨O4 J J (bD hI),
  aT⟩⟩⟩⟩⟩⟩⟩⟩⟩⟩ ?_
 refine aw<|ay<|ba (k:=18) J fun hN=>bI ?_;refine aS (kE (Z:=fun ls i out l c=>(e.drop i=ls)∧fU n ls out=some R) (Of:=fun _ i out l c=>[fx dj 43 l c out,bx (rH ee [(1,aR (ix.h 0).1 (ix.h 0).2 r.rows.length),(2,aR (ix.h 1).1 (ix.h 1).2 r.width.length)]) 96 b r,dV dT 32 (ix.h 0).1 (ix.h 0).2 r.rows,dV bX 3 (ix.h 1).1 (ix.h 1).2 r.width]) (Gf:=fun _ i out l c=>[(3,bO aI n),(6,rL l c out),(18,ca (dj) e),(19,jk e),(20,bM (i:Int))]) (fun i out l c h=>?_) (fun e1 tl ih i out l c h=>?_) e 0 Hr none 0 ⟨J,h⟩) (bv J)
 ·obtain⟨hx,h⟩:=h
  refine aC<|au<|zo J (fD J J)<|aq<|ah<|bz (ht J) (di hx)<|bu ?_;refine ai (ai (aN ?_));refine aw<|au<|aF rfl<|bp rfl<|zo rfl (cw)<|aq<|ak<|jA<|cB 6 rfl<|cB 40 rfl<|cB 4 rfl<|jB 4 rfl<|bm<|aK<|aK<|aK ?_;cases so h;exact d7 (ts:=[ca (dj) out,bM 0]) (rvs:=[.tmp 4,.tmp 5]) J J ⟨bc J,bc J,aT⟩ pE J J
 ·obtain⟨hx,h⟩:=h
  refine aC<|au<|zo J (fD J J)<|aq<|ah<|bw (ht J) (dg hx)<|dS<|ah<|ay<|au<|zo J (lX jW d3 J J J (cS hx))<|zo J (bB d3 J J)<|bp J<|aq<|au<|zo J (cW tg mB J J)<|zo J (bB jC J J)<|aF J ?_;refine bC h fun r1 q_r1 h=>zo J (aD WK (Oq _ _ q_r1) ⟨(ht J),(ht J),aT⟩)<|aF J<|zo J (hY J J)<|zo J (hY J J)<|bp J<|bp J<|aq<|ah<|au<|aF J<|zo J (tJ J)<|aq<|c9 h J (fun h=>?_) (fun h=>?_)
  ·refine au<|aF J<|zo J (aL (show aJ _ _ _ vA from j9))<|bp J<|aq<|ak ?_;refine ae (aA (ae (ae (aA (ae ?_)))));refine bm<|aK<|aK<|aK ?_;cases so h;exact d7 (ts:=[ca (dj) ([]),bM r1.2]) (rvs:=[.tmp 4,.tmp 5]) J J ⟨bc J,bc J,aT⟩ pE J J
  ·refine dS<|au<|aF J<|aq<|c9 h J (fun h=>?_) (fun h=>?_)
   ·refine av<|aF J<|aF J<|zo J (aV (r:=dj) (ys:=[e1]) (xs:=[.tmp 36]) jW d3 J J J J J ⟨(ht J),aT⟩)<|bC h fun out1 q_out1 h=>cV d3 J J J J jW J J (ht J) (ht J) q_out1 fun l1 c1=>bp J<|aQ<|ap<|aw<|av<|zo rfl (lY (cA hx hN) rfl)<|aF rfl<|aQ ?_;exact bf (aS (ih (i+1) out1 l1 c1 ⟨cz hx,h⟩) (bv J))
   ·refine bA<|ap<|aw<|av<|zo rfl (lY (cA hx hN) rfl)<|aF rfl<|aQ ?_;exact bf (aS (ih (i+1) out l c ⟨cz hx,h⟩) (bv J))

theorem Vq(a1:ea)(rows:(List (List ac))){R:(List ac)×Int}(h:xu a1 rows=some R):aU aO 131 [tD eg a1,ca (dj) rows] (tT [ca (af) R.1,bM R.2]):=by
 refine aU.of Tryz.func131 J J J fun w0 S0=>au<|zo J (je J)<|zo J (aL (show aJ _ _ _ (ca (af) ([]))from j9))<|zo J (cw)<|aq<|au<|bQ false af 46<|zo J (aL s9)<|aq<|au<|zo J (cw)<|aq<|ah<|au<|aF J<|zo J (iM jW J) ?_;refine zo J (bD hI)<|aq<|ay<|ba (k:=12) J fun hN=>bI ?_;refine aS (tE (Z:=fun ls i out l c fault=>(rows.drop i=ls)∧jv a1 ls out fault=some R) (Of:=fun _ i out l c fault=>[fx af 46 l c out]) (Gf:=fun _ i out l c fault=>[(2,bO eg a1),(6,rL l c out),(7,bM fault),(12,ca (dj) rows),(13,jk rows),(14,bM (i:Int))]) (fun i out l c fault h=>?_) (fun e tl ih i out l c fault h=>?_) rows 0 Hq none 0 (0:Int) ⟨J,h⟩) (bv J)
 ·obtain⟨hx,h⟩:=h
  refine aC<|au<|zo J (fD J J)<|aq<|ah<|bz (ht J) (di hx)<|bu ?_;refine ai (ai (aN ?_));refine aw<|au<|aF rfl<|aF rfl<|bp rfl<|bp rfl<|aq<|ak<|jA<|cB 6 rfl<|cB 41 rfl<|cB 4 rfl<|jB 4 rfl<|bm ?_;cases so h;exact cJ J J J
 ·obtain⟨hx,h⟩:=h
  refine aC<|au<|zo J (fD J J)<|aq<|ah<|bw (ht J) (dg hx)<|dS<|ah<|ay<|au<|zo J (lX jW d3 J J J (cS hx))<|zo J (bB d3 J J)<|bp J<|aq<|au<|zo J (cW zJ te J J)<|zo J (bB jC J J)<|aF J ?_;refine bC h fun r q_r h=>zo J (aD Sv (IA _ _ q_r) ⟨(ht J),(ht J),aT⟩)<|aF J<|zo J (hY J J)<|zo J (hY J J)<|aZ (r:=af) (x:=ie) aH (fun _=>bh _) J fun b=>ax aH J an J (ht J) (ht J)<|aW 10 J<|bp J<|aq<|ay<|au<|aF J<|zo J (np J)<|bp J<|aq<|c9 h J (fun h=>?_) (fun h=>?_)
  ·refine av<|aF J<|bp J<|aQ<|ap<|ap<|aw<|av<|zo rfl (lY (cA hx hN) rfl)<|aF rfl<|aQ ?_;exact bf (aS (ih (i+1) out l c r.2 ⟨cz hx,h⟩) (bv J))
  ·refine au<|aF J<|zo J (tJ J)<|bp J<|aq<|c9 h J (fun h=>?_) (fun h=>?_)
   ·refine au<|zo J (aL (show aJ _ _ _ (ca (af) ([]))from j9))<|zo J (cw)<|aq<|ak ?_;refine aA (aA (ae (ae (aA (ae ?_)))));refine bm ?_;cases so h;exact cJ J J J
   ·refine au<|zo J (cW gK cy J J)<|zo J (bB cr J J)<|zo J (tJ J)<|bp J<|aq<|c9 h J (fun h=>?_) (fun h=>?_)
    ·refine av<|aF J<|zo J (bB aH J J)<|zo J (aV (r:=af) (ys:=[r.1]) (xs:=[.tmp 37]) j7 aH J J J J J ⟨(ht J),aT⟩)<|bC h fun out1 q_out1 h=>cV aH J J J J j7 J J (ht J) (ht J) q_out1 fun l1 c1=>bp J<|aQ<|ap<|ap<|aw<|av<|zo rfl (lY (cA hx hN) rfl)<|aF rfl<|aQ ?_;exact bf (aS (ih (i+1) out1 l1 c1 fault ⟨cz hx,h⟩) (bv J))
    ·refine bA<|ap<|ap<|aw<|av<|zo rfl (lY (cA hx hN) rfl)<|aF rfl<|aQ ?_;exact bf (aS (ih (i+1) out l c fault ⟨cz hx,h⟩) (bv J))

theorem Vp(v:ac){R:Bool}(h:mJ v=some R):aU aO 132 [tD af v] (ig R):=by
 refine aU.of Tryz.func132 J J J fun w0 S0=>au<|zo J (je J)<|zo J (jj)<|aq<|au<|zo J (cW gK cy J J)<|zo J (bB cr J J)<|zo J (tJ J)<|bp J<|aq<|ak ?_;cases so h;exact aG J J

theorem UY(s:(List ac))(f:(ac→Option Bool)){R:Int}(h:gq s f=some R):aU aO 215 [ca (af) s,(dn aO An ko (fun(x:ac)=>f x))] (bM R):=by
 refine aU.of Tryz.func215 J J J fun w0 S0=>au<|zo J (cw)<|aq<|ah<|au<|aF J<|zo J (iM j7 J)<|zo J (bD hI)<|aq<|ay<|ba (k:=6) J fun hN=>bI ?_;refine aS (dQ (Z:=fun ls i=>(s.drop i=ls)∧cX f ls i=some R) (Of:=fun _ i=>[]) (Gf:=fun _ i=>[(0,ca (af) s),(1,(dn aO An ko (fun(x:ac)=>f x))),(7,jk s),(8,bM (i:Int))]) (fun i h=>?_) (fun e tl ih i h=>?_) s 0 ⟨J,h⟩) (bv J)
 ·obtain⟨hx,h⟩:=h
  refine aC<|au<|zo J (fD J J)<|aq<|ah<|bz (ht J) (di hx)<|bu ?_;refine ai (ai (aN ?_));refine aw<|au<|zo rfl (cw)<|aq<|ak ?_;cases so h;exact aG J J
 ·obtain⟨hx,h⟩:=h
  refine aC<|au<|zo J (fD J J)<|aq<|ah<|bw (ht J) (dg hx)<|dS<|ah<|ay<|au<|aF J<|bp J<|aq<|au<|aF J<|aF J<|aF J<|zo J (lX j7 aH J J J (cS hx)) ?_;refine zo J (bB aH J J)<|bC h fun r q_r h=>zo J (fJ (args:=An) (res:=Bz) (f:=(fun(x:ac)=>f x)) (x:=((e):ac)) (ht J) q_r ⟨(ht J),aT⟩)<|aq<|c9 h J (fun h=>?_) (fun h=>?_)
  ·refine au<|aF J<|bp J<|aq<|ak ?_;refine aA (ae (ae (aA (ae ?_))));cases so h;exact aG J J
  ·refine bA<|ap<|aw<|av<|zo rfl (lY (cA hx hN) rfl)<|aF rfl<|aQ ?_;exact bf (aS (ih (i+1) ⟨cz hx,h⟩) (bv J))

theorem Vo(s:(List ac))(f:(ac→Option Bool)){R:Bool}(h:dW s f=some R):aU aO 133 [ca (af) s,(dn aO An ko (fun(x:ac)=>f x))] (ig R):=by
 refine aU.of Tryz.func133 J J J fun w0 S0=>au<|zo J (jj)<|aq<|au<|aF J<|aF J<|bC h fun r q_r h=>zo J (aD aaW (UY _ _ q_r) ⟨(ht J),(ht J),aT⟩)<|zo J (iu (ht J) hI)<|bp J<|aq<|ak ?_;cases so h;exact aG J J

theorem Ir(v:ac){R:ac}(h:qJ v=some R):aU aO 289 [tD af v] (tD af R):=by
 refine aU.of Tryz.func289 J J J fun w0 S0=>au<|zo J (je J)<|aZ (r:=af) (x:=ie) aH (fun _=>bh _) J fun b=>aq<|au<|zo J (cW lO fz J J)<|zo J (bB FM J J)<|zo J (BQ (ht J) hI (by decide))<|zo J (cW lO fz J J)<|zo J (bB FM J J)<|zo J (sd Ae Ag (ht J))<|zo J (ck (y:=(⟨(4:Int),((v.N).fdiv (2^(min (Int.toNat (63:Int)) IntKind.i64.bits))),(IntKind.u64.wrap v.N),[]⟩:ac)) aH ql bh (⟨_,_,_,_,_,J,nI,J,hI,⟨_,_,_,_,_,J,oY,J,(ht J),⟨_,_,_,_,_,J,zr,J,(ht J),J⟩⟩⟩))<|ax aH J an J (ht J) (ht J)<|aW 2 J<|aq<|ak ?_;cases so h;exact iS J aH J J J

theorem UA(s:ac)(t:ac){R:ac×Int}(h:wa s t=some R):aU aO 290 [tD af s,tD af t] (tT [tD af R.1,bM R.2]):=by
 refine aU.of Tryz.func290 J J J fun w0 S0=>au<|zo J (je J)<|zo J (je J)<|aZ (r:=af) (x:=ie) aH (fun _=>bh _) J fun b=>zo J (cw)<|aq<|au<|zo J (cW BX qC J J)<|zo J (bB Lz J J)<|zo J (cW BX qC J J)<|zo J (bB Lz J J)<|bC h fun r q_r h=>zo J (JV Tryz.func347 (by kernel_rfl) (by kernel_rfl) (by kernel_rfl) (by kernel_rfl) (ht J) (ht J) hI q_r)<|aF J<|zo J (hY J J)<|zo J (hY J J)<|bp J<|bp J<|aq ?_;refine au<|zo J (cW lO fz J J)<|zo J (bB FM J J)<|zo J (sd Ae Ag (ht J))<|zo J (cW lO fz J J)<|zo J (bB FM J J)<|zo J (sd Ae Ag (ht J))<|aF J<|bC h fun r1 q_r1 h=>zo J (JV Tryz.func347 (by kernel_rfl) (by kernel_rfl) (by kernel_rfl) (by kernel_rfl) (ht J) (ht J) (ht J) q_r1)<|aF J<|zo J (hY J J)<|zo J (hY J J)<|bp J<|bp J<|aq<|au<|aF J<|zo J (sd Ag Ae (ht J))<|bp J<|aQ ?_;refine aw<|ah<|au<|zo rfl (cW lO fz rfl rfl)<|zo rfl (bB FM rfl rfl)<|aF rfl<|zo rfl (BO (ht rfl) (ht rfl))<|zo rfl (cW lO fz rfl rfl)<|zo rfl (bB FM rfl rfl)<|aF rfl<|zo rfl (BO (ht rfl) (ht rfl))<|zo rfl (BR (ht rfl) (ht rfl))<|zo rfl (gJ (ht rfl) hI)<|aq<|c9 h rfl (fun h=>?_) (fun h=>?_)
 ·refine au<|zo J (ck (y:=ie) aH ql bh (J))<|ax aH J an J (ht J) (ht J)<|zo J (cw)<|aq<|ak<|ae<|bn 4 J ?_;cases so h;exact bR J J ⟨bt aH J J J,bc J,aT⟩
 ·refine dS<|au<|aF J<|aF J<|zo J (ck (y:=(⟨(4:Int),(IntKind.i64.wrap r1.1),r.1,[]⟩:ac)) aH ql bh (⟨_,_,_,_,_,J,nI,J,hI,⟨_,_,_,_,_,J,oY,J,(ht J),⟨_,_,_,_,_,J,zr,J,(ht J),J⟩⟩⟩))<|ax aH J an J (ht J) (ht J)<|zo J (cw)<|aq<|ak<|bn 4 J ?_;cases so h;exact bR J J ⟨bt aH J J J,bc J,aT⟩

theorem UX(s:ac)(v:ac){R:ac×Int}(h:sE s v=some R):aU aO 217 [tD af s,tD af v] (tT [tD af R.1,bM R.2]):=by
 refine aU.of Tryz.func217 J J J fun w0 S0=>au<|zo J (je J)<|zo J (je J)<|aZ (r:=af) (x:=ie) aH (fun _=>bh _) J fun b=>zo J (cw)<|aq<|ah<|ah<|bC h fun r q_r h=>bC h fun r1 q_r1 h=>?_
 refine cU (ts:=[_,_,_,_,_,_,_,_]) mixed J J
  ⟨fd 2 J J J (bB aH J J),
  ⟨bW 8 0 J J J (aV (r:=af) (ys:=[s]) (xs:=[.tmp 8]) j7 aH J J J J J ⟨(ht J),aT⟩),
  ⟨bW 9 1 J J J (aD OF (Do _ _ q_r) ⟨hI,(ht J),aT⟩),
  ⟨fd 3 J J J (bB aH J J),
  ⟨bW 11 3 J J J (aV (r:=af) (ys:=[v]) (xs:=[.tmp 11]) j7 aH J J J J J ⟨(ht J),aT⟩),
  ⟨bW 12 4 J J J (aD OF (Do _ _ q_r1) ⟨hI,(ht J),aT⟩),
  ⟨bW 10 2 J J J (uM J),
  ⟨bW 13 5 J J J (uM J),
  aT⟩⟩⟩⟩⟩⟩⟩⟩ ?_
 refine aw<|ay<|au<|aF rfl<|zo rfl (np rfl)<|aF rfl<|gD rfl rfl (fun hg=>dA J)<|gD J J (fun hg=>dL (bK J hg) hI)<|zo J (yO J J)<|bp J<|aq<|c9 h J (fun h=>?_) (fun h=>?_)
 ·refine au<|zo J (ck (y:=ie) aH ql bh (J))<|ax aH J an J (ht J) (ht J)<|zo J (cw)<|aq<|ak ?_;refine aA (ae ?_);refine bn 4 J ?_;cases so h;exact bR J J ⟨bt aH J J J,bc J,aT⟩
 ·refine au<|aF J<|zo J (tJ J)<|aF J<|gD J J (fun hg=>dA J)<|gD J J (fun hg=>fj (bK J hg) hI)<|zo J (yO J J)<|bp J<|aq<|c9 h J (fun h=>?_) (fun h=>?_)
  ·refine au<|zo J (ck (y:=ie) aH ql bh (J))<|ax aH J an J (ht J) (ht J)<|zo J (cw)<|aq<|ak ?_;refine aA (ae ?_);refine bn 4 J ?_;cases so h;exact bR J J ⟨bt aH J J J,bc J,aT⟩
  ·refine au<|zo J (cW gK cy J J)<|zo J (bB cr J J)<|zo J (np J)<|bp J<|aq<|c9 h J (fun h=>?_) (fun h=>?_)
   ·refine au<|zo J (bB aH J J)<|ax aH J an J (ht J) (ht J)<|zo J (cw)<|aq<|ak ?_;refine aA (ae ?_);refine bn 4 J ?_;cases so h;exact bR J J ⟨bt aH J J J,bc J,aT⟩
   ·refine au<|zo J (cW gK cy J J)<|zo J (bB cr J J)<|zo J (np J)<|bp J<|aq<|c9 h J (fun h=>?_) (fun h=>?_)
    ·refine au<|zo J (bB aH J J)<|bC h fun r2 q_r2 h=>zo J (aD Sj (Ir _ q_r2) ⟨(ht J),aT⟩)<|ax aH J an J (ht J) (ht J)<|zo J (cw)<|aq<|ak ?_;refine aA (ae ?_);refine bn 4 J ?_;cases so h;exact bR J J ⟨bt aH J J J,bc J,aT⟩
    ·refine bA<|ap<|aw<|ah<|bC h fun r3 q_r3 h=>bC h fun r4 q_r4 h=>?_
     refine tG 6 (ts:=[tD af s,tD af v,tD af r3,tT [tD af r4.1,bM r4.2],tD af r4.1,bM r4.2]) mixed J J J
      ⟨fd 2 J J J (bB aH J J),
      ⟨fd 3 J J J (bB aH J J),
      ⟨bW 42 1 J J J (aD Sj (Ir _ q_r3) ⟨(ht J),aT⟩),
      ⟨d8 41 0 43 2 J J J J (aD aaw (UA _ _ q_r4) ⟨(ht J),(ht J),aT⟩),
      ⟨bW 44 3 J J J (hY J J),
      ⟨bW 44 3 J J J (hY J J),
      aT⟩⟩⟩⟩⟩⟩ ?_
     refine ax aH J an J (ht J) (ht J)<|bp J<|aq<|ak<|bn 4 J ?_;cases so h;exact bR J J ⟨bt aH J J J,bc J,aT⟩

theorem UW(s:ac){R:ac×Int}(h:yi s=some R):aU aO 218 [tD af s] (tT [tD af R.1,bM R.2]):=by
 refine aU.of Tryz.func218 J J J fun w0 S0=>au<|zo J (je J)<|aZ (r:=af) (x:=ie) aH (fun _=>bh _) J fun b=>zo J (cw)<|aq<|ah<|au<|zo J (bB aH J J)<|zo J (aV (r:=af) (ys:=[s]) (xs:=[.tmp 6]) j7 aH J J J J J ⟨(ht J),aT⟩)<|bC h fun r q_r h=>zo J (aD OF (Do _ _ q_r) ⟨hI,(ht J),aT⟩)<|bp J<|aq<|ay<|au<|aF J<|zo J (tJ J)<|bp J ?_;refine aq<|c9 h J (fun h=>?_) (fun h=>?_)
 ·refine au<|zo J (ck (y:=ie) aH ql bh (J))<|aF J<|ax aH J an J (ht J) (ht J)<|bp J<|aq<|ak ?_;refine aA (ae ?_);refine bn 2 J ?_;cases so h;exact bR J J ⟨bt aH J J J,bc J,aT⟩
 ·refine au<|zo J (cW gK cy J J)<|zo J (bB cr J J)<|zo J (np J)<|bp J<|aq<|c9 h J (fun h=>?_) (fun h=>?_)
  ·refine au<|zo J (bB aH J J)<|ax aH J an J (ht J) (ht J)<|zo J (cw)<|aq<|ak ?_;refine aA (ae ?_);refine bn 2 J ?_;cases so h;exact bR J J ⟨bt aH J J J,bc J,aT⟩
  ·refine bA<|ap<|aw<|ah<|au<|zo rfl (cW BX qC rfl rfl)<|zo rfl (bB Lz rfl rfl)<|zo rfl (sd Ag Ae (ht rfl))<|bC h fun r1 q_r1 h=>zo J (aD KO (A1 _ q_r1) ⟨(ht J),aT⟩)<|aZ (r:=af) (x:=ie) aH (fun _=>bh _) J fun b1=>ax aH J an J (ht J) (ht J)<|aW 5 J<|aq<|ah<|bC h fun r2 q_r2 h=>?_
   refine cU (ts:=[_,_,_,_]) mixed J J
    ⟨fd 5 J J J (bB aH J J),
    ⟨bW 23 0 J J J (aD Sj (Ir _ q_r2) ⟨(ht J),aT⟩),
    ⟨fd 1 J J J (bB aH J J),
    ⟨d8 24 1 25 2 J J J J (Dh PH (ht J) (ht J)),
    aT⟩⟩⟩⟩ ?_
   refine aw<|c9 h rfl (fun h=>?_) (fun h=>?_)
   ·refine au<|zo J (bB aH J J)<|ax aH J an J (ht J) (ht J)<|zo J (cw)<|aq<|ak<|ae<|bn 2 J ?_;cases so h;exact bR J J ⟨bt aH J J J,bc J,aT⟩
   ·refine dS<|au<|zo J (ck (y:=ie) aH ql bh (J))<|ax aH J an J (ht J) (ht J)<|zo J (cw)<|aq<|ak<|bn 2 J ?_;cases so h;exact bR J J ⟨bt aH J J J,bc J,aT⟩

theorem Vn(l:(List ac)){R:ac×Int}(h:yj l=some R):aU aO 134 [ca (af) l] (tT [tD af R.1,bM R.2]):=by
 refine aU.of Tryz.func134 J J J fun w0 S0=>au<|aZ (r:=af) (x:=ie) aH (fun _=>bh _) J fun b=>zo J (cw)<|aq<|ah<|au<|aF J<|zo J (iM j7 J)<|zo J (gu (ht J) hI)<|aq<|c9 h J (fun h=>?_) (fun h=>?_)
 ·refine au<|zo J (ck (y:=ie) aH ql bh (J))<|ax aH J an J (ht J) (ht J)<|zo J (cw)<|aq<|ak<|ae<|bn 2 J ?_;cases so h;exact bR J J ⟨bt aH J J J,bc J,aT⟩
 ·refine dS<|au<|bC h fun r q_r h=>zo J (aD So (Ix q_r) trivial)<|aZ (r:=af) (x:=ie) aH (fun _=>bh _) J fun b1=>ax aH J an J (ht J) (ht J)<|aq<|ah<|au<|aF J<|zo J (iM j7 J)<|zo J (bD hI)<|aq<|ay<|ba (k:=14) J fun hN=>bI<|jb ?_;refine aS (vj (Z:=fun ls i x s=>(l.drop i=ls)∧mO ls x s=some R) (Of:=fun _ i x s=>[bx af 46 b x,bx af 46 b1 s]) (Gf:=fun _ i x s=>[(2,tV (aP b 0)),(4,tV (aP b1 0)),(14,ca (af) l),(15,jk l),(16,bM (i:Int))]) (fun i x s h=>?_) (fun e tl ih i x s h=>?_) l 0 ie r ⟨J,h⟩) (bv J)
  ·obtain⟨hx,h⟩:=h
   refine aC<|au<|zo J (fD J J)<|aq<|ah<|bz (ht J) (di hx)<|bu ?_;refine ai (ai (aN ?_));refine aw<|au<|zo rfl (cd aH rfl rfl bS (.tail _ (.head _)) (ht rfl))<|bC h fun r1 q_r1 h=>zo J (aD aaU (UW _ q_r1) ⟨(ht J),aT⟩)<|zo J (hY J J)<|zo J (hY J J)<|ax aH J an J (ht J) (ht J)<|bp J<|aq<|ak<|bn 2 J<|bm ?_;cases so h;exact bR J J ⟨bt aH J J J,bc J,aT⟩
  ·obtain⟨hx,h⟩:=h
   refine aC<|au<|zo J (fD J J)<|aq<|ah<|bw (ht J) (dg hx)<|dS<|ah<|ay<|au<|zo J (lX j7 aH J J J (cS hx))<|zo J (bB aH J J)<|aZ (r:=af) (x:=ie) aH (fun _=>bh _) J fun b2=>ax aH J an J (ht J) (ht J)<|aW 6 J<|aq<|au<|zo J (cd aH J J bS (.tail _ (.head _)) (ht J)) ?_;refine zo J (bB aH J J)<|bC h fun r2 q_r2 h=>zo J (aD aaV (UX _ _ q_r2) ⟨(ht J),(ht J),aT⟩)<|aF J<|zo J (hY J J)<|zo J (hY J J)<|aZ (r:=af) (x:=ie) aH (fun _=>bh _) J fun b3=>ax aH J an J (ht J) (ht J)<|aW 7 J<|bp J<|aq<|ah<|au<|aF J<|zo J (tJ J)<|aq<|c9 h J (fun h=>?_) (fun h=>?_)
   ·refine au<|zo J (bB aH J J)<|aF J<|ax aH J an J (ht J) (ht J)<|bp J<|aq<|ak ?_;refine ae (aA (ae (ae (aA (ae ?_)))));refine bn 2 J<|bm ?_;cases so h;exact bR J J ⟨bt aH J J J,bc J,aT⟩
   ·refine dS<|av<|zo J (bB aH J J)<|bL<|ax aH J an J (ht J) (ht J)<|aQ<|ap<|aw<|av<|zo rfl (lY (cA hx hN) rfl)<|aF rfl<|aQ<|bF ?_;exact bf (aS (ih (i+1) x r2.1 ⟨cz hx,h⟩) (bv J))

theorem Vm(p:(List ac))(cmp:(ac→ac→Option Int)){R:ac}(h:eS p cmp=some R):aU aO 135 [ca (af) p,(dn aO qh yy (fun(x:ac×ac)=>cmp x.1 x.2))] (tD af R):=by
 refine aU.of Tryz.func135 J J J fun w0 S0=>au<|aZ (r:=af) (x:=ie) aH (fun _=>bh _) J fun b=>aq ?_;refine vo (Z:=ga p cmp=some R) (Of:=[bx af 46 b ie]) (Gf:=[(0,ca (af) p),(1,(dn aO qh yy (fun(x:ac×ac)=>cmp x.1 x.2))),(4,tV (aP b 0))]) (fun h=>?_) (fun K=>?_)
 ·skip
  refine au<|aF J<|bC h fun e q_e h=>zo J (bq j7 aH J (ht J) hI q_e)<|zo J (bB aH J J)<|aZ (r:=af) (x:=ie) aH (fun _=>bh _) J fun b1=>ax aH J an J (ht J) (ht J)<|aq<|ah<|au<|zo J (cw)<|aq<|ay<|ba (k:=0) J fun hN=>bI<|jb ?_;refine aS (n7 (Z:=fun ls i m=>(p.drop i=ls)∧cC cmp ls m=some R) (Of:=fun _ i m=>[bx af 46 b ie,bx af 46 b1 m]) (Gf:=fun _ i m=>[(0,ca (af) p),(1,(dn aO qh yy (fun(x:ac×ac)=>cmp x.1 x.2))),(4,tV (aP b 0)),(5,tV (aP b1 0)),(6,bM (i:Int))]) (fun i m h=>?_) (fun e1 tl ih i m h=>?_) (p.drop (1)) 1 e ⟨J,h⟩) (bv J)
  ·obtain⟨hx,h⟩:=h
   refine aC<|ah<|au<|aF J<|aF J<|zo J (iM j7 J)<|zo J (fD J J)<|aq<|bz (ht J) (di hx)<|bu ?_;refine ai (ai (aN ?_));refine aw<|au<|zo rfl (cd aH rfl rfl bS (.tail _ (.head _)) (ht rfl))<|ax aH rfl an rfl (ht rfl) (ht rfl)<|aW 4 rfl<|aq<|ak<|bm ?_;cases so h;exact iS J aH J J J
  ·obtain⟨hx,h⟩:=h
   refine aC<|ah<|au<|aF J<|aF J<|zo J (iM j7 J)<|zo J (fD J J)<|aq<|bw (ht J) (dg hx)<|dS<|ah<|ay<|ah<|bC h fun r q_r h=>?_
   refine cU (ts:=[_,_,_,_,_,_,_,_]) mixed J J
    ⟨fd 1 J J J (dA J),
    ⟨fd 0 J J J (dA J),
    ⟨fd 6 J J J (dA J),
    ⟨d8 21 1 22 2 J J J J (lX j7 aH J J J (cS hx)),
    ⟨bW 23 3 J J J (bB aH J J),
    ⟨fd 5 J J J (cd aH J J bS (.tail _ (.head _)) (ht J)),
    ⟨Gn 20 0 24 4 25 5 J J J J J (fJ (args:=qh) (res:=S3) (f:=(fun(x:ac×ac)=>cmp x.1 x.2)) (x:=((e1,m):ac×ac)) (ht J) q_r ⟨(ht J),(ht J),aT⟩),
    ⟨bW 26 6 J J J (gJ (ht J) hI),
    aT⟩⟩⟩⟩⟩⟩⟩⟩ ?_
   refine aw<|c9 h rfl (fun h=>?_) (fun h=>?_)
   ·refine av<|aF J<|aF J<|zo J (lX j7 aH J J J (cS hx))<|zo J (bB aH J J)<|bL<|ax aH J an J (ht J) (ht J)<|aQ<|ap<|aw<|av<|aF rfl<|zo rfl (lY (cA hx hN) rfl)<|bp rfl<|aQ<|bF ?_;exact bf (aS (ih (i+1) e1 ⟨cz hx,h⟩) (bv J))
   ·refine bA<|ap<|aw<|av<|aF rfl<|zo rfl (lY (cA hx hN) rfl)<|bp rfl<|aQ ?_;exact bf (aS (ih (i+1) m ⟨cz hx,h⟩) (bv J))
 ·skip
  refine au<|aF J<|zo J (iM j7 J)<|zo J (gJ (ht J) hI)<|aq<|c9 h J (fun h=>?_) (fun h=>?_)
  ·refine av ?_;exact(nn h).elim
  ·refine bA ?_;exact cO (K h) (bv J)

theorem Vh(v:ac){R:Bool}(h:q7 v=some R):aU aO 158 [tD af v] (ig R):=by
 refine aU.of Tryz.func158 J J J fun w0 S0=>au<|zo J (je J)<|zo J (jj)<|aq<|au<|zo J (bB aH J J)<|bC h fun r q_r h=>zo J (aD KP (A2 _ q_r) ⟨(ht J),aT⟩)<|zo J (tJ J)<|bp J<|aq<|ak ?_;cases so h;exact aG J J

theorem UU(s:(List ac))(f:(ac→Option Bool)){R:Int}(h:kq s f=some R):aU aO 242 [ca (af) s,(dn aO An ko (fun(x:ac)=>f x))] (bM R):=by
 refine aU.of Tryz.func242 J J J fun w0 S0=>au<|zo J (cw)<|aq<|ah<|au<|aF J<|zo J (iM iK J)<|zo J (bD hI)<|aq<|ay<|ba (k:=6) J fun hN=>bI ?_;refine aS (dQ (Z:=fun ls i=>(s.drop i=ls)∧cE f ls i=some R) (Of:=fun _ i=>[]) (Gf:=fun _ i=>[(0,ca (af) s),(1,(dn aO An ko (fun(x:ac)=>f x))),(7,jk s),(8,bM (i:Int))]) (fun i h=>?_) (fun e tl ih i h=>?_) s 0 ⟨J,h⟩) (bv J)
 ·obtain⟨hx,h⟩:=h
  refine aC<|au<|zo J (fD J J)<|aq<|ah<|bz (ht J) (di hx)<|bu ?_;refine ai (ai (aN ?_));refine aw<|au<|zo rfl (cw)<|aq<|ak ?_;cases so h;exact aG J J
 ·obtain⟨hx,h⟩:=h
  refine aC<|au<|zo J (fD J J)<|aq<|ah<|bw (ht J) (dg hx)<|dS<|ah<|ay<|au<|aF J<|bp J<|aq<|au<|aF J<|aF J<|aF J<|zo J (lX iK aH J J J (cS hx)) ?_;refine zo J (bB aH J J)<|bC h fun r q_r h=>zo J (fJ (args:=An) (res:=Bz) (f:=(fun(x:ac)=>f x)) (x:=((e):ac)) (ht J) q_r ⟨(ht J),aT⟩)<|aq<|c9 h J (fun h=>?_) (fun h=>?_)
  ·refine au<|aF J<|bp J<|aq<|ak ?_;refine aA (ae (ae (aA (ae ?_))));cases so h;exact aG J J
  ·refine bA<|ap<|aw<|av<|zo rfl (lY (cA hx hN) rfl)<|aF rfl<|aQ ?_;exact bf (aS (ih (i+1) ⟨cz hx,h⟩) (bv J))

theorem Vg(s:(List ac))(f:(ac→Option Bool)){R:Bool}(h:gc s f=some R):aU aO 159 [ca (af) s,(dn aO An ko (fun(x:ac)=>f x))] (ig R):=by
 refine aU.of Tryz.func159 J J J fun w0 S0=>au<|zo J (jj)<|aq<|au<|aF J<|aF J<|bC h fun r q_r h=>zo J (aD aaR (UU _ _ q_r) ⟨(ht J),(ht J),aT⟩)<|zo J (iu (ht J) hI)<|bp J<|aq<|ak ?_;cases so h;exact aG J J

theorem MC(r:(List ac)){R:Bool}(h:sr r=some R):aU aO 94 [ca (af) r] (ig R):=by
 refine aU.of Tryz.func94 J J J fun w0 S0=>au<|zo J (jj)<|aq<|au<|zo J (aL (show aJ _ _ _ ((dn aO An ko (fun(x:ac)=>q7 x)))from(yF abv fun x y h=>Vh _ h)))<|aq<|au<|aF J<|zo J (iM iK J)<|zo J (nN (ht J) hI)<|aF J<|bC h fun t q_t h=>dC J J (fun hg=>dA J)<|dC J J (fun hg=>dA J) ?_
 obtain⟨r1,h1t,h0t⟩:=og q_t
 have q_r1g:=fun hb=>(h1t hb).1
 refine dC J J (fun hg=>aD abu (Vg _ _ (q_r1g hg)) ⟨(bK J hg),(bK J hg),aT⟩)<|dC J J (fun hg=>fS (bK J hg))<|zo J (d4 (ht J) (fun hb=>(bK J hb)) (fun hb=>(h1t hb).2) h0t)<|bp J<|aq<|ak ?_;cases so h;exact aG J J

end Go.Proofs.YtfhhakidodmdfaaGreatDoor

