/- db of this claim: P2. -/
import Derived.Test.YtfhhakidodmdfaaGreatDoorJbT
import Derived.Test.YtfhhakidodmdfaaGreatDoorJbP1
set_option linter.all false
namespace Go.Proofs.YtfhhakidodmdfaaGreatDoor
open Go
set_option maxRecDepth 100000

theorem Oc(e:br)(kinds:(List Int)){R:Bool}(h:rh e kinds=some R):aU aO 282 [tD bT e,lW kinds] (ig R):=by
 refine aU.of Tryz.func282 J J J fun w0 S0=>au<|zo J (je J)<|zo J (jj)<|aq<|au<|zo J (bB jC J J)<|aF J<|bC h fun r q_r h=>zo J (aD Sk (Is _ _ q_r) ⟨(ht J),(ht J),aT⟩)<|aF J<|zo J (hY J J)<|zo J (hY J J)<|bp J<|bp J<|aq<|au<|aF J<|zo J (np J) ?_;refine aF J<|dC J J (fun hg=>dA J)<|dC J J (fun hg=>dL (bK J hg) hI)<|dC J J (fun hg=>bD (bK J hg))<|qd J J J J (fun hg=>dA J)<|qd J J J J (fun hg=>dL (bK J hg) hI)<|dC J J (fun hg=>xU (bK J hg) (fun hb=>(bK J (Bi hg (wv hb)))))<|zo J (uK J J)<|bp J<|aq<|ak ?_;cases so h;exact aG J J

theorem Yo(b:Nat)(ix:OI)(c:aE)(n:am){R:(List Int)×Bool}(h:gS c n=some R):c0 aO 203 [tV (aP b 0),tD aI n] (dB b c ix) (fun _:OI=>tT [lW R.1,ig R.2]) (fun _=>(dB b c ix)):=by
 refine c0.of Tryz.func203 J J J fun w0 S0=>?_;refine(show CG _ _ _ [bx (rH bk [(1,aR (ix.h 0).1 (ix.h 0).2 c.kinds.length),(2,aR (ix.h 1).1 (ix.h 1).2 c.first.length)]) 115 b c,dV nw 39 (ix.h 0).1 (ix.h 0).2 c.kinds,dV bX 3 (ix.h 1).1 (ix.h 1).2 c.first] _ from ?_);refine au<|zo J (je J)<|zo J (aL (show aJ _ _ _ wN from j9))<|zo J (jj)<|aq<|ah<|bC h fun e q_e h=>bC h fun e1 q_e1 h=>bC h fun r q_r h=>?_
 refine cU (ts:=[_,_,_,_,_,_,_,_,_,_,_,_,_,_,_,_,_,_,_]) mixed J J
  ⟨fd 0 J J J (dA J),
  ⟨bW 7 0 J J J (dE (ht J)),
  ⟨bW 8 1 J J J (kP 1 nt J J J),
  ⟨bW 9 2 J J J (df sN J (.head _) (.tail _ (.head _)) (ht J)),
  ⟨fd 3 J J J (cW jT dP J J),
  ⟨bW 11 4 J J J (bB cr J J),
  ⟨d8 10 3 12 5 J J J J (bq vv d9 J (lk (ht J)) (ht J) q_e),
  ⟨bW 13 6 J J J (bB d9 J J),
  ⟨fd 0 J J J (dA J),
  ⟨bW 15 8 J J J (dE (ht J)),
  ⟨bW 16 9 J J J (kP 1 nt J J J),
  ⟨bW 17 10 J J J (df sN J (.head _) (.tail _ (.head _)) (ht J)),
  ⟨fd 3 J J J (cW rG kC J J),
  ⟨bW 19 12 J J J (bB cr J J),
  ⟨d8 18 11 20 13 J J J J (bq vv d9 J (lk (ht J)) (ht J) q_e1),
  ⟨bW 21 14 J J J (bB d9 J J),
  ⟨d8 14 7 22 15 J J J J (aV (r:=wM) (ys:=[e,e1]) (xs:=[.tmp 14,.tmp 22]) vv d9 J J J J J ⟨(ht J),(ht J),aT⟩),
  ⟨bW 23 16 J J J (aD aaB (UF _ q_r) ⟨(ht J),aT⟩),
  ⟨bW 24 17 J J J (uM J),
  aT⟩⟩⟩⟩⟩⟩⟩⟩⟩⟩⟩⟩⟩⟩⟩⟩⟩⟩⟩ ?_
 refine aw<|au<|aF rfl<|zo rfl (cW tg mB rfl rfl)<|zo rfl (bB jC rfl rfl)<|aF rfl<|bC h fun r1 q_r1 h=>zo J (aD Ww (Oc _ _ q_r1) ⟨(ht J),(ht J),aT⟩)<|bp J<|bp J<|aq<|ak<|aK<|aK<|aK ?_;cases so h;exact d7 (ts:=[lW r,ig r1]) (rvs:=[.tmp 4,.tmp 5]) J J ⟨bc J,bc J,aT⟩ pE J J

theorem Yn(b:Nat)(ix:OI)(c:aE)(n:am){R:(List Int)×Bool}(h:fT c n=some R):c0 aO 204 [tV (aP b 0),tD aI n] (dB b c ix) (fun _:OI=>tT [lW R.1,ig R.2]) (fun _=>(dB b c ix)):=by
 refine c0.of Tryz.func204 J J J fun w0 S0=>?_;refine(show CG _ _ _ [bx (rH bk [(1,aR (ix.h 0).1 (ix.h 0).2 c.kinds.length),(2,aR (ix.h 1).1 (ix.h 1).2 c.first.length)]) 115 b c,dV nw 39 (ix.h 0).1 (ix.h 0).2 c.kinds,dV bX 3 (ix.h 1).1 (ix.h 1).2 c.first] _ from ?_);refine au<|zo J (je J)<|zo J (aL (show aJ _ _ _ wN from j9))<|zo J (jj)<|aq<|ah<|bC h fun e q_e h=>bC h fun r q_r h=>?_
 refine cU (ts:=[_,_,_,_,_,_,_,_,_,_,_,_,_,_,_,_,_,_,_,_,_]) mixed J J
  ⟨fd 0 J J J (dA J),
  ⟨bW 6 0 J J J (dE (ht J)),
  ⟨bW 7 1 J J J (kP 1 nt J J J),
  ⟨bW 8 2 J J J (df sN J (.head _) (.tail _ (.head _)) (ht J)),
  ⟨fd 3 J J J (cW jT dP J J),
  ⟨bW 10 4 J J J (bB cr J J),
  ⟨d8 9 3 11 5 J J J J (bq vv d9 J (lk (ht J)) (ht J) q_e),
  ⟨bW 12 6 J J J (bB d9 J J),
  ⟨fd 3 J J J (cW tg mB J J),
  ⟨bW 14 8 J J J (bB jC J J),
  ⟨fd 0 J J J (dA J),
  ⟨bW 16 10 J J J (dE (ht J)),
  ⟨bW 17 11 J J J (kP 1 nt J J J),
  ⟨bW 18 12 J J J (df sN J (.head _) (.tail _ (.head _)) (ht J)),
  ⟨fd 3 J J J (cW jT dP J J),
  ⟨bW 20 14 J J J (bB cr J J),
  ⟨d8 19 13 21 15 J J J J (bq vv d9 J (lk (ht J)) (ht J) q_e),
  ⟨bW 22 16 J J J (bB d9 J J),
  ⟨d8 15 9 23 17 J J J J (aD Ww (Oc _ _ q_r) ⟨(ht J),(ht J),aT⟩),
  ⟨bW 13 7 J J J (uM J),
  ⟨bW 24 18 J J J (uM J),
  aT⟩⟩⟩⟩⟩⟩⟩⟩⟩⟩⟩⟩⟩⟩⟩⟩⟩⟩⟩⟩⟩ ?_
 refine aw<|ak<|aK<|aK<|aK ?_;cases so h;exact d7 (ts:=[lW e,ig r]) (rvs:=[.tmp 4,.tmp 5]) J J ⟨bc J,bc J,aT⟩ pE J J

theorem Uj(kinds:(List Int))(c:Int){R:Bool}(h:pW kinds c=some R):aU aO 344 [bM c,bO nw kinds] (ig R):=by
 refine aU.of Tryz.func344 J J J fun w0 S0=>au<|zo J (jj)<|aq<|au<|aF J<|zo J (gJ (ht J) hI)<|aF J<|gD J J (fun hg=>dA J)<|gD J J (fun hg=>bB d9 J J)<|gD J J (fun hg=>dO gM (bK J hg))<|gD J J (fun hg=>iu (bK J hg) (bK J hg))<|zo J (yO J J)<|bp J<|aq<|ak ?_;cases so h;exact aG J J

theorem UE(l:(List Int))(kinds:(List Int)){R:Bool}(h:se l kinds=some R):aU aO 283 [lW l,lW kinds] (ig R):=by
 refine aU.of Tryz.func283 J J J fun w0 S0=>au<|zo J (je J)<|zo J (jj)<|aq<|au<|aF J<|zo J ((show bP _ _ _ _ ((dn aO I7 ko (fun(x:Int)=>(pW kinds) x)))from hJ (cts:=[bO nw kinds]) (caps:=[.tmp 3]) aad ⟨(ht J),aT⟩ (fun x y h=>Uj _ _ h)))<|bC h fun r q_r h=>zo J (aD OG (Dp _ _ q_r) ⟨(ht J),(ht J),aT⟩)<|zo J (fS (ht J))<|bp J<|aq<|ak ?_;cases so h;exact aG J J

theorem UD(a1:ea)(kinds:(List Int)){R:Int×Bool}(h:xX a1 kinds=some R):aU aO 284 [tD eg a1,lW kinds] (tT [bM R.1,ig R.2]):=by
 refine aU.of Tryz.func284 J J J fun w0 S0=>au<|zo J (je J)<|zo J (cw)<|zo J (jj)<|aq<|ah<|au<|zo J (cW xn rm J J)<|zo J (bB cr J J)<|zo J (np J)<|aq<|c9 h J (fun h=>?_) (fun h=>?_)
 ·refine ah ?_
  refine cU (ts:=[_,_,_,_,_,_,_]) mixed J J
   ⟨fd 2 J J J (cW zJ te J J),
   ⟨bW 11 0 J J J (cW ow ke J J),
   ⟨bW 12 1 J J J (bB yz J J),
   ⟨bW 13 2 J J J (iM uq J),
   ⟨bW 14 3 J J J (np J),
   ⟨O4 J J (cw),
   ⟨bW 15 4 J J J (uM J),
   aT⟩⟩⟩⟩⟩⟩⟩ ?_
  refine aw<|ak<|ae ?_;cases so h;exact cJ J J J
 ·refine dS<|au<|zo J (cW zJ te J J)<|zo J (bB jC J J)<|aF J<|bC h fun r q_r h=>zo J (aD Sk (Is _ _ q_r) ⟨(ht J),(ht J),aT⟩)<|aF J<|zo J (hY J J)<|zo J (hY J J)<|bp J<|bp J<|aq<|ah<|au<|zo J (cW xn rm J J)<|zo J (bB cr J J)<|aq<|ay ?_;refine au<|zo J (np J)<|bp J<|aq<|c9 h J (fun h=>?_) (fun h=>?_)
  ·refine au<|aF J<|zo J (np J)<|zo J (cw)<|bp J<|aq<|ak ?_;refine aA (ae ?_);cases so h;exact cJ J J J
  ·refine au<|zo J (np J)<|bp J<|aq<|c9 h J (fun h=>?_) (fun h=>?_)
   ·refine au<|aF J<|zo J (np J)<|aF J<|dC J J (fun hg=>dA J)<|dC J J (fun hg=>dL (bK J hg) hI)<|dC J J (fun hg=>bD (bK J hg))<|qd J J J J (fun hg=>dA J)<|qd J J J J (fun hg=>dL (bK J hg) hI)<|dC J J (fun hg=>xU (bK J hg) (fun hb=>(bK J (Bi hg (wv hb)))))<|zo J (uK J J)<|zo J (cw)<|bp J<|aq<|ak ?_;refine aA (ae ?_);cases so h;exact cJ J J J
   ·refine kV (Z:=fun x=>si r x=some R) (Of:=fun x=>[]) (Gf:=fun x=>[(6,bM r.1),(7,bM r.2),(41,ig x)]) (fun x h=>?_) (fun K=>?_)
    ·skip
     refine c9 h J (fun h=>?_) (fun h=>?_)
     ·refine au<|aF J<|aF J<|zo J (np J)<|bp J<|bp J<|aq<|ak ?_;refine aA (ae ?_);cases so h;exact cJ J J J
     ·refine bA<|ap<|aw<|au<|zo rfl (cw)<|zo rfl (jj)<|aq<|ak ?_;cases so h;exact cJ J J J
    ·skip
     refine au<|zo J (np J)<|bp J<|aq<|c9 h J (fun h=>?_) (fun h=>?_)
     ·refine bA ?_;exact cO (K (a1.Tag==(4:Int)) h) (bv J)
     ·refine av<|zo J (np J)<|bp J<|aQ ?_;exact cO (K (a1.Tag==(5:Int)) h) (bv J)

theorem Ym(b:Nat)(ix:OI)(c:aE)(n:am){R:(List Int)×Bool}(h:gx c n=some R):c0 aO 205 [tV (aP b 0),tD aI n] (dB b c ix) (fun _:OI=>tT [lW R.1,ig R.2]) (fun _=>(dB b c ix)):=by
 refine c0.of Tryz.func205 J J J fun w0 S0=>?_;refine(show CG _ _ _ [bx (rH bk [(1,aR (ix.h 0).1 (ix.h 0).2 c.kinds.length),(2,aR (ix.h 1).1 (ix.h 1).2 c.first.length)]) 115 b c,dV nw 39 (ix.h 0).1 (ix.h 0).2 c.kinds,dV bX 3 (ix.h 1).1 (ix.h 1).2 c.first] _ from ?_);refine au<|zo J (je J)<|zo J (aL (show aJ _ _ _ wN from j9))<|zo J (jj)<|aq<|ah<|bC h fun e q_e h=>?_
 refine cU (ts:=[_,_,_,_,_,_,_,_,_]) mixed J J
  ⟨fd 0 J J J (dA J),
  ⟨bW 15 0 J J J (dE (ht J)),
  ⟨bW 16 1 J J J (kP 1 nt J J J),
  ⟨bW 17 2 J J J (df sN J (.head _) (.tail _ (.head _)) (ht J)),
  ⟨fd 3 J J J (cW jT dP J J),
  ⟨bW 19 4 J J J (bB cr J J),
  ⟨d8 18 3 20 5 J J J J (bq vv d9 J (lk (ht J)) (ht J) q_e),
  ⟨bW 21 6 J J J (bB d9 J J),
  ⟨bW 22 7 J J J (uM J),
  aT⟩⟩⟩⟩⟩⟩⟩⟩⟩ ?_
 refine aw<|au<|zo rfl (cW tf mA rfl rfl)<|zo rfl (bB d9 rfl rfl)<|zo rfl (iM gM rfl)<|zo rfl (nN (ht rfl) hI)<|aF rfl<|dC rfl rfl (fun hg=>cW p8 mz J J)<|dC J J (fun hg=>bJ Ar J J (bK J hg))<|dC J J (fun hg=>dO uE (bK J hg))<|dC J J (fun hg=>nN (bK J hg) hI)<|zo J (uK J J)<|aF J<|dC J J (fun hg=>cW tf mA J J)<|dC J J (fun hg=>bJ d9 J J (bK J hg))<|dC J J (fun hg=>dO gM (bK J hg))<|dC J J (fun hg=>cW p8 mz J J)<|dC J J (fun hg=>bJ Ar J J (bK J hg))<|dC J J (fun hg=>dO uE (bK J hg))<|dC J J (fun hg=>nO (bK J hg) (bK J hg))<|dC J J (fun hg=>gu (bK J hg) hI)<|zo J (uK J J)<|aF J ?_;refine bC h fun t q_t h=>dC J J (fun hg=>cW tf mA J J)<|dC J J (fun hg=>bJ d9 J J (bK J hg))<|dC J J (fun hg=>dA J) ?_
 obtain⟨r,h1t,h0t⟩:=og q_t
 have q_rg:=fun hb=>(h1t hb).1
 refine dC J J (fun hg=>aD aaA (UE _ _ (q_rg hg)) ⟨(bK J hg),(bK J hg),aT⟩)<|zo J (d4 (ht J) (fun hb=>(bK J hb)) (fun hb=>(h1t hb).2) h0t)<|bp J<|aq<|ah<|au<|aF J<|zo J (fS (ht J))<|aq<|c9 h J (fun h=>?_) (fun h=>?_)
 ·refine au<|zo J (aL (show aJ _ _ _ wN from j9))<|zo J (jj)<|aq<|ak<|ae<|aK<|aK<|aK ?_;cases so h;exact d7 (ts:=[lW ([]),ig false]) (rvs:=[.tmp 4,.tmp 5]) J J ⟨bc J,bc J,aT⟩ pE J J
 ·refine dS<|au<|bQ false bX 3<|zo J (aL s9)<|aq<|ah<|au<|zo J (cW tf mA J J)<|zo J (bB d9 J J)<|zo J (iM gM J)<|zo J (bD hI)<|aq<|ay<|ba (k:=52) J fun hN=>bI ?_;refine aS (kE (Z:=fun ls i out l c1=>(n.Keys.drop i=ls)∧gh n e t ls out=some R) (Of:=fun _ i out l c1=>[fx bX 3 l c1 out,bx (rH bk [(1,aR (ix.h 0).1 (ix.h 0).2 c.kinds.length),(2,aR (ix.h 1).1 (ix.h 1).2 c.first.length)]) 115 b c,dV nw 39 (ix.h 0).1 (ix.h 0).2 c.kinds,dV bX 3 (ix.h 1).1 (ix.h 1).2 c.first]) (Gf:=fun _ i out l c1=>[(3,bO aI n),(6,lW e),(7,ig t),(8,rL l c1 out),(52,lW n.Keys),(53,jk n.Keys),(54,bM (i:Int))]) (fun i out l c1 h=>?_) (fun e1 tl ih i out l c1 h=>?_) n.Keys 0 uL none 0 ⟨J,h⟩) (bv J)
  ·obtain⟨hx,h⟩:=h
   refine aC<|au<|zo J (fD J J)<|aq<|ah<|bz (ht J) (di hx)<|bu ?_;refine ai (ai (aN ?_));refine aw<|ah<|au<|zo rfl (cW p8 mz rfl rfl)<|zo rfl (bB Ar rfl rfl)<|zo rfl (iM uE rfl)<|zo rfl (bD hI)<|aq<|ay<|ba (k:=67) J fun hN1=>bI ?_;refine aS (tE (Z:=fun ls1 i1 out1 l1 c2 ok=>(n.Aggs.drop i1=ls1)∧eY e ls1 out1 ok=some R) (Of:=fun _ i1 out1 l1 c2 ok=>[fx bX 3 l1 c2 out1,bx (rH bk [(1,aR (ix.h 0).1 (ix.h 0).2 c.kinds.length),(2,aR (ix.h 1).1 (ix.h 1).2 c.first.length)]) 115 b c,dV nw 39 (ix.h 0).1 (ix.h 0).2 c.kinds,dV bX 3 (ix.h 1).1 (ix.h 1).2 c.first]) (Gf:=fun _ i1 out1 l1 c2 ok=>[(6,lW e),(7,ig ok),(8,rL l1 c2 out1),(67,ca (eg) n.Aggs),(68,jk n.Aggs),(69,bM (i1:Int))]) (fun i1 out1 l1 c2 ok h=>?_) (fun e2 tl1 ih1 i1 out1 l1 c2 ok h=>?_) n.Aggs 0 out l c1 t ⟨J,h⟩) (bv J)
   ·obtain⟨hx1,h⟩:=h
    refine aC<|au<|zo J (fD J J)<|aq<|ah<|bz (ht J) (di hx1)<|bu ?_;refine ai (ai (aN ?_));refine aw<|au<|aF rfl<|aF rfl<|bp rfl<|bp rfl<|aq<|ak<|jA<|cB 8 rfl<|cB 88 rfl<|cB 4 rfl<|jB 4 rfl<|bm<|aK<|aK<|aK ?_;cases so h;exact d7 (ts:=[lW out1,ig ok]) (rvs:=[.tmp 4,.tmp 5]) J J ⟨bc J,bc J,aT⟩ pE J J
   ·obtain⟨hx1,h⟩:=h
    refine aC<|au<|zo J (fD J J)<|aq<|ah<|bw (ht J) (dg hx1)<|dS<|ah<|ay<|au<|zo J (lX uE rW J J J (cS hx1))<|zo J (bB rW J J)<|aZ (r:=eg) (x:=WX) rW (fun _=>DI _) J fun b1=>ax rW J an J (ht J) (ht J)<|aW 12 J<|aq<|au<|zo J (bB rW J J) ?_;refine aF J<|bC h fun r1 q_r1 h=>zo J (aD aaz (UD _ _ q_r1) ⟨(ht J),(ht J),aT⟩)<|aF J<|zo J (hY J J)<|zo J (hY J J)<|bp J<|bp J<|aq<|av<|aF J<|aF J<|zo J (aV (r:=bX) (ys:=[r1.1]) (xs:=[.tmp 80]) gM cr J J J J J ⟨(ht J),aT⟩)<|bC h fun out2 q_out2 h=>cV cr J J J J gM J J (ht J) (ht J) q_out2 fun l2 c3=>aF J<|aF J<|dC J J (fun hg=>dA J)<|zo J (uK J J)<|bp J<|bp J<|aQ<|ap ?_;refine aw<|av<|zo rfl (lY (cA hx1 hN1) rfl)<|aF rfl<|aQ ?_;exact bf (aS (ih1 (i1+1) out2 l2 c3 (ok&&r1.2) ⟨cz hx1,h⟩) (bv J))
  ·obtain⟨hx,h⟩:=h
   refine aC<|au<|zo J (fD J J)<|aq<|ah<|bw (ht J) (dg hx)<|dS<|ah<|ay<|au<|zo J (lX gM cr J J J (cS hx))<|zo J (bB cr J J)<|bp J<|aq<|av<|aF J<|aF J<|aF J<|bC h fun e3 q_e3 h=>?_;refine zo J (lX gM cr J J J q_e3)<|zo J (bB cr J J)<|zo J (aV (r:=bX) (ys:=[e3]) (xs:=[.tmp 62]) gM cr J J J J J ⟨(ht J),aT⟩)<|bC h fun out3 q_out3 h=>cV cr J J J J gM J J (ht J) (ht J) q_out3 fun l3 c4=>bp J<|aQ<|ap<|aw<|av<|zo rfl (lY (cA hx hN) rfl)<|aF rfl<|aQ ?_;exact bf (aS (ih (i+1) out3 l3 c4 ⟨cz hx,h⟩) (bv J))

theorem Yl(b:Nat)(ix:OI)(c:aE)(n:am){R:(List Int)×Bool}(h:fy c n=some R):c0 aO 206 [tV (aP b 0),tD aI n] (dB b c ix) (fun _:OI=>tT [lW R.1,ig R.2]) (fun _=>(dB b c ix)):=by
 refine c0.of Tryz.func206 J J J fun w0 S0=>?_;refine(show CG _ _ _ [bx (rH bk [(1,aR (ix.h 0).1 (ix.h 0).2 c.kinds.length),(2,aR (ix.h 1).1 (ix.h 1).2 c.first.length)]) 115 b c,dV nw 39 (ix.h 0).1 (ix.h 0).2 c.kinds,dV bX 3 (ix.h 1).1 (ix.h 1).2 c.first] _ from ?_);refine au<|zo J (je J)<|zo J (aL (show aJ _ _ _ wN from j9))<|zo J (jj)<|aq<|au<|zo J (cW p7 lu J J)<|zo J (bB zl J J)<|zo J (iM vu J)<|zo J (iu (ht J) hI)<|aF J<|dC J J (fun hg=>cW p7 lu J J)<|dC J J (fun hg=>bJ zl J J (bK J hg))<|dC J J (fun hg=>dO vu (bK J hg))<|dC J J (fun hg=>nN (bK J hg) hI)<|zo J (uK J J)<|bp J<|aq<|au ?_;refine bQ false bX 3<|zo J (aL s9)<|aq<|ah<|au<|zo J (cW p7 lu J J)<|zo J (bB zl J J)<|zo J (iM vu J)<|zo J (bD hI)<|aq<|ay<|ba (k:=23) J fun hN=>bI ?_;refine aS (tE (Z:=fun ls i out l c1 ok=>(n.Items.drop i=ls)∧fm c n ls out ok=some R) (Of:=fun _ i out l c1 ok=>[fx bX 3 l c1 out,bx (rH bk [(1,aR (ix.h 0).1 (ix.h 0).2 c.kinds.length),(2,aR (ix.h 1).1 (ix.h 1).2 c.first.length)]) 115 b c,dV nw 39 (ix.h 0).1 (ix.h 0).2 c.kinds,dV bX 3 (ix.h 1).1 (ix.h 1).2 c.first]) (Gf:=fun _ i out l c1 ok=>[(0,tV (aP b 0)),(3,bO aI n),(6,ig ok),(7,rL l c1 out),(23,ca (bT) n.Items),(24,jk n.Items),(25,bM (i:Int))]) (fun i out l c1 ok h=>?_) (fun e tl ih i out l c1 ok h=>?_) n.Items 0 uL none 0 ((decide ((1:Int)≤(n.Items.length:Int)))&&(decide ((n.Items.length:Int)≤(16:Int)))) ⟨J,h⟩) (bv J)
 ·obtain⟨hx,h⟩:=h
  refine aC<|au<|zo J (fD J J)<|aq<|ah<|bz (ht J) (di hx)<|bu ?_;refine ai (ai (aN ?_));refine aw<|au<|aF rfl<|aF rfl<|bp rfl<|bp rfl<|aq<|ak<|jA<|cB 7 rfl<|cB 52 rfl<|cB 4 rfl<|jB 4 rfl<|bm<|aK<|aK<|aK ?_;cases so h;exact d7 (ts:=[lW out,ig ok]) (rvs:=[.tmp 4,.tmp 5]) J J ⟨bc J,bc J,aT⟩ pE J J
 ·obtain⟨hx,h⟩:=h
  refine aC<|au<|zo J (fD J J)<|aq<|ah<|bw (ht J) (dg hx)<|dS<|ah<|ay<|au<|zo J (lX vu jC J J J (cS hx))<|zo J (bB jC J J)<|aZ (r:=bT) (x:=By) jC (fun _=>rP _) J fun b1=>ax jC J an J (ht J) (ht J)<|aW 9 J<|aq<|ah<|bC h fun e1 q_e1 h=>bC h fun r q_r h=>?_
  refine cU (ts:=[_,_,_,_,_,_,_,_,_,_,_,_,_,_,_]) mixed J J
   ⟨fd 9 J J J (bB jC J J),
   ⟨fd 0 J J J (dA J),
   ⟨bW 31 1 J J J (dE (ht J)),
   ⟨bW 32 2 J J J (kP 1 nt J J J),
   ⟨bW 33 3 J J J (df sN J (.tail _ (.head _)) (.tail _ (.tail _ (.head _))) (ht J)),
   ⟨fd 3 J J J (cW jT dP J J),
   ⟨bW 35 5 J J J (bB cr J J),
   ⟨d8 34 4 36 6 J J J J (bq vv d9 J (lk (ht J)) (ht J) q_e1),
   ⟨bW 37 7 J J J (bB d9 J J),
   ⟨d8 30 0 38 8 J J J J (aD Sk (Is _ _ q_r) ⟨(ht J),(ht J),aT⟩),
   ⟨bW 39 9 J J J (dA J),
   ⟨bW 29 10 J J J (hY J J),
   ⟨bW 29 10 J J J (hY J J),
   ⟨bW 40 11 J J J (uM J),
   ⟨bW 41 12 J J J (uM J),
   aT⟩⟩⟩⟩⟩⟩⟩⟩⟩⟩⟩⟩⟩⟩⟩ ?_
  refine aw<|av<|aF rfl<|aF rfl<|zo rfl (aV (r:=bX) (ys:=[r.1]) (xs:=[.tmp 43]) gM cr J J J J J ⟨(ht J),aT⟩)<|bC h fun out1 q_out1 h=>cV cr J J J J gM J J (ht J) (ht J) q_out1 fun l1 c2=>aF J<|aF J<|dC J J (fun hg=>dA J)<|dC J J (fun hg=>dL (bK J hg) hI)<|zo J (uK J J)<|bp J<|bp J<|aQ<|ap<|aw<|av<|zo rfl (lY (cA hx hN) rfl)<|aF rfl<|aQ ?_;exact bf (aS (ih (i+1) out1 l1 c2 (ok&&(r.2==(0:Int))) ⟨cz hx,h⟩) (bv J))

theorem Yk(b:Nat)(ix:OI)(c:aE)(n:am){R:(List Int)×Bool}(h:eZ c n=some R):c0 aO 207 [tV (aP b 0),tD aI n] (dB b c ix) (fun _:OI=>tT [lW R.1,ig R.2]) (fun _=>(dB b c ix)):=by
 refine c0.of Tryz.func207 J J J fun w0 S0=>?_;refine(show CG _ _ _ [bx (rH bk [(1,aR (ix.h 0).1 (ix.h 0).2 c.kinds.length),(2,aR (ix.h 1).1 (ix.h 1).2 c.first.length)]) 115 b c,dV nw 39 (ix.h 0).1 (ix.h 0).2 c.kinds,dV bX 3 (ix.h 1).1 (ix.h 1).2 c.first] _ from ?_);refine au<|zo J (je J)<|zo J (aL (show aJ _ _ _ wN from j9))<|zo J (jj)<|aq<|ah<|bC h fun e q_e h=>?_
 refine cU (ts:=[_,_,_,_,_,_,_,_,_,_]) mixed J J
  ⟨fd 0 J J J (dA J),
  ⟨bW 6 0 J J J (dE (ht J)),
  ⟨bW 7 1 J J J (kP 1 nt J J J),
  ⟨bW 8 2 J J J (df sN J (.head _) (.tail _ (.head _)) (ht J)),
  ⟨fd 3 J J J (cW jT dP J J),
  ⟨bW 10 4 J J J (bB cr J J),
  ⟨d8 9 3 11 5 J J J J (bq vv d9 J (lk (ht J)) (ht J) q_e),
  ⟨bW 12 6 J J J (bB d9 J J),
  ⟨bW 13 7 J J J (uM J),
  ⟨O4 J J (jj),
  aT⟩⟩⟩⟩⟩⟩⟩⟩⟩⟩ ?_
 refine aw<|ak<|aK<|aK<|aK ?_;cases so h;exact d7 (ts:=[lW e,ig true]) (rvs:=[.tmp 4,.tmp 5]) J J ⟨bc J,bc J,aT⟩ pE J J

theorem Yj(b:Nat)(ix:OI)(c:aE)(n:am){R:(List Int)×Bool}(h:gv c n=some R):c0 aO 208 [tV (aP b 0),tD aI n] (dB b c ix) (fun _:OI=>tT [lW R.1,ig R.2]) (fun _=>(dB b c ix)):=by
 refine c0.of Tryz.func208 J J J fun w0 S0=>?_;refine(show CG _ _ _ [bx (rH bk [(1,aR (ix.h 0).1 (ix.h 0).2 c.kinds.length),(2,aR (ix.h 1).1 (ix.h 1).2 c.first.length)]) 115 b c,dV nw 39 (ix.h 0).1 (ix.h 0).2 c.kinds,dV bX 3 (ix.h 1).1 (ix.h 1).2 c.first] _ from ?_);refine au<|zo J (je J)<|zo J (aL (show aJ _ _ _ wN from j9))<|zo J (jj)<|aq<|ah<|bC h fun e q_e h=>bC h fun e1 q_e1 h=>?_
 refine cU (ts:=[_,_,_,_,_,_,_,_,_,_,_,_,_,_,_,_,_,_]) mixed J J
  ⟨fd 0 J J J (dA J),
  ⟨bW 12 0 J J J (dE (ht J)),
  ⟨bW 13 1 J J J (kP 1 nt J J J),
  ⟨bW 14 2 J J J (df sN J (.head _) (.tail _ (.head _)) (ht J)),
  ⟨fd 3 J J J (cW jT dP J J),
  ⟨bW 16 4 J J J (bB cr J J),
  ⟨d8 15 3 17 5 J J J J (bq vv d9 J (lk (ht J)) (ht J) q_e),
  ⟨bW 18 6 J J J (bB d9 J J),
  ⟨fd 0 J J J (dA J),
  ⟨bW 20 8 J J J (dE (ht J)),
  ⟨bW 21 9 J J J (kP 1 nt J J J),
  ⟨bW 22 10 J J J (df sN J (.head _) (.tail _ (.head _)) (ht J)),
  ⟨fd 3 J J J (cW rG kC J J),
  ⟨bW 24 12 J J J (bB cr J J),
  ⟨d8 23 11 25 13 J J J J (bq vv d9 J (lk (ht J)) (ht J) q_e1),
  ⟨bW 26 14 J J J (bB d9 J J),
  ⟨bW 19 7 J J J (uM J),
  ⟨bW 27 15 J J J (uM J),
  aT⟩⟩⟩⟩⟩⟩⟩⟩⟩⟩⟩⟩⟩⟩⟩⟩⟩⟩ ?_
 refine aw<|ah<|au<|aF rfl<|zo rfl (iM gM rfl)<|aF rfl<|zo rfl (iM gM rfl)<|zo rfl (fj (ht rfl) (ht rfl))<|aq<|c9 h rfl (fun h=>?_) (fun h=>?_)
 ·refine au<|zo J (aL (show aJ _ _ _ wN from j9))<|zo J (jj)<|aq<|ak<|ae<|aK<|aK<|aK ?_;cases so h;exact d7 (ts:=[lW ([]),ig false]) (rvs:=[.tmp 4,.tmp 5]) J J ⟨bc J,bc J,aT⟩ pE J J
 ·refine dS<|au<|aF J<|bC h fun r q_r h=>iR Sh (Ip _ q_r) ⟨(ht J),aT⟩ J fun l c1=>bp J<|aq<|au<|zo J (jj)<|aq<|ah<|au<|aF J<|zo J (iM gM J)<|zo J (bD hI)<|aq<|ay ?_;refine ba (k:=35) J fun hN=>bI ?_;refine aS (vj (Z:=fun ls i out ok=>(e1.drop i=ls)∧dF ls i out ok=some R) (Of:=fun _ i out ok=>[fx bX 3 l c1 out,bx (rH bk [(1,aR (ix.h 0).1 (ix.h 0).2 c.kinds.length),(2,aR (ix.h 1).1 (ix.h 1).2 c.first.length)]) 115 b c,dV nw 39 (ix.h 0).1 (ix.h 0).2 c.kinds,dV bX 3 (ix.h 1).1 (ix.h 1).2 c.first]) (Gf:=fun _ i out ok=>[(8,rL l c1 out),(9,ig ok),(35,lW e1),(36,jk e1),(37,bM (i:Int))]) (fun i out ok h=>?_) (fun e2 tl ih i out ok h=>?_) e1 0 r true ⟨J,h⟩) (bv J)
  ·obtain⟨hx,h⟩:=h
   refine aC<|au<|zo J (fD J J)<|aq<|ah<|bz (ht J) (di hx)<|bu ?_;refine ai (ai (aN ?_));refine aw<|au<|aF rfl<|aF rfl<|bp rfl<|bp rfl<|aq<|ak<|jA<|cB 8 rfl<|cB 65 rfl<|cB 4 rfl<|jB 4 rfl<|bm<|aK<|aK<|aK ?_;cases so h;exact d7 (ts:=[lW out,ig ok]) (rvs:=[.tmp 4,.tmp 5]) J J ⟨bc J,bc J,aT⟩ pE J J
  ·obtain⟨hx,h⟩:=h
   refine aC<|au<|zo J (fD J J)<|aq<|ah<|bw (ht J) (dg hx)<|dS<|ah<|ay<|au<|aF J<|zo J (lX gM cr J J J (cS hx))<|zo J (bB cr J J)<|bp J<|bp J<|aq ?_;refine kV (Z:=fun out1=>iv (dF tl) i e2 ok out1=some R) (Of:=fun out1=>[fx bX 3 l c1 out1,bx (rH bk [(1,aR (ix.h 0).1 (ix.h 0).2 c.kinds.length),(2,aR (ix.h 1).1 (ix.h 1).2 c.first.length)]) 115 b c,dV nw 39 (ix.h 0).1 (ix.h 0).2 c.kinds,dV bX 3 (ix.h 1).1 (ix.h 1).2 c.first]) (Gf:=fun out1=>[(8,rL l c1 out1),(9,ig ok),(10,bM (i:Int)),(11,bM e2),(35,lW e1),(36,jk e1),(37,bM (i:Int))]) (fun out1 h=>?_) (fun K=>?_)
   ·skip
    refine av<|aF J<|aF J<|bC h fun t q_t h=>dC J J (fun hg=>dA J)<|dC J J (fun hg=>dA J) ?_
    obtain⟨e3,h1t,h0t⟩:=og q_t
    have q_e3g:=fun hb=>(h1t hb).1
    refine dC J J (fun hg=>cH gM cr (.head _) (bK J hg) (bK J hg) (q_e3g hg))<|dC J J (fun hg=>gn (r:=bX) (i:=(i:Int)) (foff:=0) cr J J bS J (.head _) (q_e3g hg) (bK J hg))<|dC J J (fun hg=>dA J)<|dC J J (fun hg=>dL (bK J hg) (bK J hg))<|dC J J (fun hg=>bD (bK J hg))<|qd J J J J (fun hg=>dA J)<|qd J J J J (fun hg=>dL (bK J hg) hI)<|dC J J (fun hg=>xU (bK J hg) (fun hb=>(bK J (Bi hg (wv hb)))))<|zo J (d4 (ht J) (fun hb=>(bK J hb)) (fun hb=>(h1t hb).2) h0t)<|bp J<|aQ<|ap<|aw<|av<|zo rfl (lY (cA hx hN) rfl)<|aF rfl<|aQ ?_;exact bf (aS (ih (i+1) out1 t ⟨cz hx,h⟩) (bv J))
   ·skip
    refine au<|aF J<|aF J<|bC h fun e4 q_e4 h=>zo J (cH gM cr (.head _) (ht J) (ht J) q_e4)<|zo J (gn (r:=bX) (i:=(i:Int)) (foff:=0) cr J J bS J (.head _) q_e4 (ht J))<|zo J (np J)<|aq<|c9 h J (fun h=>?_) (fun h=>?_)
    ·refine av<|aF J<|aF J<|aF J<|zo J (cH gM cr (.head _) (ht J) (ht J) q_e4)<|bC h fun st q_st h=>sF cr J an J q_e4 (so q_st) (ht J) (ht J)<|iG (mj (so q_st)) 8 J<|iG (mj (so q_st)) 42 J<|iG (mj (so q_st)) 47 J<|aQ ?_;exact cO (K st h) (bv J)
    ·refine bA ?_;exact cO (K out h) (bv J)

theorem UV(s:(List gL))(f:(gL→Option Bool)){R:Int}(h:ik s f=some R):aU aO 229 [ca (gG) s,(dn aO Qo ko (fun(x:gL)=>f x))] (bM R):=by
 refine aU.of Tryz.func229 J J J fun w0 S0=>au<|zo J (cw)<|aq<|ah<|au<|aF J<|zo J (iM Dy J)<|zo J (bD hI)<|aq<|ay<|ba (k:=6) J fun hN=>bI ?_;refine aS (dQ (Z:=fun ls i=>(s.drop i=ls)∧dH f ls i=some R) (Of:=fun _ i=>[]) (Gf:=fun _ i=>[(0,ca (gG) s),(1,(dn aO Qo ko (fun(x:gL)=>f x))),(7,jk s),(8,bM (i:Int))]) (fun i h=>?_) (fun e tl ih i h=>?_) s 0 ⟨J,h⟩) (bv J)
 ·obtain⟨hx,h⟩:=h
  refine aC<|au<|zo J (fD J J)<|aq<|ah<|bz (ht J) (di hx)<|bu ?_;refine ai (ai (aN ?_));refine aw<|au<|zo rfl (cw)<|aq<|ak ?_;cases so h;exact aG J J
 ·obtain⟨hx,h⟩:=h
  refine aC<|au<|zo J (fD J J)<|aq<|ah<|bw (ht J) (dg hx)<|dS<|ah<|ay<|au<|aF J<|bp J<|aq<|au<|aF J<|aF J<|aF J<|zo J (lX Dy Jh J J J (cS hx)) ?_;refine zo J (bB Jh J J)<|bC h fun r q_r h=>zo J (fJ (args:=Qo) (res:=Bz) (f:=(fun(x:gL)=>f x)) (x:=((e):gL)) (ht J) q_r ⟨(ht J),aT⟩)<|aq<|c9 h J (fun h=>?_) (fun h=>?_)
  ·refine au<|aF J<|bp J<|aq<|ak ?_;refine aA (ae (ae (aA (ae ?_))));cases so h;exact aG J J
  ·refine bA<|ap<|aw<|av<|zo rfl (lY (cA hx hN) rfl)<|aF rfl<|aQ ?_;exact bf (aS (ih (i+1) ⟨cz hx,h⟩) (bv J))

theorem Vk(s:(List gL))(f:(gL→Option Bool)){R:Bool}(h:eF s f=some R):aU aO 149 [ca (gG) s,(dn aO Qo ko (fun(x:gL)=>f x))] (ig R):=by
 refine aU.of Tryz.func149 J J J fun w0 S0=>au<|zo J (jj)<|aq<|au<|aF J<|aF J<|bC h fun r q_r h=>zo J (aD aaT (UV _ _ q_r) ⟨(ht J),(ht J),aT⟩)<|zo J (iu (ht J) hI)<|bp J<|aq<|ak ?_;cases so h;exact aG J J

end Go.Proofs.YtfhhakidodmdfaaGreatDoor

