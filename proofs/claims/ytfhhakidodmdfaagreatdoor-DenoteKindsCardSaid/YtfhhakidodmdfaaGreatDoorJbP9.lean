/- db of this claim: P9. -/
import Derived.Test.YtfhhakidodmdfaaGreatDoorJbT
import Derived.Test.YtfhhakidodmdfaaGreatDoorJbP8
set_option linter.all false
namespace Go.Proofs.YtfhhakidodmdfaaGreatDoor
open Go
set_option maxRecDepth 100000

theorem Vf(s1:(List ac))(s2:(List ac))(cmp:(ac→ac→Option Int)){R:Int}(h:co s1 s2 cmp=some R):aU aO 160 [ca (af) s1,ca (af) s2,(dn aO qh yy (fun(x:ac×ac)=>cmp x.1 x.2))] (bM R):=by
 refine aU.of Tryz.func160 J J J fun w0 S0=>au<|zo J (cw)<|aq<|ah<|au<|aF J<|zo J (iM iK J)<|zo J (bD hI)<|aq<|ay<|ba (k:=11) J fun hN=>bI ?_;refine aS (dQ (Z:=fun ls i=>(s1.drop i=ls)∧bH s1 s2 cmp ls i=some R) (Of:=fun _ i=>[]) (Gf:=fun _ i=>[(0,ca (af) s1),(1,ca (af) s2),(2,(dn aO qh yy (fun(x:ac×ac)=>cmp x.1 x.2))),(11,ca (af) s1),(12,jk s1),(13,bM (i:Int))]) (fun i h=>?_) (fun e tl ih i h=>?_) s1 0 ⟨J,h⟩) (bv J)
 ·obtain⟨hx,h⟩:=h
  refine aC<|au<|zo J (fD J J)<|aq<|ah<|bz (ht J) (di hx)<|bu ?_;refine ai (ai (aN ?_));refine aw<|ah<|au<|aF rfl<|zo rfl (iM iK rfl)<|aF rfl<|zo rfl (iM iK rfl)<|zo rfl (fD rfl rfl)<|aq<|c9 h rfl (fun h=>?_) (fun h=>?_)
  ·refine au<|zo J (cw)<|aq<|ak<|ae ?_;cases so h;exact aG J J
  ·refine dS<|au<|zo J (cw)<|aq<|ak ?_;cases so h;exact aG J J
 ·obtain⟨hx,h⟩:=h
  refine aC<|au<|zo J (fD J J)<|aq<|ah<|bw (ht J) (dg hx)<|dS<|ah<|ay<|au<|aF J<|zo J (lX iK aH J J J (cS hx))<|zo J (bB aH J J)<|aZ (r:=af) (x:=ie) aH (fun _=>bh _) J fun b=>bp J<|ax aH J an J (ht J) (ht J)<|aW 8 J<|aq<|ah ?_;refine au<|aF J<|aF J<|zo J (iM iK J)<|zo J (iu (ht J) (ht J))<|aq<|c9 h J (fun h=>?_) (fun h=>?_)
  ·refine au<|zo J (cw)<|aq<|ak ?_;refine ae (aA (ae (ae (aA (ae ?_)))));cases so h;exact aG J J
  ·refine dS<|au<|aF J<|aF J<|bC h fun e1 q_e1 h=>zo J (lX iK aH J J J q_e1)<|zo J (bB aH J J)<|aZ (r:=af) (x:=ie) aH (fun _=>bh _) J fun b1=>ax aH J an J (ht J) (ht J)<|aW 9 J<|aq<|au<|aF J<|zo J (bB aH J J)<|zo J (bB aH J J)<|bC h fun r q_r h=>zo J (fJ (args:=qh) (res:=S3) (f:=(fun(x:ac×ac)=>cmp x.1 x.2)) (x:=((e,e1):ac×ac)) (ht J) q_r ⟨(ht J),(ht J),aT⟩)<|bp J<|aq ?_;refine au<|aF J<|zo J (tJ J)<|aq<|c9 h J (fun h=>?_) (fun h=>?_)
   ·refine au<|aF J<|bp J<|aq<|ak ?_;refine aA (ae (ae (aA (ae ?_))));cases so h;exact aG J J
   ·refine bA<|ap<|aw<|av<|zo rfl (lY (cA hx hN) rfl)<|aF rfl<|aQ ?_;exact bf (aS (ih (i+1) ⟨cz hx,h⟩) (bv J))

theorem N9(p:Int){R:Bool}(h:om p=some R):aU aO 311 [tD Hp p] (ig R):=by
 refine aU.of Tryz.func311 J J J fun w0 S0=>au<|zo J (jj)<|aq<|au<|aF J<|aF J<|zo J (fj (ht J) (ht J))<|bp J<|aq<|ak ?_;cases so h;exact aG J J

theorem UT(p:Int)(y:Int){R:Int}(h:mL p y=some R):aU aO 244 [tD Hp p,tD Hp y] (bM R):=by
 refine aU.of Tryz.func244 J J J fun w0 S0=>au<|zo J (cw)<|aq<|au<|aF J<|bC h fun r q_r h=>zo J (aD Wu (N9 _ q_r) ⟨(ht J),aT⟩)<|bp J<|aq<|au<|aF J<|bC h fun r1 q_r1 h=>zo J (aD Wu (N9 _ q_r1) ⟨(ht J),aT⟩)<|bp J<|aq<|ah<|ah ?_;refine av<|aF J<|aq<|c9 h J (fun h=>?_) (fun h=>?_)
 ·refine ah<|au<|aF J<|aq<|c9 h J (fun h=>?_) (fun h=>?_)
  ·refine au<|zo J (cw)<|aq<|ak ?_;refine ae (ae ?_);cases so h;exact aG J J
  ·refine dS<|au<|zo J (cw)<|aq<|ak<|ae ?_;cases so h;exact aG J J
 ·refine dS<|ah<|au<|aF J<|aq<|c9 h J (fun h=>?_) (fun h=>?_)
  ·refine au<|zo J (cw)<|aq<|ak<|ae ?_;cases so h;exact aG J J
  ·refine dS<|ah<|au<|aF J<|aF J<|zo J (fD J J)<|aq<|c9 h J (fun h=>?_) (fun h=>?_)
   ·refine au<|zo J (cw)<|aq<|ak<|ae ?_;cases so h;exact aG J J
   ·refine dS<|ah<|au<|aF J<|aF J<|zo J (gu (ht J) (ht J))<|aq<|c9 h J (fun h=>?_) (fun h=>?_)
    ·refine au<|zo J (cw)<|aq<|ak<|ae ?_;cases so h;exact aG J J
    ·refine dS<|au<|zo J (cw)<|aq<|ak ?_;cases so h;exact aG J J

theorem N8(p:wB){R:Bool}(h:oo p=some R):aU aO 312 [tD rS p] (ig R):=by
 refine aU.of Tryz.func312 J J J fun w0 S0=>au<|zo J (jj)<|aq<|au<|aF J<|aF J<|zo J (TB (ht J) (ht J))<|bp J<|aq<|ak ?_;cases so h;exact aG J J

theorem US(p:wB)(y:wB){R:Int}(h:mM p y=some R):aU aO 245 [tD rS p,tD rS y] (bM R):=by
 refine aU.of Tryz.func245 J J J fun w0 S0=>au<|zo J (cw)<|aq<|au<|aF J<|bC h fun r q_r h=>zo J (aD Wt (N8 _ q_r) ⟨(ht J),aT⟩)<|bp J<|aq<|au<|aF J<|bC h fun r1 q_r1 h=>zo J (aD Wt (N8 _ q_r1) ⟨(ht J),aT⟩)<|bp J<|aq<|ah<|ah ?_;refine av<|aF J<|aq<|c9 h J (fun h=>?_) (fun h=>?_)
 ·refine ah<|au<|aF J<|aq<|c9 h J (fun h=>?_) (fun h=>?_)
  ·refine au<|zo J (cw)<|aq<|ak ?_;refine ae (ae ?_);cases so h;exact aG J J
  ·refine dS<|au<|zo J (cw)<|aq<|ak<|ae ?_;cases so h;exact aG J J
 ·refine dS<|ah<|au<|aF J<|aq<|c9 h J (fun h=>?_) (fun h=>?_)
  ·refine au<|zo J (cw)<|aq<|ak<|ae ?_;cases so h;exact aG J J
  ·refine dS<|ah<|au<|aF J<|aF J<|zo J (TC (ht J) (ht J))<|aq<|c9 h J (fun h=>?_) (fun h=>?_)
   ·refine au<|zo J (cw)<|aq<|ak<|ae ?_;cases so h;exact aG J J
   ·refine dS<|ah<|au<|aF J<|aF J<|zo J (TE (ht J) (ht J))<|aq<|c9 h J (fun h=>?_) (fun h=>?_)
    ·refine au<|zo J (cw)<|aq<|ak<|ae ?_;cases so h;exact aG J J
    ·refine dS<|au<|zo J (cw)<|aq<|ak ?_;cases so h;exact aG J J

theorem Ve(a1:ac)(b:ac){R:Int}(h:o0 a1 b=some R):aU aO 161 [tD af a1,tD af b] (bM R):=by
 refine aU.of Tryz.func161 J J J fun w0 S0=>au<|zo J (je J)<|zo J (je J)<|zo J (cw)<|aq<|ah<|bC h fun r q_r h=>bC h fun r1 q_r1 h=>bC h fun r2 q_r2 h=>bC h fun r3 q_r3 h=>bC h fun r4 q_r4 h=>?_
 refine cU (ts:=[_,_,_,_,_,_,_,_,_,_,_,_,_,_,_,_,_,_,_,_,_,_,_]) mixed J J
  ⟨fd 2 J J J (cW gK cy J J),
  ⟨bW 5 0 J J J (bB cr J J),
  ⟨fd 3 J J J (cW gK cy J J),
  ⟨bW 7 2 J J J (bB cr J J),
  ⟨d8 6 1 8 3 J J J J (aD Z4 (RJ _ _ q_r) ⟨(ht J),(ht J),aT⟩),
  ⟨fd 2 J J J (cW lO fz J J),
  ⟨bW 10 5 J J J (bB FM J J),
  ⟨fd 3 J J J (cW lO fz J J),
  ⟨bW 12 7 J J J (bB FM J J),
  ⟨d8 11 6 13 8 J J J J (aD WD (Ok _ _ q_r1) ⟨(ht J),(ht J),aT⟩),
  ⟨fd 2 J J J (cW BX qC J J),
  ⟨bW 15 10 J J J (bB Lz J J),
  ⟨fd 3 J J J (cW BX qC J J),
  ⟨bW 17 12 J J J (bB Lz J J),
  ⟨d8 16 11 18 13 J J J J (aD aaQ (UT _ _ q_r2) ⟨(ht J),(ht J),aT⟩),
  ⟨fd 2 J J J (cW xo nR J J),
  ⟨bW 20 15 J J J (bB Tc J J),
  ⟨fd 3 J J J (cW xo nR J J),
  ⟨bW 22 17 J J J (bB Tc J J),
  ⟨d8 21 16 23 18 J J J J (aD aaP (US _ _ q_r3) ⟨(ht J),(ht J),aT⟩),
  ⟨⟨[⟨9,_,some 4⟩,⟨14,_,some 9⟩,⟨19,_,some 14⟩,⟨24,_,some 19⟩],_,J,⟨J,J,J,J,aT⟩,J,J,aB J (aV (r:=bX) (ys:=[r,r1,r2,r3]) (xs:=[.tmp 9,.tmp 14,.tmp 19,.tmp 24]) gM cr J J J J J ⟨(ht J),(ht J),(ht J),(ht J),aT⟩)⟩,
  ⟨bW 25 20 J J J (aD Sq (Iy _ q_r4) ⟨(ht J),aT⟩),
  ⟨bW 26 21 J J J (uM J),
  aT⟩⟩⟩⟩⟩⟩⟩⟩⟩⟩⟩⟩⟩⟩⟩⟩⟩⟩⟩⟩⟩⟩⟩ ?_
 refine aw<|ak ?_;cases so h;exact aG J J

theorem Im(a1:(List ac))(b:(List ac)){R:Int}(h:pj a1 b=some R):aU aO 95 [ca (af) a1,ca (af) b] (bM R):=by
 refine aU.of Tryz.func95 J J J fun w0 S0=>au<|zo J (cw)<|aq<|au<|aF J<|aF J<|bC h fun r q_r h=>zo J (aD abt (Vf _ _ _ q_r) ⟨(ht J),(ht J),(yF abs fun x y h=>Ve _ _ h),aT⟩)<|bp J<|aq<|ak ?_;cases so h;exact aG J J

theorem RM(a1:(List ac))(b:(List ac)){R:Int}(h:pn a1 b=some R):aU aO 38 [ca (af) a1,ca (af) b] (bM R):=by
 refine aU.of Tryz.func38 J J J fun w0 S0=>au<|zo J (cw)<|aq<|ah<|au<|aF J<|bC h fun r q_r h=>zo J (aD YF (MC _ q_r) ⟨(ht J),aT⟩)<|zo J (fS (ht J))<|aF J<|bC h fun t q_t h=>gD J J (fun hg=>dA J) ?_
 obtain⟨r1,h1t,h0t⟩:=og q_t
 have q_r1g:=fun hb=>(h1t hb).1
 refine gD J J (fun hg=>aD YF (MC _ (q_r1g hg)) ⟨(bK J hg),aT⟩)<|gD J J (fun hg=>fS (bK J hg))<|zo J (ir (ht J) (fun hb=>(bK J (wv hb))) (fun hb=>(h1t hb).2) h0t)<|aq<|c9 h J (fun h=>?_) (fun h=>?_)
 ·refine au<|zo J (cw)<|aq<|ak<|ae ?_;cases so h;exact aG J J
 ·refine dS<|au<|aF J<|aF J<|bC h fun r2 q_r2 h=>zo J (aD VI (Im _ _ q_r2) ⟨(ht J),(ht J),aT⟩)<|bp J<|aq<|ak ?_;cases so h;exact aG J J

theorem Iz(a1:ac)(b:ac){R:Int}(h:ij a1 b=some R):aU aO 136 [tD af a1,tD af b] (bM R):=by
 refine aU.of Tryz.func136 J J J fun w0 S0=>au<|zo J (je J)<|zo J (je J)<|zo J (cw)<|aq<|au<|zo J (bB aH J J)<|zo J (aV (r:=af) (ys:=[a1]) (xs:=[.tmp 5]) iK aH J J J J J ⟨(ht J),aT⟩)<|zo J (bB aH J J)<|zo J (aV (r:=af) (ys:=[b]) (xs:=[.tmp 7]) iK aH J J J J J ⟨(ht J),aT⟩)<|bC h fun r q_r h=>zo J (aD Z6 (RM _ _ q_r) ⟨(ht J),(ht J),aT⟩)<|bp J<|aq<|ak ?_;cases so h;exact aG J J

theorem Vl(p:(List ac))(cmp:(ac→ac→Option Int)){R:ac}(h:eT p cmp=some R):aU aO 137 [ca (af) p,(dn aO qh yy (fun(x:ac×ac)=>cmp x.1 x.2))] (tD af R):=by
 refine aU.of Tryz.func137 J J J fun w0 S0=>au<|aZ (r:=af) (x:=ie) aH (fun _=>bh _) J fun b=>aq ?_;refine vo (Z:=gb p cmp=some R) (Of:=[bx af 46 b ie]) (Gf:=[(0,ca (af) p),(1,(dn aO qh yy (fun(x:ac×ac)=>cmp x.1 x.2))),(4,tV (aP b 0))]) (fun h=>?_) (fun K=>?_)
 ·skip
  refine au<|aF J<|bC h fun e q_e h=>zo J (bq j7 aH J (ht J) hI q_e)<|zo J (bB aH J J)<|aZ (r:=af) (x:=ie) aH (fun _=>bh _) J fun b1=>ax aH J an J (ht J) (ht J)<|aq<|ah<|au<|zo J (cw)<|aq<|ay<|ba (k:=0) J fun hN=>bI<|jb ?_;refine aS (n7 (Z:=fun ls i m=>(p.drop i=ls)∧cD cmp ls m=some R) (Of:=fun _ i m=>[bx af 46 b ie,bx af 46 b1 m]) (Gf:=fun _ i m=>[(0,ca (af) p),(1,(dn aO qh yy (fun(x:ac×ac)=>cmp x.1 x.2))),(4,tV (aP b 0)),(5,tV (aP b1 0)),(6,bM (i:Int))]) (fun i m h=>?_) (fun e1 tl ih i m h=>?_) (p.drop (1)) 1 e ⟨J,h⟩) (bv J)
  ·obtain⟨hx,h⟩:=h
   refine aC<|ah<|au<|aF J<|aF J<|zo J (iM j7 J)<|zo J (fD J J)<|aq<|bz (ht J) (di hx)<|bu ?_;refine ai (ai (aN ?_));refine aw<|au<|zo rfl (cd aH rfl rfl bS (.tail _ (.head _)) (ht rfl))<|ax aH rfl an rfl (ht rfl) (ht rfl)<|aW 4 rfl<|aq<|ak<|bm ?_;cases so h;exact iS J aH J J J
  ·obtain⟨hx,h⟩:=h
   refine aC<|ah<|au<|aF J<|aF J<|zo J (iM j7 J)<|zo J (fD J J)<|aq<|bw (ht J) (dg hx)<|dS<|ah<|ay<|ah<|bC h fun r q_r h=>?_
   refine cU (ts:=[_,_,_,_,_,_,_,_]) mixed J J
    ⟨fd 1 J J J (dA J),
    ⟨fd 0 J J J (dA J),
    ⟨fd 6 J J J (dA J),
    ⟨d8 21 1 22 2 J J J J (lX j7 aH J J J (cS hx)),
    ⟨bW 23 3 J J J (bB aH J J),
    ⟨fd 5 J J J (cd aH J J bS (.tail _ (.head _)) (ht J)),
    ⟨Gn 20 0 24 4 25 5 J J J J J (fJ (args:=qh) (res:=S3) (f:=(fun(x:ac×ac)=>cmp x.1 x.2)) (x:=((e1,m):ac×ac)) (ht J) q_r ⟨(ht J),(ht J),aT⟩),
    ⟨bW 26 6 J J J (gu (ht J) hI),
    aT⟩⟩⟩⟩⟩⟩⟩⟩ ?_
   refine aw<|c9 h rfl (fun h=>?_) (fun h=>?_)
   ·refine av<|aF J<|aF J<|zo J (lX j7 aH J J J (cS hx))<|zo J (bB aH J J)<|bL<|ax aH J an J (ht J) (ht J)<|aQ<|ap<|aw<|av<|aF rfl<|zo rfl (lY (cA hx hN) rfl)<|bp rfl<|aQ<|bF ?_;exact bf (aS (ih (i+1) e1 ⟨cz hx,h⟩) (bv J))
   ·refine bA<|ap<|aw<|av<|aF rfl<|zo rfl (lY (cA hx hN) rfl)<|bp rfl<|aQ ?_;exact bf (aS (ih (i+1) m ⟨cz hx,h⟩) (bv J))
 ·skip
  refine au<|aF J<|zo J (iM j7 J)<|zo J (gJ (ht J) hI)<|aq<|c9 h J (fun h=>?_) (fun h=>?_)
  ·refine av ?_;exact(nn h).elim
  ·refine bA ?_;exact cO (K h) (bv J)

theorem X1(a1:ea)(rows:(List (List ac))){R:ac×Int}(h:lV a1 rows=some R):aU aO 76 [tD eg a1,ca (dj) rows] (tT [tD af R.1,bM R.2]):=by
 refine aU.of Tryz.func76 J J J fun w0 S0=>au<|zo J (je J)<|aZ (r:=af) (x:=ie) aH (fun _=>bh _) J fun b=>zo J (cw)<|aq<|ah<|au<|zo J (cW xn rm J J)<|zo J (bB cr J J)<|zo J (np J)<|aq<|c9 h J (fun h=>?_) (fun h=>?_)
 ·refine au<|aF J<|zo J (iM jW J)<|bC h fun r q_r h=>zo J (aD KO (A1 _ q_r) ⟨(ht J),aT⟩)<|ax aH J an J (ht J) (ht J)<|zo J (cw)<|aq<|ak<|ae<|bn 4 J ?_;cases so h;exact bR J J ⟨bt aH J J J,bc J,aT⟩
 ·refine dS<|au<|zo J (bB rW J J)<|aF J<|bC h fun r1 q_r1 h=>zo J (aD abF (Vq _ _ q_r1) ⟨(ht J),(ht J),aT⟩)<|aF J<|zo J (hY J J)<|zo J (hY J J)<|bp J<|bp J<|aq<|ah<|au<|aF J<|zo J (np J)<|aq<|c9 h J (fun h=>?_) (fun h=>?_)
  ·refine au<|zo J (ck (y:=ie) aH ql bh (J))<|aF J<|ax aH J an J (ht J) (ht J)<|bp J<|aq<|ak<|ae<|bn 4 J ?_;cases so h;exact bR J J ⟨bt aH J J J,bc J,aT⟩
  ·refine dS<|au<|zo J (aL (show aJ _ _ _ ((dn aO An ko (fun(x:ac)=>mJ x)))from(yF abE fun x y h=>Vp _ h)))<|aq<|ah<|ay<|au<|zo J (cW xn rm J J)<|zo J (bB cr J J)<|zo J (np J)<|aF J<|bC h fun t q_t h=>dC J J (fun hg=>dA J)<|dC J J (fun hg=>dA J) ?_
   obtain⟨r2,h1t,h0t⟩:=og q_t
   have q_r2g:=fun hb=>(h1t hb).1
   refine dC J J (fun hg=>aD abD (Vo _ _ (q_r2g hg)) ⟨(bK J hg),(bK J hg),aT⟩)<|zo J (d4 (ht J) (fun hb=>(bK J hb)) (fun hb=>(h1t hb).2) h0t)<|bp J<|aq<|c9 h J (fun h=>?_) (fun h=>?_)
   ·refine au<|zo J (ck (y:=ie) aH ql bh (J))<|ax aH J an J (ht J) (ht J)<|zo J (cw)<|aq<|ak ?_;refine aA (ae ?_);refine bn 4 J ?_;cases so h;exact bR J J ⟨bt aH J J J,bc J,aT⟩
   ·refine au<|aF J<|zo J (tJ J)<|bp J<|aq<|c9 h J (fun h=>?_) (fun h=>?_)
    ·refine au<|zo J (ck (y:=ie) aH ql bh (J))<|aF J<|ax aH J an J (ht J) (ht J)<|bp J<|aq<|ak ?_;refine aA (ae ?_);refine bn 4 J ?_;cases so h;exact bR J J ⟨bt aH J J J,bc J,aT⟩
    ·refine au<|zo J (cW xn rm J J)<|zo J (bB cr J J)<|zo J (np J)<|bp J<|aq<|c9 h J (fun h=>?_) (fun h=>?_)
     ·refine au<|aF J<|zo J (iM j7 J)<|bC h fun r3 q_r3 h=>zo J (aD KO (A1 _ q_r3) ⟨(ht J),aT⟩)<|ax aH J an J (ht J) (ht J)<|zo J (cw)<|aq<|ak ?_;refine aA (ae ?_);refine bn 4 J ?_;cases so h;exact bR J J ⟨bt aH J J J,bc J,aT⟩
     ·refine au<|zo J (cW xn rm J J)<|zo J (bB cr J J)<|zo J (np J)<|bp J<|aq<|c9 h J (fun h=>?_) (fun h=>?_)
      ·refine au<|aF J<|bC h fun r4 q_r4 h=>zo J (aD abC (Vn _ q_r4) ⟨(ht J),aT⟩)<|zo J (hY J J)<|zo J (hY J J)<|ax aH J an J (ht J) (ht J)<|bp J<|aq<|ak ?_;refine aA (ae ?_);refine bn 4 J ?_;cases so h;exact bR J J ⟨bt aH J J J,bc J,aT⟩
      ·refine au<|aF J<|zo J (iM j7 J)<|zo J (np J)<|bp J<|aq<|c9 h J (fun h=>?_) (fun h=>?_)
       ·refine au<|zo J (ck (y:=ie) aH ql bh (J))<|ax aH J an J (ht J) (ht J)<|zo J (cw)<|aq<|ak ?_;refine aA (ae ?_);refine bn 4 J ?_;cases so h;exact bR J J ⟨bt aH J J J,bc J,aT⟩
       ·refine au<|zo J (cW xn rm J J)<|zo J (bB cr J J)<|zo J (np J)<|bp J<|aq<|c9 h J (fun h=>?_) (fun h=>?_)
        ·refine au<|aF J<|bC h fun r5 q_r5 h=>zo J (aD abB (Vm _ _ q_r5) ⟨(ht J),(yF Su fun x y h=>Iz _ _ h),aT⟩)<|ax aH J an J (ht J) (ht J)<|zo J (cw)<|aq<|ak ?_;refine aA (ae ?_);refine bn 4 J ?_;cases so h;exact bR J J ⟨bt aH J J J,bc J,aT⟩
        ·refine bA<|ap<|aw<|au<|aF rfl<|bC h fun r6 q_r6 h=>zo J (aD abA (Vl _ _ q_r6) ⟨(ht J),(yF Su fun x y h=>Iz _ _ h),aT⟩)<|ax aH J an J (ht J) (ht J)<|zo J (cw)<|aq<|ak<|bn 4 J ?_;cases so h;exact bR J J ⟨bt aH J J J,bc J,aT⟩

theorem MB(l:(List (List (List ac)))){R:Int}(h:uV l=some R):aU aO 97 [ca (dT) l] (bM R):=by
 refine aU.of Tryz.func97 J J J fun w0 S0=>au<|zo J (cw)<|aq<|au<|zo J (cw)<|aq<|ah<|au<|aF J<|zo J (iM ot J)<|zo J (bD hI)<|aq<|ay<|ba (k:=8) J fun hN=>bI ?_;refine aS (n7 (Z:=fun ls i n=>(l.drop i=ls)∧k6 ls n=some R) (Of:=fun _ i n=>[]) (Gf:=fun _ i n=>[(3,bM n),(8,ca (dT) l),(9,jk l),(10,bM (i:Int))]) (fun i n h=>?_) (fun e tl ih i n h=>?_) l 0 (0:Int) ⟨J,h⟩) (bv J)
 ·obtain⟨hx,h⟩:=h
  refine aC<|au<|zo J (fD J J)<|aq<|ah<|bz (ht J) (di hx)<|bu ?_;refine ai (ai (aN ?_));refine aw<|ah<|au<|aF rfl<|zo rfl (gu (ht rfl) hI)<|aq<|c9 h rfl (fun h=>?_) (fun h=>?_)
  ·refine au<|zo J (cw)<|aq<|ak<|ae ?_;cases so h;exact aG J J
  ·refine dS<|au<|zo J (cw)<|aq<|ak ?_;cases so h;exact aG J J
 ·obtain⟨hx,h⟩:=h
  refine aC<|au<|zo J (fD J J)<|aq<|ah<|bw (ht J) (dg hx)<|dS<|ah<|ay<|au<|zo J (lX ot gF J J J (cS hx))<|zo J (bB gF J J)<|bp J<|aq<|ah<|au<|aF J<|zo J (iM jW J) ?_;refine zo J (bD hI)<|aq<|ay<|ba (k:=14) J fun hN1=>bI ?_;refine aS (dQ (Z:=fun ls1 i1=>(e.drop i1=ls1)∧pO (k6 tl) e n ls1=some R) (Of:=fun _ i1=>[]) (Gf:=fun _ i1=>[(3,bM n),(5,ca (dj) e),(8,ca (dT) l),(9,jk l),(10,bM (i:Int)),(14,ca (dj) e),(15,jk e),(16,bM (i1:Int))]) (fun i1 h=>?_) (fun e1 tl1 ih1 i1 h=>?_) e 0 ⟨J,h⟩) (bv J)
  ·obtain⟨hx1,h⟩:=h
   refine aC<|au<|zo J (fD J J)<|aq<|ah<|bz (ht J) (di hx1)<|bu ?_;refine ai (ai (aN ?_));refine aw<|av<|aF rfl<|aF rfl<|zo rfl (iM jW rfl)<|zo rfl (NK (ht rfl) (ht rfl))<|bp rfl<|aQ<|ap<|aw<|av<|zo rfl (lY (cA hx hN) rfl)<|aF rfl<|aQ ?_;exact bf (aS (ih (i+1) (max n (e.length:Int)) ⟨cz hx,h⟩) (bv J))
  ·obtain⟨hx1,h⟩:=h
   refine aC<|au<|zo J (fD J J)<|aq<|ah<|bw (ht J) (dg hx1)<|dS<|ah<|ay<|au<|zo J (lX jW d3 J J J (cS hx1))<|zo J (bB d3 J J)<|bp J<|aq<|au<|aF J<|bC h fun r q_r h=>zo J (aD YF (MC _ q_r) ⟨(ht J),aT⟩) ?_;refine zo J (fS (ht J))<|aq<|c9 h J (fun h=>?_) (fun h=>?_)
   ·refine au<|zo J (cw)<|aq<|ak ?_;refine aA (ae (ae (aA (ae (aA (ae (ae (aA (ae ?_)))))))));cases so h;exact aG J J
   ·refine bA<|ap<|aw<|av<|zo rfl (lY (cA hx1 hN1) rfl)<|aF rfl<|aQ ?_;exact bf (aS (ih1 (i1+1) ⟨cz hx1,h⟩) (bv J))

theorem UR(c:Int){R:Bool}(h:tP c=some R):aU aO 257 [bM c] (ig R):=by
 refine aU.of Tryz.func257 J J J fun w0 S0=>au<|zo J (jj)<|aq<|au<|aF J<|zo J (gJ (ht J) hI)<|bp J<|aq<|ak ?_;cases so h;exact aG J J

theorem Uy(r:(List ac))(c:Int){R:Bool}(h:xM r c=some R):aU aO 322 [bM c,bO dj r] (ig R):=by
 refine aU.of Tryz.func322 J J J fun w0 S0=>au<|zo J (jj)<|aq<|au<|aF J<|zo J (gJ (ht J) hI)<|aF J<|gD J J (fun hg=>dA J)<|gD J J (fun hg=>bB d3 J J)<|gD J J (fun hg=>dO iK (bK J hg))<|gD J J (fun hg=>iu (bK J hg) (bK J hg))<|zo J (yO J J)<|bp J<|aq<|ak ?_;cases so h;exact aG J J

theorem UQ(r:(List ac))(columns:(List Int)){R:Bool}(h:Dc r columns=some R):aU aO 259 [ca (af) r,lW columns] (ig R):=by
 refine aU.of Tryz.func259 J J J fun w0 S0=>au<|zo J (je J)<|zo J (jj)<|aq<|au<|zo J ((show bP _ _ _ _ ((dn aO I7 ko (fun(x:Int)=>(xM r) x)))from hJ (cts:=[bO dj r]) (caps:=[.tmp 2]) aau ⟨(ht J),aT⟩ (fun x y h=>Uy _ _ h)))<|bp J<|aq<|au<|aF J<|zo J (iM gM J)<|zo J (nN (ht J) hI)<|aF J<|bC h fun t q_t h=>dC J J (fun hg=>dA J)<|dC J J (fun hg=>dA J) ?_
 obtain⟨r1,h1t,h0t⟩:=og q_t
 have q_r1g:=fun hb=>(h1t hb).1
 refine dC J J (fun hg=>aD OG (Dp _ _ (q_r1g hg)) ⟨(bK J hg),(bK J hg),aT⟩)<|dC J J (fun hg=>fS (bK J hg))<|zo J (d4 (ht J) (fun hb=>(bK J hb)) (fun hb=>(h1t hb).2) h0t)<|bp J<|aq<|ak ?_;cases so h;exact aG J J

theorem Vb(l:(List (List ac)))(columns:(List Int)){R:Int}(h:xN l columns=some R):aU aO 173 [ca (dj) l,lW columns] (bM R):=by
 refine aU.of Tryz.func173 J J J fun w0 S0=>au<|zo J (cw)<|aq<|ah<|au<|aF J<|zo J (aV (r:=dT) (ys:=[l]) (xs:=[.tmp 9]) ot gF J J J J J ⟨(ht J),aT⟩)<|bC h fun r q_r h=>zo J (aD YE (MB _ q_r) ⟨(ht J),aT⟩)<|bp J<|aq<|au<|aF J<|zo J (tJ J)<|aq<|c9 h J (fun h=>?_) (fun h=>?_)
 ·refine au<|aF J<|bp J<|aq<|ak<|ae ?_;cases so h;exact aG J J
 ·refine dS<|au<|zo J (aL (show aJ _ _ _ ((dn aO I7 ko (fun(x:Int)=>tP x)))from(yF aaO fun x y h=>UR _ h)))<|aq<|ah<|au<|aF J<|zo J (iM gM J)<|zo J (gu (ht J) hI)<|aF J<|bC h fun t q_t h=>gD J J (fun hg=>dA J)<|gD J J (fun hg=>dA J) ?_
  obtain⟨r1,h1t,h0t⟩:=og q_t
  have q_r1g:=fun hb=>(h1t hb).1
  refine gD J J (fun hg=>aD OG (Dp _ _ (q_r1g hg)) ⟨(bK J hg),(bK J hg),aT⟩)<|zo J (ir (ht J) (fun hb=>(bK J (wv hb))) (fun hb=>(h1t hb).2) h0t)<|aq<|c9 h J (fun h=>?_) (fun h=>?_)
  ·refine au<|zo J (cw)<|aq<|ak<|ae ?_;cases so h;exact aG J J
  ·refine dS<|ah<|au<|aF J<|zo J (iM jW J)<|zo J (bD hI)<|aq<|ay<|ba (k:=23) J fun hN=>bI ?_;refine aS (dQ (Z:=fun ls i=>(l.drop i=ls)∧pP columns ls=some R) (Of:=fun _ i=>[]) (Gf:=fun _ i=>[(1,lW columns),(23,ca (dj) l),(24,jk l),(25,bM (i:Int))]) (fun i h=>?_) (fun e tl ih i h=>?_) l 0 ⟨J,h⟩) (bv J)
   ·obtain⟨hx,h⟩:=h
    refine aC<|au<|zo J (fD J J)<|aq<|ah<|bz (ht J) (di hx)<|bu ?_;refine ai (ai (aN ?_));refine aw<|au<|zo rfl (cw)<|aq<|ak ?_;cases so h;exact aG J J
   ·obtain⟨hx,h⟩:=h
    refine aC<|au<|zo J (fD J J)<|aq<|ah<|bw (ht J) (dg hx)<|dS<|ah<|ay<|au<|zo J (lX jW d3 J J J (cS hx))<|zo J (bB d3 J J)<|bp J<|aq<|au<|aF J<|aF J<|bC h fun r2 q_r2 h=>?_;refine zo J (aD aaN (UQ _ _ q_r2) ⟨(ht J),(ht J),aT⟩)<|zo J (fS (ht J))<|aq<|c9 h J (fun h=>?_) (fun h=>?_)
    ·refine au<|zo J (cw)<|aq<|ak ?_;refine aA (ae (ae (aA (ae ?_))));cases so h;exact aG J J
    ·refine bA<|ap<|aw<|av<|zo rfl (lY (cA hx hN) rfl)<|aF rfl<|aQ ?_;exact bf (aS (ih (i+1) ⟨cz hx,h⟩) (bv J))

theorem E3(s:(List ac)){R:(List ac)}(h:cv s=some R):f9 aO 106 [ca (af) s] false af 46 R:=by
 refine f9.of Tryz.func106 J J J fun w0 S0=>au<|bQ false af 46<|zo J (aL s9)<|aq<|ah<|au<|aF J<|tq iK (ht J) J fun isnil hisnil=>aq<|oS (ht J) (fun hc=>?_) (fun hc=>?_)
 ·have hx:=hisnil hc
  have h:some Hq=some R:=by simpa [cv,app,hx] using h
  refine au<|bQ false af 46<|zo J (aL s9)<|aq<|ak<|ae ?_;cases so h;exact gm J J
 ·refine dS<|au<|j6 (r:=af) (ys:=Hq) (xs:=[]) iK aH J J J J J trivial J fun l c=>aF J<|bC h fun x q_x h=>cV aH J J J J iK J J (ht J) (ht J) q_x fun l1 c1=>bp J<|aq<|ak ?_;cases so h;exact gm J J
end Go.Proofs.YtfhhakidodmdfaaGreatDoor

