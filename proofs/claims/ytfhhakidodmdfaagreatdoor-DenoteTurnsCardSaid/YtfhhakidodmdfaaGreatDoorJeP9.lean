/- cT of this claim: P9. -/
import Derived.Test.YtfhhakidodmdfaaGreatDoorJeT
import Derived.Test.YtfhhakidodmdfaaGreatDoorJeP8
set_option linter.all false
namespace Go.Proofs.YtfhhakidodmdfaaGreatDoor
open Go
set_option maxRecDepth 100000

theorem Vd(s1:(List ac))(s2:(List ac))(cmp:(ac→ac→Option Int)){R:Int}(h:cr s1 s2 cmp=some R):aV aR 160 [bZ (af) s1,bZ (af) s2,(dX aR p8 yF (fun(x:ac×ac)=>cmp x.1 x.2))] (bI R):=by
 refine aV.of Tryz.func160 J J J fun w0 S0=>aw<|zo J (cF)<|au<|ah<|aw<|aF J<|zo J (iJ iX J)<|zo J (bG hI)<|au<|aA<|bc (k:=11) J fun hN=>bJ ?_;refine aT (eI (Z:=fun ls i=>(s1.drop i=ls)∧bF s1 s2 cmp ls i=some R) (Of:=fun _ i=>[]) (Gf:=fun _ i=>[(0,bZ (af) s1),(1,bZ (af) s2),(2,(dX aR p8 yF (fun(x:ac×ac)=>cmp x.1 x.2))),(11,bZ (af) s1),(12,jr s1),(13,bI (i:Int))]) (fun i h=>?_) (fun e tl ih i h=>?_) s1 0 ⟨J,h⟩) (bt J)
 ·obtain⟨hx,h⟩:=h
  refine aB<|aw<|zo J (fL J J)<|au<|ah<|bz (ht J) (du hx)<|bu ?_;refine ai (ai (aN ?_));refine av<|ah<|aw<|aF rfl<|zo rfl (iJ iX rfl)<|aF rfl<|zo rfl (iJ iX rfl)<|zo rfl (fL rfl rfl)<|au<|dd h rfl (fun h=>?_) (fun h=>?_)
  ·refine aw<|zo J (cF)<|au<|am<|ae ?_;cases so h;exact aL J J
  ·refine dU<|aw<|zo J (cF)<|au<|am ?_;cases so h;exact aL J J
 ·obtain⟨hx,h⟩:=h
  refine aB<|aw<|zo J (fL J J)<|au<|ah<|bw (ht J) (dl hx)<|dU<|ah<|aA<|aw<|aF J<|zo J (ml iX aG J J J (cX hx))<|zo J (bC aG J J)<|aY (r:=af) (x:=hJ) aG (fun _=>bh _) J fun b=>bo J<|ax aG J an J (ht J) (ht J)<|aW 8 J<|au<|ah ?_;refine aw<|aF J<|aF J<|zo J (iJ iX J)<|zo J (jg (ht J) (ht J))<|au<|dd h J (fun h=>?_) (fun h=>?_)
  ·refine aw<|zo J (cF)<|au<|am ?_;refine ae (aD (ae (ae (aD (ae ?_)))));cases so h;exact aL J J
  ·refine dU<|aw<|aF J<|aF J<|bB h fun e1 q_e1 h=>zo J (ml iX aG J J J q_e1)<|zo J (bC aG J J)<|aY (r:=af) (x:=hJ) aG (fun _=>bh _) J fun b1=>ax aG J an J (ht J) (ht J)<|aW 9 J<|au<|aw<|aF J<|zo J (bC aG J J)<|zo J (bC aG J J)<|bB h fun r q_r h=>zo J (gS (args:=p8) (res:=SZ) (f:=(fun(x:ac×ac)=>cmp x.1 x.2)) (x:=((e,e1):ac×ac)) (ht J) q_r ⟨(ht J),(ht J),aS⟩)<|bo J<|au ?_;refine aw<|aF J<|zo J (uL J)<|au<|dd h J (fun h=>?_) (fun h=>?_)
   ·refine aw<|aF J<|bo J<|au<|am ?_;refine aD (ae (ae (aD (ae ?_))));cases so h;exact aL J J
   ·refine bA<|ap<|av<|aq<|zo rfl (lZ (cL hx hN) rfl)<|aF rfl<|aQ ?_;exact bg (aT (ih (i+1) ⟨cK hx,h⟩) (bt J))

theorem Oh(p:Int){R:Bool}(h:ot p=some R):aV aR 311 [tD Hv p] (iz R):=by
 refine aV.of Tryz.func311 J J J fun w0 S0=>aw<|zo J (jS)<|au<|aw<|aF J<|aF J<|zo J (fM (ht J) (ht J))<|bo J<|au<|am ?_;cases so h;exact aL J J

theorem US(p:Int)(y:Int){R:Int}(h:mL p y=some R):aV aR 244 [tD Hv p,tD Hv y] (bI R):=by
 refine aV.of Tryz.func244 J J J fun w0 S0=>aw<|zo J (cF)<|au<|aw<|aF J<|bB h fun r q_r h=>zo J (aE Wr (Oh _ q_r) ⟨(ht J),aS⟩)<|bo J<|au<|aw<|aF J<|bB h fun r1 q_r1 h=>zo J (aE Wr (Oh _ q_r1) ⟨(ht J),aS⟩)<|bo J<|au<|ah<|ah ?_;refine aq<|aF J<|au<|dd h J (fun h=>?_) (fun h=>?_)
 ·refine ah<|aw<|aF J<|au<|dd h J (fun h=>?_) (fun h=>?_)
  ·refine aw<|zo J (cF)<|au<|am ?_;refine ae (ae ?_);cases so h;exact aL J J
  ·refine dU<|aw<|zo J (cF)<|au<|am<|ae ?_;cases so h;exact aL J J
 ·refine dU<|ah<|aw<|aF J<|au<|dd h J (fun h=>?_) (fun h=>?_)
  ·refine aw<|zo J (cF)<|au<|am<|ae ?_;cases so h;exact aL J J
  ·refine dU<|ah<|aw<|aF J<|aF J<|zo J (fL J J)<|au<|dd h J (fun h=>?_) (fun h=>?_)
   ·refine aw<|zo J (cF)<|au<|am<|ae ?_;cases so h;exact aL J J
   ·refine dU<|ah<|aw<|aF J<|aF J<|zo J (gm (ht J) (ht J))<|au<|dd h J (fun h=>?_) (fun h=>?_)
    ·refine aw<|zo J (cF)<|au<|am<|ae ?_;cases so h;exact aL J J
    ·refine dU<|aw<|zo J (cF)<|au<|am ?_;cases so h;exact aL J J

theorem Og(p:wF){R:Bool}(h:ou p=some R):aV aR 312 [tD rS p] (iz R):=by
 refine aV.of Tryz.func312 J J J fun w0 S0=>aw<|zo J (jS)<|au<|aw<|aF J<|aF J<|zo J (TB (ht J) (ht J))<|bo J<|au<|am ?_;cases so h;exact aL J J

theorem UR(p:wF)(y:wF){R:Int}(h:mM p y=some R):aV aR 245 [tD rS p,tD rS y] (bI R):=by
 refine aV.of Tryz.func245 J J J fun w0 S0=>aw<|zo J (cF)<|au<|aw<|aF J<|bB h fun r q_r h=>zo J (aE Wq (Og _ q_r) ⟨(ht J),aS⟩)<|bo J<|au<|aw<|aF J<|bB h fun r1 q_r1 h=>zo J (aE Wq (Og _ q_r1) ⟨(ht J),aS⟩)<|bo J<|au<|ah<|ah ?_;refine aq<|aF J<|au<|dd h J (fun h=>?_) (fun h=>?_)
 ·refine ah<|aw<|aF J<|au<|dd h J (fun h=>?_) (fun h=>?_)
  ·refine aw<|zo J (cF)<|au<|am ?_;refine ae (ae ?_);cases so h;exact aL J J
  ·refine dU<|aw<|zo J (cF)<|au<|am<|ae ?_;cases so h;exact aL J J
 ·refine dU<|ah<|aw<|aF J<|au<|dd h J (fun h=>?_) (fun h=>?_)
  ·refine aw<|zo J (cF)<|au<|am<|ae ?_;cases so h;exact aL J J
  ·refine dU<|ah<|aw<|aF J<|aF J<|zo J (TC (ht J) (ht J))<|au<|dd h J (fun h=>?_) (fun h=>?_)
   ·refine aw<|zo J (cF)<|au<|am<|ae ?_;cases so h;exact aL J J
   ·refine dU<|ah<|aw<|aF J<|aF J<|zo J (TE (ht J) (ht J))<|au<|dd h J (fun h=>?_) (fun h=>?_)
    ·refine aw<|zo J (cF)<|au<|am<|ae ?_;cases so h;exact aL J J
    ·refine dU<|aw<|zo J (cF)<|au<|am ?_;cases so h;exact aL J J

theorem Vc(a1:ac)(b:ac){R:Int}(h:o3 a1 b=some R):aV aR 161 [tD af a1,tD af b] (bI R):=by
 refine aV.of Tryz.func161 J J J fun w0 S0=>aw<|zo J (js J)<|zo J (js J)<|zo J (cF)<|au<|ah<|bB h fun r q_r h=>bB h fun r1 q_r1 h=>bB h fun r2 q_r2 h=>bB h fun r3 q_r3 h=>bB h fun r4 q_r4 h=>?_
 refine dc (ts:=[_,_,_,_,_,_,_,_,_,_,_,_,_,_,_,_,_,_,_,_,_,_,_]) mixed J J
  ⟨fb 2 J J J (de gZ cS J J),
  ⟨ca 5 0 J J J (bC cu J J),
  ⟨fb 3 J J J (de gZ cS J J),
  ⟨ca 7 2 J J J (bC cu J J),
  ⟨d6 6 1 8 3 J J J J (aE Z1 (RL _ _ q_r) ⟨(ht J),(ht J),aS⟩),
  ⟨fb 2 J J J (de lP fk J J),
  ⟨ca 10 5 J J J (bC FO J J),
  ⟨fb 3 J J J (de lP fk J J),
  ⟨ca 12 7 J J J (bC FO J J),
  ⟨d6 11 6 13 8 J J J J (aE WA (Ou _ _ q_r1) ⟨(ht J),(ht J),aS⟩),
  ⟨fb 2 J J J (de BW qu J J),
  ⟨ca 15 10 J J J (bC LL J J),
  ⟨fb 3 J J J (de BW qu J J),
  ⟨ca 17 12 J J J (bC LL J J),
  ⟨d6 16 11 18 13 J J J J (aE aaN (US _ _ q_r2) ⟨(ht J),(ht J),aS⟩),
  ⟨fb 2 J J J (de xy nQ J J),
  ⟨ca 20 15 J J J (bC Tc J J),
  ⟨fb 3 J J J (de xy nQ J J),
  ⟨ca 22 17 J J J (bC Tc J J),
  ⟨d6 21 16 23 18 J J J J (aE aaM (UR _ _ q_r3) ⟨(ht J),(ht J),aS⟩),
  ⟨⟨[⟨9,_,some 4⟩,⟨14,_,some 9⟩,⟨19,_,some 14⟩,⟨24,_,some 19⟩],_,J,⟨J,J,J,J,aS⟩,J,J,ay J (aU (r:=bT) (ys:=[r,r1,r2,r3]) (xs:=[.tmp 9,.tmp 14,.tmp 19,.tmp 24]) gF cu J J J J J ⟨(ht J),(ht J),(ht J),(ht J),aS⟩)⟩,
  ⟨ca 25 20 J J J (aE So (IE _ q_r4) ⟨(ht J),aS⟩),
  ⟨ca 26 21 J J J (uM J),
  aS⟩⟩⟩⟩⟩⟩⟩⟩⟩⟩⟩⟩⟩⟩⟩⟩⟩⟩⟩⟩⟩⟩⟩ ?_
 refine av<|am ?_;cases so h;exact aL J J

theorem Iv(a1:(List ac))(b:(List ac)){R:Int}(h:pg a1 b=some R):aV aR 95 [bZ (af) a1,bZ (af) b] (bI R):=by
 refine aV.of Tryz.func95 J J J fun w0 S0=>aw<|zo J (cF)<|au<|aw<|aF J<|aF J<|bB h fun r q_r h=>zo J (aE abo (Vd _ _ _ q_r) ⟨(ht J),(ht J),(y9 abn fun x y h=>Vc _ _ h),aS⟩)<|bo J<|au<|am ?_;cases so h;exact aL J J

theorem RN(a1:(List ac))(b:(List ac)){R:Int}(h:ph a1 b=some R):aV aR 38 [bZ (af) a1,bZ (af) b] (bI R):=by
 refine aV.of Tryz.func38 J J J fun w0 S0=>aw<|zo J (cF)<|au<|ah<|aw<|aF J<|bB h fun r q_r h=>zo J (aE Yy (MJ _ q_r) ⟨(ht J),aS⟩)<|zo J (gg (ht J))<|aF J<|bB h fun t q_t h=>gY J J (fun hg=>dv J) ?_
 obtain⟨r1,h1t,h0t⟩:=og q_t
 have q_r1g:=fun hb=>(h1t hb).1
 refine gY J J (fun hg=>aE Yy (MJ _ (q_r1g hg)) ⟨(bP J hg),aS⟩)<|gY J J (fun hg=>gg (bP J hg))<|zo J (lk (ht J) (fun hb=>(bP J (AL hb))) (fun hb=>(h1t hb).2) h0t)<|au<|dd h J (fun h=>?_) (fun h=>?_)
 ·refine aw<|zo J (cF)<|au<|am<|ae ?_;cases so h;exact aL J J
 ·refine dU<|aw<|aF J<|aF J<|bB h fun r2 q_r2 h=>zo J (aE VD (Iv _ _ q_r2) ⟨(ht J),(ht J),aS⟩)<|bo J<|au<|am ?_;cases so h;exact aL J J

theorem IF(a1:ac)(b:ac){R:Int}(h:hT a1 b=some R):aV aR 136 [tD af a1,tD af b] (bI R):=by
 refine aV.of Tryz.func136 J J J fun w0 S0=>aw<|zo J (js J)<|zo J (js J)<|zo J (cF)<|au<|aw<|zo J (bC aG J J)<|zo J (aU (r:=af) (ys:=[a1]) (xs:=[.tmp 5]) iX aG J J J J J ⟨(ht J),aS⟩)<|zo J (bC aG J J)<|zo J (aU (r:=af) (ys:=[b]) (xs:=[.tmp 7]) iX aG J J J J J ⟨(ht J),aS⟩)<|bB h fun r q_r h=>zo J (aE Z3 (RN _ _ q_r) ⟨(ht J),(ht J),aS⟩)<|bo J<|au<|am ?_;cases so h;exact aL J J

theorem Vj(p:(List ac))(cmp:(ac→ac→Option Int)){R:ac}(h:eN p cmp=some R):aV aR 137 [bZ (af) p,(dX aR p8 yF (fun(x:ac×ac)=>cmp x.1 x.2))] (tD af R):=by
 refine aV.of Tryz.func137 J J J fun w0 S0=>aw<|aY (r:=af) (x:=hJ) aG (fun _=>bh _) J fun b=>au ?_;refine vp (Z:=ga p cmp=some R) (Of:=[bx af 46 b hJ]) (Gf:=[(0,bZ (af) p),(1,(dX aR p8 yF (fun(x:ac×ac)=>cmp x.1 x.2))),(4,tV (aP b 0))]) (fun h=>?_) (fun K=>?_)
 ·skip
  refine aw<|aF J<|bB h fun e q_e h=>zo J (bp jY aG J (ht J) hI q_e)<|zo J (bC aG J J)<|aY (r:=af) (x:=hJ) aG (fun _=>bh _) J fun b1=>ax aG J an J (ht J) (ht J)<|au<|ah<|aw<|zo J (cF)<|au<|aA<|bc (k:=0) J fun hN=>bJ<|gz ?_;refine aT (oa (Z:=fun ls i m=>(p.drop i=ls)∧cH cmp ls m=some R) (Of:=fun _ i m=>[bx af 46 b hJ,bx af 46 b1 m]) (Gf:=fun _ i m=>[(0,bZ (af) p),(1,(dX aR p8 yF (fun(x:ac×ac)=>cmp x.1 x.2))),(4,tV (aP b 0)),(5,tV (aP b1 0)),(6,bI (i:Int))]) (fun i m h=>?_) (fun e1 tl ih i m h=>?_) (p.drop (1)) 1 e ⟨J,h⟩) (bt J)
  ·obtain⟨hx,h⟩:=h
   refine aB<|ah<|aw<|aF J<|aF J<|zo J (iJ jY J)<|zo J (fL J J)<|au<|bz (ht J) (du hx)<|bu ?_;refine ai (ai (aN ?_));refine av<|aw<|zo rfl (ce aG rfl rfl bR (.tail _ (.head _)) (ht rfl))<|ax aG rfl an rfl (ht rfl) (ht rfl)<|aW 4 rfl<|au<|am<|be ?_;cases so h;exact iI J aG J J J
  ·obtain⟨hx,h⟩:=h
   refine aB<|ah<|aw<|aF J<|aF J<|zo J (iJ jY J)<|zo J (fL J J)<|au<|bw (ht J) (dl hx)<|dU<|ah<|aA<|ah<|bB h fun r q_r h=>?_
   refine dc (ts:=[_,_,_,_,_,_,_,_]) mixed J J
    ⟨fb 1 J J J (dv J),
    ⟨fb 0 J J J (dv J),
    ⟨fb 6 J J J (dv J),
    ⟨d6 21 1 22 2 J J J J (ml jY aG J J J (cX hx)),
    ⟨ca 23 3 J J J (bC aG J J),
    ⟨fb 5 J J J (ce aG J J bR (.tail _ (.head _)) (ht J)),
    ⟨Gq 20 0 24 4 25 5 J J J J J (gS (args:=p8) (res:=SZ) (f:=(fun(x:ac×ac)=>cmp x.1 x.2)) (x:=((e1,m):ac×ac)) (ht J) q_r ⟨(ht J),(ht J),aS⟩),
    ⟨ca 26 6 J J J (gm (ht J) hI),
    aS⟩⟩⟩⟩⟩⟩⟩⟩ ?_
   refine av<|dd h rfl (fun h=>?_) (fun h=>?_)
   ·refine aq<|aF J<|aF J<|zo J (ml jY aG J J J (cX hx))<|zo J (bC aG J J)<|bH<|ax aG J an J (ht J) (ht J)<|aQ<|ap<|av<|aq<|aF rfl<|zo rfl (lZ (cL hx hN) rfl)<|bo rfl<|aQ<|bv ?_;exact bg (aT (ih (i+1) e1 ⟨cK hx,h⟩) (bt J))
   ·refine bA<|ap<|av<|aq<|aF rfl<|zo rfl (lZ (cL hx hN) rfl)<|bo rfl<|aQ ?_;exact bg (aT (ih (i+1) m ⟨cK hx,h⟩) (bt J))
 ·skip
  refine aw<|aF J<|zo J (iJ jY J)<|zo J (gD (ht J) hI)<|au<|dd h J (fun h=>?_) (fun h=>?_)
  ·refine aq ?_;exact(nn h).elim
  ·refine bA ?_;exact cC (K h) (bt J)

theorem XY(a1:gM)(rows:(List (List ac))){R:ac×Int}(h:lW a1 rows=some R):aV aR 76 [tD fi a1,bZ (cV) rows] (tT [tD af R.1,bI R.2]):=by
 refine aV.of Tryz.func76 J J J fun w0 S0=>aw<|zo J (js J)<|aY (r:=af) (x:=hJ) aG (fun _=>bh _) J fun b=>zo J (cF)<|au<|ah<|aw<|zo J (de zL ta J J)<|zo J (bC cu J J)<|zo J (nr J)<|au<|dd h J (fun h=>?_) (fun h=>?_)
 ·refine aw<|aF J<|zo J (iJ ja J)<|bB h fun r q_r h=>zo J (aE KX (A1 _ q_r) ⟨(ht J),aS⟩)<|ax aG J an J (ht J) (ht J)<|zo J (cF)<|au<|am<|ae<|bn 4 J ?_;cases so h;exact bS J J ⟨br aG J J J,aZ J,aS⟩
 ·refine dU<|aw<|zo J (bC tJ J J)<|aF J<|bB h fun r1 q_r1 h=>zo J (aE abz (Vo _ _ q_r1) ⟨(ht J),(ht J),aS⟩)<|aF J<|zo J (gV J J)<|zo J (gV J J)<|bo J<|bo J<|au<|ah<|aw<|aF J<|zo J (nr J)<|au<|dd h J (fun h=>?_) (fun h=>?_)
  ·refine aw<|zo J (cn (y:=hJ) aG qb bh (J))<|aF J<|ax aG J an J (ht J) (ht J)<|bo J<|au<|am<|ae<|bn 4 J ?_;cases so h;exact bS J J ⟨br aG J J J,aZ J,aS⟩
  ·refine dU<|aw<|zo J (aK (show aH _ _ _ ((dX aR Al nq (fun(x:ac)=>mJ x)))from(y9 aby fun x y h=>Vn _ h)))<|au<|ah<|aA<|aw<|zo J (de zL ta J J)<|zo J (bC cu J J)<|zo J (nr J)<|aF J<|bB h fun t q_t h=>dK J J (fun hg=>dv J)<|dK J J (fun hg=>dv J) ?_
   obtain⟨r2,h1t,h0t⟩:=og q_t
   have q_r2g:=fun hb=>(h1t hb).1
   refine dK J J (fun hg=>aE abx (Vm _ _ (q_r2g hg)) ⟨(bP J hg),(bP J hg),aS⟩)<|zo J (ff (ht J) (fun hb=>(bP J hb)) (fun hb=>(h1t hb).2) h0t)<|bo J<|au<|dd h J (fun h=>?_) (fun h=>?_)
   ·refine aw<|zo J (cn (y:=hJ) aG qb bh (J))<|ax aG J an J (ht J) (ht J)<|zo J (cF)<|au<|am ?_;refine aD (ae ?_);refine bn 4 J ?_;cases so h;exact bS J J ⟨br aG J J J,aZ J,aS⟩
   ·refine aw<|aF J<|zo J (uL J)<|bo J<|au<|dd h J (fun h=>?_) (fun h=>?_)
    ·refine aw<|zo J (cn (y:=hJ) aG qb bh (J))<|aF J<|ax aG J an J (ht J) (ht J)<|bo J<|au<|am ?_;refine aD (ae ?_);refine bn 4 J ?_;cases so h;exact bS J J ⟨br aG J J J,aZ J,aS⟩
    ·refine aw<|zo J (de zL ta J J)<|zo J (bC cu J J)<|zo J (nr J)<|bo J<|au<|dd h J (fun h=>?_) (fun h=>?_)
     ·refine aw<|aF J<|zo J (iJ jY J)<|bB h fun r3 q_r3 h=>zo J (aE KX (A1 _ q_r3) ⟨(ht J),aS⟩)<|ax aG J an J (ht J) (ht J)<|zo J (cF)<|au<|am ?_;refine aD (ae ?_);refine bn 4 J ?_;cases so h;exact bS J J ⟨br aG J J J,aZ J,aS⟩
     ·refine aw<|zo J (de zL ta J J)<|zo J (bC cu J J)<|zo J (nr J)<|bo J<|au<|dd h J (fun h=>?_) (fun h=>?_)
      ·refine aw<|aF J<|bB h fun r4 q_r4 h=>zo J (aE abw (Vl _ q_r4) ⟨(ht J),aS⟩)<|zo J (gV J J)<|zo J (gV J J)<|ax aG J an J (ht J) (ht J)<|bo J<|au<|am ?_;refine aD (ae ?_);refine bn 4 J ?_;cases so h;exact bS J J ⟨br aG J J J,aZ J,aS⟩
      ·refine aw<|aF J<|zo J (iJ jY J)<|zo J (nr J)<|bo J<|au<|dd h J (fun h=>?_) (fun h=>?_)
       ·refine aw<|zo J (cn (y:=hJ) aG qb bh (J))<|ax aG J an J (ht J) (ht J)<|zo J (cF)<|au<|am ?_;refine aD (ae ?_);refine bn 4 J ?_;cases so h;exact bS J J ⟨br aG J J J,aZ J,aS⟩
       ·refine aw<|zo J (de zL ta J J)<|zo J (bC cu J J)<|zo J (nr J)<|bo J<|au<|dd h J (fun h=>?_) (fun h=>?_)
        ·refine aw<|aF J<|bB h fun r5 q_r5 h=>zo J (aE abv (Vk _ _ q_r5) ⟨(ht J),(y9 Sq fun x y h=>IF _ _ h),aS⟩)<|ax aG J an J (ht J) (ht J)<|zo J (cF)<|au<|am ?_;refine aD (ae ?_);refine bn 4 J ?_;cases so h;exact bS J J ⟨br aG J J J,aZ J,aS⟩
        ·refine bA<|ap<|av<|aw<|aF rfl<|bB h fun r6 q_r6 h=>zo J (aE abu (Vj _ _ q_r6) ⟨(ht J),(y9 Sq fun x y h=>IF _ _ h),aS⟩)<|ax aG J an J (ht J) (ht J)<|zo J (cF)<|au<|am<|bn 4 J ?_;cases so h;exact bS J J ⟨br aG J J J,aZ J,aS⟩

theorem MI(l:(List (List (List ac)))){R:Int}(h:uU l=some R):aV aR 97 [bZ (c9) l] (bI R):=by
 refine aV.of Tryz.func97 J J J fun w0 S0=>aw<|zo J (cF)<|au<|aw<|zo J (cF)<|au<|ah<|aw<|aF J<|zo J (iJ mj J)<|zo J (bG hI)<|au<|aA<|bc (k:=8) J fun hN=>bJ ?_;refine aT (oa (Z:=fun ls i n=>(l.drop i=ls)∧kW ls n=some R) (Of:=fun _ i n=>[]) (Gf:=fun _ i n=>[(3,bI n),(8,bZ (c9) l),(9,jr l),(10,bI (i:Int))]) (fun i n h=>?_) (fun e tl ih i n h=>?_) l 0 (0:Int) ⟨J,h⟩) (bt J)
 ·obtain⟨hx,h⟩:=h
  refine aB<|aw<|zo J (fL J J)<|au<|ah<|bz (ht J) (du hx)<|bu ?_;refine ai (ai (aN ?_));refine av<|ah<|aw<|aF rfl<|zo rfl (gm (ht rfl) hI)<|au<|dd h rfl (fun h=>?_) (fun h=>?_)
  ·refine aw<|zo J (cF)<|au<|am<|ae ?_;cases so h;exact aL J J
  ·refine dU<|aw<|zo J (cF)<|au<|am ?_;cases so h;exact aL J J
 ·obtain⟨hx,h⟩:=h
  refine aB<|aw<|zo J (fL J J)<|au<|ah<|bw (ht J) (dl hx)<|dU<|ah<|aA<|aw<|zo J (ml mj fN J J J (cX hx))<|zo J (bC fN J J)<|bo J<|au<|ah<|aw<|aF J<|zo J (iJ ja J) ?_;refine zo J (bG hI)<|au<|aA<|bc (k:=14) J fun hN1=>bJ ?_;refine aT (eI (Z:=fun ls1 i1=>(e.drop i1=ls1)∧pK (kW tl) e n ls1=some R) (Of:=fun _ i1=>[]) (Gf:=fun _ i1=>[(3,bI n),(5,bZ (cV) e),(8,bZ (c9) l),(9,jr l),(10,bI (i:Int)),(14,bZ (cV) e),(15,jr e),(16,bI (i1:Int))]) (fun i1 h=>?_) (fun e1 tl1 ih1 i1 h=>?_) e 0 ⟨J,h⟩) (bt J)
  ·obtain⟨hx1,h⟩:=h
   refine aB<|aw<|zo J (fL J J)<|au<|ah<|bz (ht J) (du hx1)<|bu ?_;refine ai (ai (aN ?_));refine av<|aq<|aF rfl<|aF rfl<|zo rfl (iJ ja rfl)<|zo rfl (Ib (ht rfl) (ht rfl))<|bo rfl<|aQ<|ap<|av<|aq<|zo rfl (lZ (cL hx hN) rfl)<|aF rfl<|aQ ?_;exact bg (aT (ih (i+1) (max n (e.length:Int)) ⟨cK hx,h⟩) (bt J))
  ·obtain⟨hx1,h⟩:=h
   refine aB<|aw<|zo J (fL J J)<|au<|ah<|bw (ht J) (dl hx1)<|dU<|ah<|aA<|aw<|zo J (ml ja dL J J J (cX hx1))<|zo J (bC dL J J)<|bo J<|au<|aw<|aF J<|bB h fun r q_r h=>zo J (aE Yy (MJ _ q_r) ⟨(ht J),aS⟩) ?_;refine zo J (gg (ht J))<|au<|dd h J (fun h=>?_) (fun h=>?_)
   ·refine aw<|zo J (cF)<|au<|am ?_;refine aD (ae (ae (aD (ae (aD (ae (ae (aD (ae ?_)))))))));cases so h;exact aL J J
   ·refine bA<|ap<|av<|aq<|zo rfl (lZ (cL hx1 hN1) rfl)<|aF rfl<|aQ ?_;exact bg (aT (ih1 (i1+1) ⟨cK hx1,h⟩) (bt J))

theorem UQ(c:Int){R:Bool}(h:tQ c=some R):aV aR 257 [bI c] (iz R):=by
 refine aV.of Tryz.func257 J J J fun w0 S0=>aw<|zo J (jS)<|au<|aw<|aF J<|zo J (gD (ht J) hI)<|bo J<|au<|am ?_;cases so h;exact aL J J

theorem Ux(r:(List ac))(c:Int){R:Bool}(h:xV r c=some R):aV aR 322 [bI c,bM cV r] (iz R):=by
 refine aV.of Tryz.func322 J J J fun w0 S0=>aw<|zo J (jS)<|au<|aw<|aF J<|zo J (gD (ht J) hI)<|aF J<|gY J J (fun hg=>dv J)<|gY J J (fun hg=>bC dL J J)<|gY J J (fun hg=>dQ iX (bP J hg))<|gY J J (fun hg=>jg (bP J hg) (bP J hg))<|zo J (yE J J)<|bo J<|au<|am ?_;cases so h;exact aL J J

theorem UP(r:(List ac))(columns:(List Int)){R:Bool}(h:Db r columns=some R):aV aR 259 [bZ (af) r,mh columns] (iz R):=by
 refine aV.of Tryz.func259 J J J fun w0 S0=>aw<|zo J (js J)<|zo J (jS)<|au<|aw<|zo J ((show bQ _ _ _ _ ((dX aR Jc nq (fun(x:Int)=>(xV r) x)))from iB (cts:=[bM cV r]) (caps:=[.tmp 2]) aaq ⟨(ht J),aS⟩ (fun x y h=>Ux _ _ h)))<|bo J<|au<|aw<|aF J<|zo J (iJ gF J)<|zo J (nN (ht J) hI)<|aF J<|bB h fun t q_t h=>dK J J (fun hg=>dv J)<|dK J J (fun hg=>dv J) ?_
 obtain⟨r1,h1t,h0t⟩:=og q_t
 have q_r1g:=fun hb=>(h1t hb).1
 refine dK J J (fun hg=>aE OM (Dp _ _ (q_r1g hg)) ⟨(bP J hg),(bP J hg),aS⟩)<|dK J J (fun hg=>gg (bP J hg))<|zo J (ff (ht J) (fun hb=>(bP J hb)) (fun hb=>(h1t hb).2) h0t)<|bo J<|au<|am ?_;cases so h;exact aL J J

theorem U9(l:(List (List ac)))(columns:(List Int)){R:Int}(h:xW l columns=some R):aV aR 173 [bZ (cV) l,mh columns] (bI R):=by
 refine aV.of Tryz.func173 J J J fun w0 S0=>aw<|zo J (cF)<|au<|ah<|aw<|aF J<|zo J (aU (r:=c9) (ys:=[l]) (xs:=[.tmp 9]) mj fN J J J J J ⟨(ht J),aS⟩)<|bB h fun r q_r h=>zo J (aE Yx (MI _ q_r) ⟨(ht J),aS⟩)<|bo J<|au<|aw<|aF J<|zo J (uL J)<|au<|dd h J (fun h=>?_) (fun h=>?_)
 ·refine aw<|aF J<|bo J<|au<|am<|ae ?_;cases so h;exact aL J J
 ·refine dU<|aw<|zo J (aK (show aH _ _ _ ((dX aR Jc nq (fun(x:Int)=>tQ x)))from(y9 aaL fun x y h=>UQ _ h)))<|au<|ah<|aw<|aF J<|zo J (iJ gF J)<|zo J (gm (ht J) hI)<|aF J<|bB h fun t q_t h=>gY J J (fun hg=>dv J)<|gY J J (fun hg=>dv J) ?_
  obtain⟨r1,h1t,h0t⟩:=og q_t
  have q_r1g:=fun hb=>(h1t hb).1
  refine gY J J (fun hg=>aE OM (Dp _ _ (q_r1g hg)) ⟨(bP J hg),(bP J hg),aS⟩)<|zo J (lk (ht J) (fun hb=>(bP J (AL hb))) (fun hb=>(h1t hb).2) h0t)<|au<|dd h J (fun h=>?_) (fun h=>?_)
  ·refine aw<|zo J (cF)<|au<|am<|ae ?_;cases so h;exact aL J J
  ·refine dU<|ah<|aw<|aF J<|zo J (iJ ja J)<|zo J (bG hI)<|au<|aA<|bc (k:=23) J fun hN=>bJ ?_;refine aT (eI (Z:=fun ls i=>(l.drop i=ls)∧pL columns ls=some R) (Of:=fun _ i=>[]) (Gf:=fun _ i=>[(1,mh columns),(23,bZ (cV) l),(24,jr l),(25,bI (i:Int))]) (fun i h=>?_) (fun e tl ih i h=>?_) l 0 ⟨J,h⟩) (bt J)
   ·obtain⟨hx,h⟩:=h
    refine aB<|aw<|zo J (fL J J)<|au<|ah<|bz (ht J) (du hx)<|bu ?_;refine ai (ai (aN ?_));refine av<|aw<|zo rfl (cF)<|au<|am ?_;cases so h;exact aL J J
   ·obtain⟨hx,h⟩:=h
    refine aB<|aw<|zo J (fL J J)<|au<|ah<|bw (ht J) (dl hx)<|dU<|ah<|aA<|aw<|zo J (ml ja dL J J J (cX hx))<|zo J (bC dL J J)<|bo J<|au<|aw<|aF J<|aF J<|bB h fun r2 q_r2 h=>?_;refine zo J (aE aaK (UP _ _ q_r2) ⟨(ht J),(ht J),aS⟩)<|zo J (gg (ht J))<|au<|dd h J (fun h=>?_) (fun h=>?_)
    ·refine aw<|zo J (cF)<|au<|am ?_;refine aD (ae (ae (aD (ae ?_))));cases so h;exact aL J J
    ·refine bA<|ap<|av<|aq<|zo rfl (lZ (cL hx hN) rfl)<|aF rfl<|aQ ?_;exact bg (aT (ih (i+1) ⟨cK hx,h⟩) (bt J))

theorem E4(s:(List ac)){R:(List ac)}(h:cy s=some R):fJ aR 106 [bZ (af) s] false af 46 R:=by
 refine fJ.of Tryz.func106 J J J fun w0 S0=>aw<|bL false af 46<|zo J (aK rr)<|au<|ah<|aw<|aF J<|tp iX (ht J) J fun isnil hisnil=>au<|oS (ht J) (fun hc=>?_) (fun hc=>?_)
 ·have hx:=hisnil hc
  have h:some Hw=some R:=by simpa [cy,app,hx] using h
  refine aw<|bL false af 46<|zo J (aK rr)<|au<|am<|ae ?_;cases so h;exact fE J J
 ·refine dU<|aw<|jX (r:=af) (ys:=Hw) (xs:=[]) iX aG J J J J J trivial J fun l c=>aF J<|bB h fun x q_x h=>cO aG J J J J iX J J (ht J) (ht J) q_x fun l1 c1=>bo J<|au<|am ?_;cases so h;exact fE J J
end Go.Proofs.YtfhhakidodmdfaaGreatDoor

