/- cT of this claim: P10. -/
import Derived.Test.YtfhhakidodmdfaaGreatDoorJeT
import Derived.Test.YtfhhakidodmdfaaGreatDoorJeP9
set_option linter.all false
namespace Go.Proofs.YtfhhakidodmdfaaGreatDoor
open Go
set_option maxRecDepth 100000

theorem KM(l:(List (List ac))){R:(List (List ac))}(h:sO l=some R):fJ aR 174 [bZ (cV) l] false cV 43 R:=by
 refine fJ.of Tryz.func174 J J J fun w0 S0=>aw<|bL false cV 43<|zo J (aK rr)<|au<|aw<|bL false cV 43<|zo J (aK rr)<|au<|ah<|aw<|aF J<|zo J (iJ ja J)<|zo J (bG hI)<|au<|aA<|bc (k:=6) J fun hN=>bJ ?_;refine gz<|oR ?_;refine aT (jq (Z:=fun ls i out l1 c=>(l.drop i=ls)∧nd ls out=some R) (Of:=fun _ i out l1 c=>[eH cV 43 l1 c out]) (Gf:=fun _ i out l1 c=>[(3,qS l1 c out),(6,bZ (cV) l),(7,jr l),(8,bI (i:Int))]) (fun i out l1 c h=>?_) (fun e tl ih i out l1 c h=>?_) l 0 Bw none 0 ⟨J,h⟩) (bt J)
 ·obtain⟨hx,h⟩:=h
  refine aB<|aw<|zo J (fL J J)<|au<|ah<|bz (ht J) (du hx)<|bu ?_;refine ai (ai (aN ?_));refine av<|aw<|aF rfl<|bo rfl<|au<|am ?_;cases so h;exact fE J J
 ·obtain⟨hx,h⟩:=h
  refine aB<|aw<|zo J (fL J J)<|au<|ah<|bw (ht J) (dl hx)<|dU<|ah<|aA<|aw<|zo J (ml ja dL J J J (cX hx))<|zo J (bC dL J J)<|bo J<|au<|aq<|aF J<|aF J<|bB h fun r q_r h=>il Su (E4 _ q_r) ⟨(ht J),aS⟩ J fun l2 c1=>?_;refine ju<|gU 14 J<|zo J (aU (r:=cV) (ys:=[r]) (xs:=[.tmp 14]) ja dL J J J J J ⟨(kT (ht J)),aS⟩)<|bH<|bB h fun out1 q_out1 h=>cO dL J J J J ja J J (ht J) (ht J) q_out1 fun l3 c2=>bo J<|aQ<|ap<|av<|aq<|zo rfl (lZ (cL hx hN) rfl)<|aF rfl<|aQ<|bv<|be ?_;exact bg (aT (ih (i+1) out1 l3 c2 ⟨cK hx,h⟩) (bt J))
theorem RX(r:(List ac))(columns:(List Int)){R:(List ac)}(h:nJ r columns=some R):fJ aR 177 [bZ (af) r,mh columns] false af 46 R:=by
 refine fJ.of Tryz.func177 J J J fun w0 S0=>aw<|bL false af 46<|zo J (aK rr)<|au<|aw<|bL false af 46<|zo J (aK rr)<|au<|ah<|aw<|aF J<|zo J (iJ gF J)<|zo J (bG hI)<|au<|aA<|bc (k:=8) J fun hN=>bJ ?_;refine gz<|oR ?_;refine aT (jq (Z:=fun ls i out l c=>(columns.drop i=ls)∧mb r ls out=some R) (Of:=fun _ i out l c=>[eH af 46 l c out]) (Gf:=fun _ i out l c=>[(0,bZ (af) r),(5,qS l c out),(8,mh columns),(9,jr columns),(10,bI (i:Int))]) (fun i out l c h=>?_) (fun e tl ih i out l c h=>?_) columns 0 Hw none 0 ⟨J,h⟩) (bt J)
 ·obtain⟨hx,h⟩:=h
  refine aB<|aw<|zo J (fL J J)<|au<|ah<|bz (ht J) (du hx)<|bu ?_;refine ai (ai (aN ?_));refine av<|aw<|aF rfl<|bo rfl<|au<|am ?_;cases so h;exact fE J J
 ·obtain⟨hx,h⟩:=h
  refine aB<|aw<|zo J (fL J J)<|au<|ah<|bw (ht J) (dl hx)<|dU<|ah<|aA<|aw<|zo J (ml gF cu J J J (cX hx))<|zo J (bC cu J J)<|bo J<|au<|aq<|aF J<|aF J<|aF J<|bB h fun e1 q_e1 h=>?_;refine zo J (ml iX aG J J J q_e1)<|zo J (bC aG J J)<|zo J (aU (r:=af) (ys:=[e1]) (xs:=[.tmp 18]) iX aG J J J J J ⟨(ht J),aS⟩)<|bB h fun out1 q_out1 h=>cO aG J J J J iX J J (ht J) (ht J) q_out1 fun l1 c1=>bo J<|aQ<|ap<|av<|aq<|zo rfl (lZ (cL hx hN) rfl)<|aF rfl<|aQ ?_;exact bg (aT (ih (i+1) out1 l1 c1 ⟨cK hx,h⟩) (bt J))
theorem AZ(r:(List ac))(columns:(List Int)){R:(List ac)}(h:nJ r columns=some R):aV aR 177 [bZ (af) r,mh columns] (bZ (af) R):=(RX _ _ h).spec

theorem U8(columns:(List Int))(a1:(List ac))(b:(List ac)){R:Int}(h:mt columns a1 b=some R):aV aR 175 [bZ (af) a1,bZ (af) b,bM ny columns] (bI R):=by
 refine aV.of Tryz.func175 J J J fun w0 S0=>aw<|zo J (cF)<|au<|ah<|bB h fun r q_r h=>bB h fun r1 q_r1 h=>bB h fun r2 q_r2 h=>bB h fun r3 q_r3 h=>bB h fun r4 q_r4 h=>?_
 refine dc (ts:=[_,_,_,_,_,_,_,_,_,_,_,_,_]) mixed J J
  ⟨fb 0 J J J (dv J),
  ⟨fb 2 J J J (bC d7 J J),
  ⟨d6 6 0 7 1 J J J J (aE KW (AZ _ _ q_r) ⟨(ht J),(ht J),aS⟩),
  ⟨fb 1 J J J (dv J),
  ⟨fb 2 J J J (bC d7 J J),
  ⟨d6 9 3 10 4 J J J J (aE KW (AZ _ _ q_r1) ⟨(ht J),(ht J),aS⟩),
  ⟨d6 8 2 11 5 J J J J (aE VD (Iv _ _ q_r2) ⟨(ht J),(ht J),aS⟩),
  ⟨fb 0 J J J (dv J),
  ⟨fb 1 J J J (dv J),
  ⟨d6 13 7 14 8 J J J J (aE VD (Iv _ _ q_r3) ⟨(ht J),(ht J),aS⟩),
  ⟨d6 12 6 15 9 J J J J (aU (r:=bT) (ys:=[r2,r3]) (xs:=[.tmp 12,.tmp 15]) gF cu J J J J J ⟨(ht J),(ht J),aS⟩),
  ⟨ca 16 10 J J J (aE So (IE _ q_r4) ⟨(ht J),aS⟩),
  ⟨ca 17 11 J J J (uM J),
  aS⟩⟩⟩⟩⟩⟩⟩⟩⟩⟩⟩⟩⟩ ?_
 refine av<|am ?_;cases so h;exact aL J J

theorem Vg(s1:(List ac))(s2:(List ac)){R:Bool}(h:iN s1 s2=some R):aV aR 157 [bZ (af) s1,bZ (af) s2] (iz R):=by
 refine aV.of Tryz.func157 J J J fun w0 S0=>aw<|zo J (jS)<|au<|ah<|aw<|aF J<|zo J (iJ iX J)<|aF J<|zo J (iJ iX J)<|zo J (fM (ht J) (ht J))<|au<|dd h J (fun h=>?_) (fun h=>?_)
 ·refine aw<|zo J (jS)<|au<|am<|ae ?_;cases so h;exact aL J J
 ·refine dU<|ah<|aw<|aF J<|zo J (iJ iX J)<|zo J (bG hI)<|au<|aA<|bc (k:=11) J fun hN=>bJ ?_;refine aT (eI (Z:=fun ls i=>(s1.drop i=ls)∧dV s2 ls i=some R) (Of:=fun _ i=>[]) (Gf:=fun _ i=>[(0,bZ (af) s1),(1,bZ (af) s2),(12,jr s1),(13,bI (i:Int))]) (fun i h=>?_) (fun e tl ih i h=>?_) s1 0 ⟨J,h⟩) (bt J)
  ·obtain⟨hx,h⟩:=h
   refine aB<|aw<|zo J (fL J J)<|au<|ah<|bz (ht J) (du hx)<|bu ?_;refine ai (ai (aN ?_));refine av<|aw<|zo rfl (jS)<|au<|am ?_;cases so h;exact aL J J
  ·obtain⟨hx,h⟩:=h
   refine aB<|aw<|zo J (fL J J)<|au<|ah<|bw (ht J) (dl hx)<|dU<|ah<|aA<|aw<|aF J<|bo J<|au<|ah<|bB h fun e1 q_e1 h=>?_
   refine dc (ts:=[_,_,_,_,_,_,_,_,_]) mixed J J
    ⟨fb 0 J J J (dv J),
    ⟨fb 5 J J J (dv J),
    ⟨d6 16 0 17 1 J J J J (ml iX aG J J J (cX hx)),
    ⟨ca 18 2 J J J (bC aG J J),
    ⟨fb 1 J J J (dv J),
    ⟨fb 5 J J J (dv J),
    ⟨d6 20 4 21 5 J J J J (ml iX aG J J J q_e1),
    ⟨ca 22 6 J J J (bC aG J J),
    ⟨d6 19 3 23 7 J J J J (H9 PN (ht J) (ht J)),
    aS⟩⟩⟩⟩⟩⟩⟩⟩⟩ ?_
   refine av<|dd h rfl (fun h=>?_) (fun h=>?_)
   ·refine aw<|zo J (jS)<|au<|am ?_;refine aD (ae (ae (aD (ae ?_))));cases so h;exact aL J J
   ·refine bA<|ap<|av<|aq<|zo rfl (lZ (cL hx hN) rfl)<|aF rfl<|aQ ?_;exact bg (aT (ih (i+1) ⟨cK hx,h⟩) (bt J))

theorem MK(a1:(List ac))(b:(List ac)){R:Bool}(h:nc a1 b=some R):aV aR 93 [bZ (af) a1,bZ (af) b] (iz R):=by
 refine aV.of Tryz.func93 J J J fun w0 S0=>aw<|zo J (jS)<|au<|aw<|aF J<|aF J<|bB h fun r q_r h=>zo J (aE abr (Vg _ _ q_r) ⟨(ht J),(ht J),aS⟩)<|bo J<|au<|am ?_;cases so h;exact aL J J

theorem U7(columns:(List Int))(a1:(List ac))(b:(List ac)){R:Bool}(h:gc columns a1 b=some R):aV aR 178 [bZ (af) a1,bZ (af) b,bM ny columns] (iz R):=by
 refine aV.of Tryz.func178 J J J fun w0 S0=>aw<|zo J (jS)<|au<|ah<|bB h fun r q_r h=>bB h fun r1 q_r1 h=>bB h fun r2 q_r2 h=>?_
 refine dc (ts:=[_,_,_,_,_,_,_,_]) mixed J J
  ⟨fb 0 J J J (dv J),
  ⟨fb 2 J J J (bC d7 J J),
  ⟨d6 6 0 7 1 J J J J (aE KW (AZ _ _ q_r) ⟨(ht J),(ht J),aS⟩),
  ⟨fb 1 J J J (dv J),
  ⟨fb 2 J J J (bC d7 J J),
  ⟨d6 9 3 10 4 J J J J (aE KW (AZ _ _ q_r1) ⟨(ht J),(ht J),aS⟩),
  ⟨d6 8 2 11 5 J J J J (aE Yz (MK _ _ q_r2) ⟨(ht J),(ht J),aS⟩),
  ⟨ca 12 6 J J J (uM J),
  aS⟩⟩⟩⟩⟩⟩⟩⟩ ?_
 refine av<|am ?_;cases so h;exact aL J J

theorem UO(l:(List (List ac)))(alike:((List ac)→(List ac)→Option Bool))(b:Nat):zZ aR 260 (fun(x:(List (List ac)))=>[bZ (cV) x]) (fun _=>vF l alike) [bx c9 32 b l] [tV (aP b 0),bM (rT ((dX aR DL nq (fun(x:(List ac)×(List ac))=>alike x.1 x.2)))) ()]:=by
 refine zZ.of Tryz.func260 J J J fun Sg yld s R h I yv hy e he w0 S0 B hB=>?_
 replace h:vF l alike yld s=some R:=h
 refine aA<|bJ<|gz ?_;refine aT (O3 (Z:=fun n e1 s1 x=>I s1 e1∧jU alike yld n s1 x=some R) (Of:=fun e1 s1 x=>[bx c9 32 b x,e1]) (Gf:=fun e1 s1 x=>[(0,tV yv),(1,tV (aP b 0)),(2,bM (rT ((dX aR DL nq (fun(x:(List ac)×(List ac))=>alike x.1 x.2)))) ())]) (fun e1 s1 x h=>nn h.2) (fun n ih e1 s1 x h=>?_) im e s l ⟨he,h⟩) (bt J);refine aB ?_
 obtain⟨he1,h⟩:=h
 refine ah<|aw<|zo J (ce fN J J bR (.head _) (ht J))<|zo J (iJ ja J)<|zo J (gm (ht J) hI)<|au<|dd h J (fun h=>?_) (fun h=>?_)
 ·refine dU<|aA<|aw<|zo J (cF)<|au<|ah<|aA<|bJ ?_;refine aT (O4 (Z:=fun n2 n1=>na alike yld (jU alike yld n) s1 x n2 n1=some R) (Of:=fun n1=>[bx c9 32 b x,e1]) (Gf:=fun n1=>[(0,tV yv),(1,tV (aP b 0)),(2,bM (rT ((dX aR DL nq (fun(x:(List ac)×(List ac))=>alike x.1 x.2)))) ()),(4,bI n1)]) (fun n1 h=>nn h) (fun n2 ih1 n1 h=>?_) im (1:Int) h) (bt J);refine aB<|ah<|ah<|bB h fun t q_t h=>?_
  obtain⟨e2,h1t,h0t⟩:=og q_t
  have q_e2g:=fun hb=>(h1t hb).1
  obtain⟨e3,h1t⟩:=XA (fun hb=>(h1t hb).2)
  have q_e3g:=fun hb=>(h1t hb).1
  obtain⟨r,h1t⟩:=XA (fun hb=>(h1t hb).2)
  have q_rg:=fun hb=>(h1t hb).1
  refine dc (ts:=[_,_,_,_,_,_,_,_,_,_,_,_,_,_,_]) mixed J J
   ⟨fb 4 J J J (dv J),
   ⟨fb 1 J J J (ce fN J J bR (.head _) (ht J)),
   ⟨ca 9 1 J J J (iJ ja J),
   ⟨d6 8 0 10 2 J J J J (fL J J),
   ⟨ca 11 3 J J J (dv J),
   ⟨sG 2 12 4 J J J J (fa J J J J (fun hg=>u0 Zc (ht J))),
   ⟨sG 1 12 4 J J J J (fa J J J J (fun hg=>ce fN J J bR (.head _) (ht J))),
   ⟨lB 14 6 12 4 J J J J (fa J J J J (fun hg=>bp ja dL J (bP J hg) hI (q_e2g hg))),
   ⟨lB 15 7 12 4 J J J J (fa J J J J (fun hg=>bO dL J J (bP J hg))),
   ⟨sG 1 12 4 J J J J (fa J J J J (fun hg=>ce fN J J bR (.head _) (ht J))),
   ⟨sG 4 12 4 J J J J (fa J J J J (fun hg=>dv J)),
   ⟨wj 17 9 18 10 12 4 J J J J J (fa J J J J (fun hg=>bp ja dL J (bP J hg) (bP J hg) (q_e3g hg))),
   ⟨lB 19 11 12 4 J J J J (fa J J J J (fun hg=>bO dL J J (bP J hg))),
   ⟨⟨[⟨13,_,some 5⟩,⟨16,_,some 8⟩,⟨20,_,some 12⟩,⟨12,_,some 4⟩],_,J,⟨J,J,J,J,aS⟩,J,J,fa J J J J (fun hg=>gS (args:=S7) (res:=Hx) (f:=(fun(x:(List ac)×(List ac))=>alike x.1 x.2)) (x:=((e2,e3):(List ac)×(List ac))) (bP J hg) (q_rg hg) ⟨(bP J hg),(bP J hg),aS⟩)⟩,
   ⟨d6 12 4 21 13 J J J J (ff (ht J) (fun hb=>(bP J hb)) (fun hb=>(h1t hb).2) h0t),
   aS⟩⟩⟩⟩⟩⟩⟩⟩⟩⟩⟩⟩⟩⟩⟩ ?_
  refine av<|dd h rfl (fun h=>?_) (fun h=>?_)
  ·refine dU<|aA<|aq<|aF J<|zo J (nO (ht J) hI)<|bo J<|aQ<|ap ?_;exact bg (aT (ih1 (IntKind.i64.wrap (n1+(1:Int))) h) (bt J))
  ·refine bu ?_;refine ai (ai (aN ?_));refine av<|ah<|aw<|aF rfl<|zo rfl (ce fN rfl rfl bR (.head _) (ht rfl))<|aF rfl<|bB h fun y q_y h=>zo J (EC ja dL J (ht J) (ht J) q_y)<|bH<|bB h fun r1 q_r1 h=>Fn hy he1 q_r1 (ht J) ⟨(ht J),aS⟩ J fun e4 he2=>zo J (gg (ht J))<|au<|dd h J (fun h=>?_) (fun h=>?_)
   ·refine am ?_;refine ae (aD (ae (aD ?_)));refine bv<|bv ?_;cases so h;exact IW J he2 hB ⟨fun _ h=>h,aS⟩
   ·refine dU<|aq<|zo J (ce fN J J bR (.tail _ (.head _)) (ht J))<|aF J<|bB h fun y1 q_y1 h=>zo J (EB ja dL J (ht J) (ht J) q_y1)<|bH<|ax fN J an J (ht J) (ht J)<|aQ<|ap ?_;exact bg (aT (ih e4 r1.2 y1 ⟨he2,h⟩) (bt J))
 ·refine bu ?_;refine ai (ai (aN ?_));refine bv ?_;cases so h;exact Lw J he1 hB ⟨fun _ h=>h,aS⟩

theorem RW(l:(List (List ac)))(alike:((List ac)→(List ac)→Option Bool)){R:It (List (List ac))}(h:Ei l alike=some R):zR aR 179 [bZ (cV) l,(dX aR DL nq (fun(x:(List ac)×(List ac))=>alike x.1 x.2))] (fun(x:(List (List ac)))=>[bZ (cV) x]) R:=by
 refine zR.of Tryz.func179 J J J fun w0 S0=>aw<|yx (ht J) J fun b=>zo J (Di (ht J))<|zo J (aK hV)<|au<|aw<|CV (O1:=[bx c9 32 b l]) (cts:=[tV (aP b 0),bM (rT ((dX aR DL nq (fun(x:(List ac)×(List ac))=>alike x.1 x.2)))) ()]) (caps:=[.tmp 2,.tmp 3]) J aaJ (UO l alike b) ⟨(ht J),(ht J),aS⟩ J fun v fp=>bo J<|au<|am ?_;cases so h;exact Lu J J

theorem RV(s:(List (List ac))){R:(List (List ac))}(h:eV s=some R):fJ aR 180 [bZ (cV) s] false cV 43 R:=by
 refine fJ.of Tryz.func180 J J J fun w0 S0=>aw<|bL false cV 43<|zo J (aK rr)<|au<|ah<|aw<|aF J<|tp ja (ht J) J fun isnil hisnil=>au<|oS (ht J) (fun hc=>?_) (fun hc=>?_)
 ·have hx:=hisnil hc
  have h:some Bw=some R:=by simpa [eV,app,hx] using h
  refine aw<|bL false cV 43<|zo J (aK rr)<|au<|am<|ae ?_;cases so h;exact fE J J
 ·refine dU<|aw<|jX (r:=cV) (ys:=Bw) (xs:=[]) ja dL J J J J J trivial J fun l c=>aF J<|bB h fun x q_x h=>cO dL J J J J ja J J (ht J) (ht J) q_x fun l1 c1=>bo J<|au<|am ?_;cases so h;exact fE J J
theorem U6(s:(List (List ac))){R:(List (List ac))}(h:eV s=some R):aV aR 180 [bZ (cV) s] (bZ (cV) R):=(RV _ h).spec

theorem Vt(l:(List (List ac)))(columns:(List Int)){R:(List g9)×Int}(h:sP l columns=some R):aV aR 105 [bZ (cV) l,mh columns] (tT [bZ (fO) R.1,bI R.2]):=by
 refine Lc Tryz.func105 J J J fun w0 S0=>aw<|zo J (js J)<|zo J (aK (show aH _ _ _ (bZ (fO) ([]))from jO))<|zo J (cF)<|au<|ah<|aw<|aF J<|zo J (bC d7 J J)<|bB h fun r q_r h=>zo J (aE abi (U9 _ _ q_r) ⟨(ht J),(ht J),aS⟩)<|bo J<|au<|aw<|aF J<|zo J (uL J)<|au ?_;refine dd h J (fun h=>?_) (fun h=>?_)
 ·refine aw<|aF J<|zo J (aK (show aH _ _ _ (bZ (fO) ([]))from jO))<|bo J<|au<|am<|ae<|rl ?_;cases so h;exact cN J J J
 ·refine dU<|aw<|aF J<|bB h fun r1 q_r1 h=>il WC (KM _ q_r1) ⟨(ht J),aS⟩ J fun l1 c=>bo J<|au<|aw<|aF J<|zo J ((show bQ _ _ _ _ ((dX aR DL yF (fun(x:(List ac)×(List ac))=>(mt columns) x.1 x.2)))from iB (cts:=[bM ny columns]) (caps:=[.tmp 3]) abh ⟨(ht J),aS⟩ (fun x y h=>U8 _ _ _ h)))<|bB h fun rC q_srt h=>?_;refine Fo (n:=r1.length) wa ?_ Sp ?_ q_srt ?_ ?_ ?_ ?_ ?_
  ·rfl
  ·rfl
  ·exact(ht J)
  ·rfl
  ·exact(ht J)
  ·rfl
  intro hl
  refine m7 hl 18 J<|m7 hl 7 J<|m7 hl 19 J<|au<|aw<|zo J ((show bQ _ _ _ _ ((dX aR DL nq (fun(x:(List ac)×(List ac))=>(gc columns) x.1 x.2)))from iB (cts:=[bM ny columns]) (caps:=[.tmp 3]) abg ⟨(ht J),aS⟩ (fun x y h=>U7 _ _ _ h)))<|bo J<|au<|aw<|bL false fO 154<|aY (x:=aO none 0 0) Nw (fun _=>Eu) J fun b=>au<|ah<|aw<|aF J<|aF J<|fK<|ju ?_;refine gU 18 J<|gU 7 J<|gU 19 J<|gU 23 J<|bB h fun it q_it h=>Hg abf (RW _ _ q_it) ⟨(kT (ht J)),(ht J),aS⟩ J fun v fp=>au<|aA<|bB h fun s q_s h=>?_;refine Ql (fun(i:Option Nat×Nat×List g9)=>[dS cV 43 l1 c rC,bx rV 150 b (aO i.1 i.2.1 i.2.2.length),eH fO 154 i.1 i.2.1 i.2.2]) (fun(i:Option Nat×Nat×List g9)=>(i.2.2)) J (ht J) (none,0,([]:List g9)) J q_s (fun _=>J) J (fun i x s2 h lp rec1 _ _ _=>?_) (fun i hi bd=>?_)
  ·obtain⟨l2,c1,xs⟩:=i
   replace h:jV columns x xs=some s2:=h
   refine(show CG _ _ _ [vL lp rec1 .ready,dS cV 43 l1 c rC,bx rV 150 b (aO l2 c1 xs.length),eH fO 154 l2 c1 xs] _ from ?_);refine FF (G' :=[(0,bZ (cV) l),(1,mh columns),(3,bM ny columns),(4,bZ (fO) ([])),(5,bI 0),(6,bI r),(7,tO cV l1 c rC),(8,(dX aR DL nq (fun(x:(List ac)×(List ac))=>(gc columns) x.1 x.2))),(9,tV (aP b 0)),(11,bZ (cV) l),(12,mh columns),(13,bI r),(14,bI r),(15,iz (r !=(0:Int))),(17,bZ (cV) l),(18,tO cV l1 c rC),(19,tO cV l1 c rC),(20,(dX aR DL yF (fun(x:(List ac)×(List ac))=>(mt columns) x.1 x.2))),(22,(dX aR DL nq (fun(x:(List ac)×(List ac))=>(gc columns) x.1 x.2))),(23,tO cV l1 c rC),(24,(dX aR DL nq (fun(x:(List ac)×(List ac))=>(gc columns) x.1 x.2))),(26,bZ (cV) x)]) ?_ ⟨J,J,J,J,J,J,J,J,J,J,J,J,J,J,J,J,J,J,J,J,J,J,aS⟩;refine aq<|bo J<|aQ<|ST<|aA<|bB h fun e q_e h=>bB h fun r2 q_r2 h=>bB h fun r3 q_r3 h=>?_
   refine tF 10 (ts:=[qS l2 c1 xs,bZ (cV) x,bM cV e,bZ (af) e,mh columns,bZ (af) r2,bZ (cV) x,bZ (cV) r3,tD fO (⟨r2,r3⟩:g9),bZ (fO) ([(⟨r2,r3⟩:g9)])]) mixed J J J
    ⟨fb 9 J J J (gR Nw (.tail _ (.tail _ (.head _))) (ht J)),
    ⟨fb 10 J J J (dv J),
    ⟨ca 28 1 J J J (bp ja dL J (ht J) hI q_e),
    ⟨ca 29 2 J J J (bC dL J J),
    ⟨fb 3 J J J (bC d7 J J),
    ⟨d6 30 3 31 4 J J J J (aE KW (AZ _ _ q_r2) ⟨(ht J),(ht J),aS⟩),
    ⟨fb 10 J J J (dv J),
    ⟨ca 33 6 J J J (aE abe (U6 _ q_r3) ⟨(ht J),aS⟩),
    ⟨d6 32 5 34 7 J J J J (cn (y:=(⟨r2,r3⟩:g9)) Ar Wg DI (⟨_,_,_,_,_,J,LV,J,(ht J),⟨_,_,_,_,_,J,LU,J,(ht J),J⟩⟩)),
    ⟨ca 35 8 J J J (aU (r:=fO) (ys:=[(⟨r2,r3⟩:g9)]) (xs:=[.tmp 35]) Gk Ar J J J J J ⟨(ht J),aS⟩),
    aS⟩⟩⟩⟩⟩⟩⟩⟩⟩⟩ ?_
   refine ov<|bB h fun l3 q_l3 h=>cO Ar J J J J Gk J J (ht J) (ht J) q_l3 fun l4 c2=>ov<|ax Nw J an J (ht J) (PE (ht J))<|aQ<|ap<|bv<|bv<|cP<|cP ?_;exact Lx (l4,c2,l3) (so h) J
  ·skip
   obtain⟨l5,c3,xs1⟩:=i
   have hi:xs1=s:=hi
   subst hi
   refine(show AT _ _ _ [Ba bd,dS cV 43 l1 c rC,bx rV 150 b (aO l5 c3 xs1.length),eH fO 154 l5 c3 xs1] _ from ?_);refine cC (G' :=[(0,bZ (cV) l),(1,mh columns),(3,bM ny columns),(4,bZ (fO) ([])),(5,bI 0),(6,bI r),(7,tO cV l1 c rC),(8,(dX aR DL nq (fun(x:(List ac)×(List ac))=>(gc columns) x.1 x.2))),(9,tV (aP b 0)),(11,bZ (cV) l),(12,mh columns),(13,bI r),(14,bI r),(15,iz (r !=(0:Int))),(17,bZ (cV) l),(18,tO cV l1 c rC),(19,tO cV l1 c rC),(20,(dX aR DL yF (fun(x:(List ac)×(List ac))=>(mt columns) x.1 x.2))),(22,(dX aR DL nq (fun(x:(List ac)×(List ac))=>(gc columns) x.1 x.2))),(23,tO cV l1 c rC),(24,(dX aR DL nq (fun(x:(List ac)×(List ac))=>(gc columns) x.1 x.2)))]) ?_ ⟨J,J,J,J,J,J,J,J,J,J,J,J,J,J,J,J,J,J,J,J,J,aS⟩;refine ap<|av<|aw<|zo rfl (gR Nw (.tail _ (.tail _ (.head _))) (ht rfl))<|bo rfl<|zo rfl (cF)<|au<|am<|cP<|jv<|cE 4 rfl<|cE 38 rfl<|jw 4 rfl<|be<|bv<|be<|bv<|be<|Bp<|rl ?_;cases so h;exact cN J J J

theorem ZN(b:Nat)(ix:OI)(r:cW)(n:ak){R:(List (List ac))×Int}(h:iT r n=some R):c0 aR 54 [tV (aP b 0),tD aI n] (jh b r ix) (fun _:OI=>tT [bZ (cV) R.1,bI R.2]) (fun _=>(jh b r ix)):=by
 refine c0.of Tryz.func54 J J J fun w0 S0=>?_;refine(show CG _ _ _ [bx (rH ea [(1,aO (ix.h 0).1 (ix.h 0).2 r.rows.length),(2,aO (ix.h 1).1 (ix.h 1).2 r.width.length)]) 96 b r,dS c9 32 (ix.h 0).1 (ix.h 0).2 r.rows,dS bT 3 (ix.h 1).1 (ix.h 1).2 r.width] _ from ?_);refine aw<|zo J (js J)<|zo J (aK (show aH _ _ _ vz from jO))<|zo J (cF)<|au<|ah<|bB h fun e q_e h=>bB h fun r1 q_r1 h=>?_
 refine dc (ts:=[_,_,_,_,_,_,_,_,_,_,_,_,_,_,_,_]) mixed J J
  ⟨fb 0 J J J (dv J),
  ⟨ca 17 0 J J J (dD (ht J)),
  ⟨ca 18 1 J J J (kp 1 qw J J J),
  ⟨ca 19 2 J J J (dh ro J (.head _) (.tail _ (.head _)) (ht J)),
  ⟨fb 3 J J J (de jP dR J J),
  ⟨ca 21 4 J J J (bC cu J J),
  ⟨d6 20 3 22 5 J J J J (bp mj fN J (kT (ht J)) (ht J) q_e),
  ⟨ca 23 6 J J J (bC fN J J),
  ⟨fb 3 J J J (de td mD J J),
  ⟨ca 25 8 J J J (bC d7 J J),
  ⟨d6 24 7 26 9 J J J J (aE abF (Vt _ _ q_r1) ⟨(ht J),(ht J),aS⟩),
  ⟨ca 27 10 J J J (dv J),
  ⟨ca 16 11 J J J (gV J J),
  ⟨ca 16 11 J J J (gV J J),
  ⟨ca 28 12 J J J (uM J),
  ⟨ca 29 13 J J J (uM J),
  aS⟩⟩⟩⟩⟩⟩⟩⟩⟩⟩⟩⟩⟩⟩⟩⟩ ?_
 refine av<|ah<|aw<|aF rfl<|zo rfl (uL rfl)<|au<|dd h rfl (fun h=>?_) (fun h=>?_)
 ·refine aw<|aF J<|zo J (aK (show aH _ _ _ vz from jO))<|bo J<|au<|am<|ae<|aJ<|aJ<|aJ ?_;cases so h;exact d5 (ts:=[bZ (cV) ([]),bI r1.2]) (rvs:=[.tmp 4,.tmp 5]) J J ⟨aZ J,aZ J,aS⟩ oU J J
 ·refine dU ?_;refine j7 (Z:=fun groups=>lz n groups=some R) (Of:=fun groups=>[bx (rH ea [(1,aO (ix.h 0).1 (ix.h 0).2 r.rows.length),(2,aO (ix.h 1).1 (ix.h 1).2 r.width.length)]) 96 b r,dS c9 32 (ix.h 0).1 (ix.h 0).2 r.rows,dS bT 3 (ix.h 1).1 (ix.h 1).2 r.width]) (Gf:=fun groups=>[(3,bM aI n),(6,bZ (fO) groups)]) (fun groups h=>?_) (fun K=>?_)
  ·skip
   refine aw<|bL false cV 43<|zo J (aK rr)<|au<|ah<|aw<|aF J<|zo J (iJ Gk J)<|zo J (bG hI)<|au<|aA<|bc (k:=44) J fun hN=>bJ ?_;refine aT (jq (Z:=fun ls i out l c=>(groups.drop i=ls)∧fg n ls out=some R) (Of:=fun _ i out l c=>[eH cV 43 l c out,bx (rH ea [(1,aO (ix.h 0).1 (ix.h 0).2 r.rows.length),(2,aO (ix.h 1).1 (ix.h 1).2 r.width.length)]) 96 b r,dS c9 32 (ix.h 0).1 (ix.h 0).2 r.rows,dS bT 3 (ix.h 1).1 (ix.h 1).2 r.width]) (Gf:=fun _ i out l c=>[(3,bM aI n),(8,qS l c out),(44,bZ (fO) groups),(45,jr groups),(46,bI (i:Int))]) (fun i out l c h=>?_) (fun e1 tl ih i out l c h=>?_) groups 0 Bw none 0 ⟨J,h⟩) (bt J)
   ·obtain⟨hx,h⟩:=h
    refine aB<|aw<|zo J (fL J J)<|au<|ah<|bz (ht J) (du hx)<|bu ?_;refine ai (ai (aN ?_));refine av<|aw<|aF rfl<|bo rfl<|zo rfl (cF)<|au<|am<|jv<|cE 8 rfl<|cE 80 rfl<|cE 4 rfl<|jw 4 rfl<|be<|aJ<|aJ<|aJ ?_;cases so h;exact d5 (ts:=[bZ (cV) out,bI 0]) (rvs:=[.tmp 4,.tmp 5]) J J ⟨aZ J,aZ J,aS⟩ oU J J
   ·obtain⟨hx,h⟩:=h
    refine aB<|aw<|zo J (fL J J)<|au<|ah<|bw (ht J) (dl hx)<|dU<|ah<|aA<|aw<|zo J (ml Gk Ar J J J (cX hx))<|zo J (bC Ar J J)<|aY (r:=fO) (x:=SY) Ar (fun _=>DI _) J fun b1=>ax Ar J an J (ht J) (ht J)<|aW 10 J<|au<|aw<|zo J (de T8 MA J J) ?_;refine zo J (bC dL J J)<|bB h fun r2 q_r2 h=>il Su (E4 _ q_r2) ⟨(ht J),aS⟩ J fun l1 c1=>bo J<|au<|ah<|aw<|zo J (de qy nR J J)<|zo J (bC BA J J)<|zo J (iJ wx J)<|zo J (bG hI)<|au<|aA<|bc (k:=54) J fun hN1=>bJ<|kO<|kO<|kO<|pt<|kO ?_;refine aT (jq (Z:=fun ls1 i1 x l2 c2=>(n.Aggs.drop i1=ls1)∧iu (fg n tl) e1 out ls1 x=some R) (Of:=fun _ i1 x l2 c2=>[eH cV 43 l c out,eH af 46 l2 c2 x,bx (rH ea [(1,aO (ix.h 0).1 (ix.h 0).2 r.rows.length),(2,aO (ix.h 1).1 (ix.h 1).2 r.width.length)]) 96 b r,dS c9 32 (ix.h 0).1 (ix.h 0).2 r.rows,dS bT 3 (ix.h 1).1 (ix.h 1).2 r.width]) (Gf:=fun _ i1 x l2 c2=>[(3,bM aI n),(8,qS l c out),(10,bM fO e1),(11,qS l2 c2 x),(44,bZ (fO) groups),(45,jr groups),(46,bI (i:Int)),(54,bZ (fi) n.Aggs),(55,jr n.Aggs),(56,bI (i1:Int))]) (fun i1 x l2 c2 h=>?_) (fun e2 tl1 ih1 i1 x l2 c2 h=>?_) n.Aggs 0 r2 l1 c1 ⟨J,h⟩) (bt J)
    ·obtain⟨hx1,h⟩:=h
     refine aB<|aw<|zo J (fL J J)<|au<|ah<|bz (ht J) (du hx1)<|bu ?_;refine ai (ai (aN ?_));refine av<|aq<|aF rfl<|aF rfl<|bH<|ju<|gU 11 rfl<|gU 76 rfl<|zo rfl (aU (r:=cV) (ys:=[x]) (xs:=[.tmp 76]) ja dL J J J J J ⟨(kT (ht J)),aS⟩)<|bH<|bB h fun out1 q_out1 h=>cO dL J J J J ja J J (ht J) (ht J) q_out1 fun l3 c3=>bo J<|aQ<|ap<|av<|aq<|zo rfl (lZ (cL hx hN) rfl)<|aF rfl<|aQ<|bv<|be ?_;exact bg (aT (ih (i+1) out1 l3 c3 ⟨cK hx,h⟩) (bt J))
    ·obtain⟨hx1,h⟩:=h
     refine aB<|aw<|zo J (fL J J)<|au<|ah<|bw (ht J) (dl hx1)<|dU<|ah<|aA<|aw<|zo J (ml wx tJ J J J (cX hx1))<|zo J (bC tJ J J)<|aY (r:=fi) (x:=WS) tJ (fun _=>DK _) J fun b2=>ax tJ J an J (ht J) (ht J)<|aW 13 J<|au<|aw<|zo J (bC tJ J J) ?_;refine zo J (de T7 Mz J J)<|zo J (bC fN J J)<|bB h fun r3 q_r3 h=>zo J (aE acd (XY _ _ q_r3) ⟨(ht J),(ht J),aS⟩)<|aF J<|zo J (gV J J)<|zo J (gV J J)<|aY (r:=af) (x:=hJ) aG (fun _=>bh _) J fun b3=>ax aG J an J (ht J) (ht J)<|aW 14 J<|bo J<|au<|ah<|aw<|aF J<|zo J (uL J)<|au<|dd h J (fun h=>?_) (fun h=>?_)
     ·refine aw<|aF J<|zo J (aK (show aH _ _ _ vz from jO))<|bo J<|au<|am ?_;refine ae (aD (ae (ae (aD (ae (aD (ae (ae (aD (ae ?_))))))))));refine be<|be<|aJ<|aJ<|aJ ?_;cases so h;exact d5 (ts:=[bZ (cV) ([]),bI r3.2]) (rvs:=[.tmp 4,.tmp 5]) J J ⟨aZ J,aZ J,aS⟩ oU J J
     ·refine dU<|aq<|aF J<|zo J (bC aG J J)<|zo J (aU (r:=af) (ys:=[r3.1]) (xs:=[.tmp 71]) iX aG J J J J J ⟨(ht J),aS⟩)<|bH<|bB h fun x1 q_x1 h=>cO aG J J J J iX J J (ht J) (ht J) q_x1 fun l4 c4=>bo J<|aQ<|ap<|av<|aq<|zo rfl (lZ (cL hx1 hN1) rfl)<|aF rfl<|aQ<|fe<|fe<|fe<|cP<|fe ?_;exact bg (aT (ih1 (i1+1) x1 l4 c4 ⟨cK hx1,h⟩) (bt J))
  ·skip
   refine aw<|zo J (de td mD J J)<|zo J (bC d7 J J)<|zo J (iJ gF J)<|zo J (nr J)<|aF J<|dK J J (fun hg=>dv J)<|dK J J (fun hg=>dQ Gk (bP J hg))<|dK J J (fun hg=>dw (bP J hg) hI)<|zo J (uK J J)<|au<|dd h J (fun h=>?_) (fun h=>?_)
   ·refine aq<|zo J (cn (y:=SY) Ar Wg DI (J))<|zo J (aU (r:=fO) (ys:=[SY]) (xs:=[.tmp 42]) Gk Ar J J J J J ⟨(ht J),aS⟩)<|bo J<|aQ ?_;exact cC (K ([SY]) h) (bt J)
   ·refine bA ?_;exact cC (K r1.1 h) (bt J)

end Go.Proofs.YtfhhakidodmdfaaGreatDoor

