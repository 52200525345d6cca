/- cP of this claim: P10. -/
import Derived.Test.YtfhhakidodmdfaaGreatDoorJgT
import Derived.Test.YtfhhakidodmdfaaGreatDoorJgP9
set_option linter.all false
namespace Go.Proofs.YtfhhakidodmdfaaGreatDoor
open Go
set_option maxRecDepth 100000

theorem Lc(l:(List (List ac))){R:(List (List ac))}(h:tf l=some R):fZ aQ 174 [ca (cY) l] false cY 43 R:=by
 refine fZ.of Tryz.func174 J J J fun w0 S0=>aw<|bQ false cY 43<|zo J (aM tJ)<|av<|aw<|bQ false cY 43<|zo J (aM tJ)<|av<|ah<|aw<|aG J<|zo J (jg jF J)<|zo J (bI hI)<|av<|aA<|be (k:=6) J fun hN=>bL ?_;refine hU<|rm ?_;refine aU (jW (Z:=fun ls i out l1 c=>(l.drop i=ls)∧nq ls out=some R) (Of:=fun _ i out l1 c=>[fj cY 43 l1 c out]) (Gf:=fun _ i out l1 c=>[(3,sb l1 c out),(6,ca (cY) l),(7,jz l),(8,bM (i:Int))]) (fun i out l1 c h=>?_) (fun e tl ih i out l1 c h=>?_) l 0 HR none 0 ⟨J,h⟩) (bu J)
 ·obtain⟨hx,h⟩:=h
  refine aB<|aw<|zo J (fM J J)<|av<|ah<|bz (ht J) (du hx)<|bv ?_;refine ai (ai (aO ?_));refine ax<|aw<|aG rfl<|bp rfl<|av<|am ?_;cases so h;exact gn J J
 ·obtain⟨hx,h⟩:=h
  refine aB<|aw<|zo J (fM J J)<|av<|ah<|bw (ht J) (di hx)<|dS<|ah<|aA<|aw<|zo J (my jF dW J J J (da hx))<|zo J (bB dW J J)<|bp J<|av<|au<|aG J<|aG J<|bC h fun r q_r h=>iy SR (Ft _ q_r) ⟨(ht J),aT⟩ J fun l2 c1=>?_;refine jC<|iW 14 J<|zo J (aS (r:=cY) (ys:=[r]) (xs:=[.tmp 14]) jF dW J J J J J ⟨(kz (ht J)),aT⟩)<|bF<|bC h fun out1 q_out1 h=>cT dW J J J J jF J J (ht J) (ht J) q_out1 fun l3 c2=>bp J<|aP<|aq<|ax<|au<|zo rfl (mz (cM hx hN) rfl)<|aG rfl<|aP<|bD<|ba ?_;exact bm (aU (ih (i+1) out1 l3 c2 ⟨cL hx,h⟩) (bu J))
theorem Sj(r:(List ac))(columns:(List Int)){R:(List ac)}(h:nX r columns=some R):fZ aQ 177 [ca (af) r,mv columns] false af 46 R:=by
 refine fZ.of Tryz.func177 J J J fun w0 S0=>aw<|bQ false af 46<|zo J (aM tJ)<|av<|aw<|bQ false af 46<|zo J (aM tJ)<|av<|ah<|aw<|aG J<|zo J (jg gT J)<|zo J (bI hI)<|av<|aA<|be (k:=8) J fun hN=>bL ?_;refine hU<|rm ?_;refine aU (jW (Z:=fun ls i out l c=>(columns.drop i=ls)∧mn r ls out=some R) (Of:=fun _ i out l c=>[fj af 46 l c out]) (Gf:=fun _ i out l c=>[(0,ca (af) r),(5,sb l c out),(8,mv columns),(9,jz columns),(10,bM (i:Int))]) (fun i out l c h=>?_) (fun e tl ih i out l c h=>?_) columns 0 HQ none 0 ⟨J,h⟩) (bu J)
 ·obtain⟨hx,h⟩:=h
  refine aB<|aw<|zo J (fM J J)<|av<|ah<|bz (ht J) (du hx)<|bv ?_;refine ai (ai (aO ?_));refine ax<|aw<|aG rfl<|bp rfl<|av<|am ?_;cases so h;exact gn J J
 ·obtain⟨hx,h⟩:=h
  refine aB<|aw<|zo J (fM J J)<|av<|ah<|bw (ht J) (di hx)<|dS<|ah<|aA<|aw<|zo J (my gT cx J J J (da hx))<|zo J (bB cx J J)<|bp J<|av<|au<|aG J<|aG J<|aG J<|bC h fun e1 q_e1 h=>?_;refine zo J (my jh aH J J J q_e1)<|zo J (bB aH J J)<|zo J (aS (r:=af) (ys:=[e1]) (xs:=[.tmp 18]) jh aH J J J J J ⟨(ht J),aT⟩)<|bC h fun out1 q_out1 h=>cT aH J J J J jh J J (ht J) (ht J) q_out1 fun l1 c1=>bp J<|aP<|aq<|ax<|au<|zo rfl (mz (cM hx hN) rfl)<|aG rfl<|aP ?_;exact bm (aU (ih (i+1) out1 l1 c1 ⟨cL hx,h⟩) (bu J))
theorem Bs(r:(List ac))(columns:(List Int)){R:(List ac)}(h:nX r columns=some R):aX aQ 177 [ca (af) r,mv columns] (ca (af) R):=(Sj _ _ h).spec

theorem Vx(columns:(List Int))(a1:(List ac))(b:(List ac)){R:Int}(h:mF columns a1 b=some R):aX aQ 175 [ca (af) a1,ca (af) b,bK nP columns] (bM R):=by
 refine aX.of Tryz.func175 J J J fun w0 S0=>aw<|zo J (cD)<|av<|ah<|bC h fun r q_r h=>bC h fun r1 q_r1 h=>bC h fun r2 q_r2 h=>bC h fun r3 q_r3 h=>bC h fun r4 q_r4 h=>?_
 refine c9 (ts:=[_,_,_,_,_,_,_,_,_,_,_,_,_]) mixed J J
  ⟨eM 0 J J J (dl J),
  ⟨eM 2 J J J (bB d9 J J),
  ⟨d8 6 0 7 1 J J J J (aC Lm (Bs _ _ q_r) ⟨(ht J),(ht J),aT⟩),
  ⟨eM 1 J J J (dl J),
  ⟨eM 2 J J J (bB d9 J J),
  ⟨d8 9 3 10 4 J J J J (aC Lm (Bs _ _ q_r1) ⟨(ht J),(ht J),aT⟩),
  ⟨d8 8 2 11 5 J J J J (aC V4 (IS _ _ q_r2) ⟨(ht J),(ht J),aT⟩),
  ⟨eM 0 J J J (dl J),
  ⟨eM 1 J J J (dl J),
  ⟨d8 13 7 14 8 J J J J (aC V4 (IS _ _ q_r3) ⟨(ht J),(ht J),aT⟩),
  ⟨d8 12 6 15 9 J J J J (aS (r:=cd) (ys:=[r2,r3]) (xs:=[.tmp 12,.tmp 15]) gT cx J J J J J ⟨(ht J),(ht J),aT⟩),
  ⟨bY 16 10 J J J (aC SM (I2 _ q_r4) ⟨(ht J),aT⟩),
  ⟨bY 17 11 J J J (u8 J),
  aT⟩⟩⟩⟩⟩⟩⟩⟩⟩⟩⟩⟩⟩ ?_
 refine ax<|am ?_;cases so h;exact aJ J J

theorem VF(s1:(List ac))(s2:(List ac)){R:Bool}(h:i7 s1 s2=some R):aX aQ 157 [ca (af) s1,ca (af) s2] (iR R):=by
 refine aX.of Tryz.func157 J J J fun w0 S0=>aw<|zo J (jL)<|av<|ah<|aw<|aG J<|zo J (jg jh J)<|aG J<|zo J (jg jh J)<|zo J (fe (ht J) (ht J))<|av<|cU h J (fun h=>?_) (fun h=>?_)
 ·refine aw<|zo J (jL)<|av<|am<|ae ?_;cases so h;exact aJ J J
 ·refine dS<|ah<|aw<|aG J<|zo J (jg jh J)<|zo J (bI hI)<|av<|aA<|be (k:=11) J fun hN=>bL ?_;refine aU (eI (Z:=fun ls i=>(s1.drop i=ls)∧dU s2 ls i=some R) (Of:=fun _ i=>[]) (Gf:=fun _ i=>[(0,ca (af) s1),(1,ca (af) s2),(12,jz s1),(13,bM (i:Int))]) (fun i h=>?_) (fun e tl ih i h=>?_) s1 0 ⟨J,h⟩) (bu J)
  ·obtain⟨hx,h⟩:=h
   refine aB<|aw<|zo J (fM J J)<|av<|ah<|bz (ht J) (du hx)<|bv ?_;refine ai (ai (aO ?_));refine ax<|aw<|zo rfl (jL)<|av<|am ?_;cases so h;exact aJ J J
  ·obtain⟨hx,h⟩:=h
   refine aB<|aw<|zo J (fM J J)<|av<|ah<|bw (ht J) (di hx)<|dS<|ah<|aA<|aw<|aG J<|bp J<|av<|ah<|bC h fun e1 q_e1 h=>?_
   refine c9 (ts:=[_,_,_,_,_,_,_,_,_]) mixed J J
    ⟨eM 0 J J J (dl J),
    ⟨eM 5 J J J (dl J),
    ⟨d8 16 0 17 1 J J J J (my jh aH J J J (da hx)),
    ⟨bY 18 2 J J J (bB aH J J),
    ⟨eM 1 J J J (dl J),
    ⟨eM 5 J J J (dl J),
    ⟨d8 20 4 21 5 J J J J (my jh aH J J J q_e1),
    ⟨bY 22 6 J J J (bB aH J J),
    ⟨d8 19 3 23 7 J J J J (Ix Qh (ht J) (ht J)),
    aT⟩⟩⟩⟩⟩⟩⟩⟩⟩ ?_
   refine ax<|cU h rfl (fun h=>?_) (fun h=>?_)
   ·refine aw<|zo J (jL)<|av<|am ?_;refine aD (ae (ae (aD (ae ?_))));cases so h;exact aJ J J
   ·refine bA<|aq<|ax<|au<|zo rfl (mz (cM hx hN) rfl)<|aG rfl<|aP ?_;exact bm (aU (ih (i+1) ⟨cL hx,h⟩) (bu J))

theorem Nc(a1:(List ac))(b:(List ac)){R:Bool}(h:np a1 b=some R):aX aQ 93 [ca (af) a1,ca (af) b] (iR R):=by
 refine aX.of Tryz.func93 J J J fun w0 S0=>aw<|zo J (jL)<|av<|aw<|aG J<|aG J<|bC h fun r q_r h=>zo J (aC abT (VF _ _ q_r) ⟨(ht J),(ht J),aT⟩)<|bp J<|av<|am ?_;cases so h;exact aJ J J

theorem Vw(columns:(List Int))(a1:(List ac))(b:(List ac)){R:Bool}(h:ge columns a1 b=some R):aX aQ 178 [ca (af) a1,ca (af) b,bK nP columns] (iR R):=by
 refine aX.of Tryz.func178 J J J fun w0 S0=>aw<|zo J (jL)<|av<|ah<|bC h fun r q_r h=>bC h fun r1 q_r1 h=>bC h fun r2 q_r2 h=>?_
 refine c9 (ts:=[_,_,_,_,_,_,_,_]) mixed J J
  ⟨eM 0 J J J (dl J),
  ⟨eM 2 J J J (bB d9 J J),
  ⟨d8 6 0 7 1 J J J J (aC Lm (Bs _ _ q_r) ⟨(ht J),(ht J),aT⟩),
  ⟨eM 1 J J J (dl J),
  ⟨eM 2 J J J (bB d9 J J),
  ⟨d8 9 3 10 4 J J J J (aC Lm (Bs _ _ q_r1) ⟨(ht J),(ht J),aT⟩),
  ⟨d8 8 2 11 5 J J J J (aC Y5 (Nc _ _ q_r2) ⟨(ht J),(ht J),aT⟩),
  ⟨bY 12 6 J J J (u8 J),
  aT⟩⟩⟩⟩⟩⟩⟩⟩ ?_
 refine ax<|am ?_;cases so h;exact aJ J J

theorem Vd(l:(List (List ac)))(alike:((List ac)→(List ac)→Option Bool))(b:Nat):Ax aQ 260 (fun(x:(List (List ac)))=>[ca (cY) x]) (fun _=>wb l alike) [bx dO 32 b l] [tV (aN b 0),bK (rT ((dX aQ D9 nH (fun(x:(List ac)×(List ac))=>alike x.1 x.2)))) ()]:=by
 refine Ax.of Tryz.func260 J J J fun Sg yld s R h I yv hy e he w0 S0 B hB=>?_
 replace h:wb l alike yld s=some R:=h
 refine aA<|bL<|hU ?_;refine aU (Po (Z:=fun n e1 s1 x=>I s1 e1∧j9 alike yld n s1 x=some R) (Of:=fun e1 s1 x=>[bx dO 32 b x,e1]) (Gf:=fun e1 s1 x=>[(0,tV yv),(1,tV (aN b 0)),(2,bK (rT ((dX aQ D9 nH (fun(x:(List ac)×(List ac))=>alike x.1 x.2)))) ())]) (fun e1 s1 x h=>nn h.2) (fun n ih e1 s1 x h=>?_) iz e s l ⟨he,h⟩) (bu J);refine aB ?_
 obtain⟨he1,h⟩:=h
 refine ah<|aw<|zo J (cg gF J J bT (.head _) (ht J))<|zo J (jg jF J)<|zo J (gv (ht J) hI)<|av<|cU h J (fun h=>?_) (fun h=>?_)
 ·refine dS<|aA<|aw<|zo J (cD)<|av<|ah<|aA<|bL ?_;refine aU (Pp (Z:=fun n2 n1=>nm alike yld (j9 alike yld n) s1 x n2 n1=some R) (Of:=fun n1=>[bx dO 32 b x,e1]) (Gf:=fun n1=>[(0,tV yv),(1,tV (aN b 0)),(2,bK (rT ((dX aQ D9 nH (fun(x:(List ac)×(List ac))=>alike x.1 x.2)))) ()),(4,bM n1)]) (fun n1 h=>nn h) (fun n2 ih1 n1 h=>?_) iz (1:Int) h) (bu J);refine aB<|ah<|ah<|bC h fun t q_t h=>?_
  obtain⟨e2,h1t,h0t⟩:=og q_t
  have q_e2g:=fun hb=>(h1t hb).1
  obtain⟨e3,h1t⟩:=X4 (fun hb=>(h1t hb).2)
  have q_e3g:=fun hb=>(h1t hb).1
  obtain⟨r,h1t⟩:=X4 (fun hb=>(h1t hb).2)
  have q_rg:=fun hb=>(h1t hb).1
  refine c9 (ts:=[_,_,_,_,_,_,_,_,_,_,_,_,_,_,_]) mixed J J
   ⟨eM 4 J J J (dl J),
   ⟨eM 1 J J J (cg gF J J bT (.head _) (ht J)),
   ⟨bY 9 1 J J J (jg jF J),
   ⟨d8 8 0 10 2 J J J J (fM J J),
   ⟨bY 11 3 J J J (dl J),
   ⟨s7 2 12 4 J J J J (fd J J J J (fun hg=>vn ZE (ht J))),
   ⟨s7 1 12 4 J J J J (fd J J J J (fun hg=>cg gF J J bT (.head _) (ht J))),
   ⟨lL 14 6 12 4 J J J J (fd J J J J (fun hg=>br jF dW J (bN J hg) hI (q_e2g hg))),
   ⟨lL 15 7 12 4 J J J J (fd J J J J (fun hg=>bO dW J J (bN J hg))),
   ⟨s7 1 12 4 J J J J (fd J J J J (fun hg=>cg gF J J bT (.head _) (ht J))),
   ⟨s7 4 12 4 J J J J (fd J J J J (fun hg=>dl J)),
   ⟨wI 17 9 18 10 12 4 J J J J J (fd J J J J (fun hg=>br jF dW J (bN J hg) (bN J hg) (q_e3g hg))),
   ⟨lL 19 11 12 4 J J J J (fd J J J J (fun hg=>bO dW J J (bN J hg))),
   ⟨⟨[⟨13,_,some 5⟩,⟨16,_,some 8⟩,⟨20,_,some 12⟩,⟨12,_,some 4⟩],_,J,⟨J,J,J,J,aT⟩,J,J,fd J J J J (fun hg=>gZ (args:=Tw) (res:=HS) (f:=(fun(x:(List ac)×(List ac))=>alike x.1 x.2)) (x:=((e2,e3):(List ac)×(List ac))) (bN J hg) (q_rg hg) ⟨(bN J hg),(bN J hg),aT⟩)⟩,
   ⟨d8 12 4 21 13 J J J J (fQ (ht J) (fun hb=>(bN J hb)) (fun hb=>(h1t hb).2) h0t),
   aT⟩⟩⟩⟩⟩⟩⟩⟩⟩⟩⟩⟩⟩⟩⟩ ?_
  refine ax<|cU h rfl (fun h=>?_) (fun h=>?_)
  ·refine dS<|aA<|au<|aG J<|zo J (oa (ht J) hI)<|bp J<|aP<|aq ?_;exact bm (aU (ih1 (IntKind.i64.wrap (n1+(1:Int))) h) (bu J))
  ·refine bv ?_;refine ai (ai (aO ?_));refine ax<|ah<|aw<|aG rfl<|zo rfl (cg gF rfl rfl bT (.head _) (ht rfl))<|aG rfl<|bC h fun y q_y h=>zo J (MG jF dW J (ht J) (ht J) q_y)<|bF<|bC h fun r1 q_r1 h=>FL hy he1 q_r1 (ht J) ⟨(ht J),aT⟩ J fun e4 he2=>zo J (gh (ht J))<|av<|cU h J (fun h=>?_) (fun h=>?_)
   ·refine am ?_;refine ae (aD (ae (aD ?_)));refine bD<|bD ?_;cases so h;exact Jl J he2 hB ⟨fun _ h=>h,aT⟩
   ·refine dS<|au<|zo J (cg gF J J bT (.tail _ (.head _)) (ht J))<|aG J<|bC h fun y1 q_y1 h=>zo J (MF jF dW J (ht J) (ht J) q_y1)<|bF<|ap gF J an J (ht J) (ht J)<|aP<|aq ?_;exact bm (aU (ih e4 r1.2 y1 ⟨he2,h⟩) (bu J))
 ·refine bv ?_;refine ai (ai (aO ?_));refine bD ?_;cases so h;exact LP J he1 hB ⟨fun _ h=>h,aT⟩

theorem Si(l:(List (List ac)))(alike:((List ac)→(List ac)→Option Bool)){R:It (List (List ac))}(h:EH l alike=some R):Ap aQ 179 [ca (cY) l,(dX aQ D9 nH (fun(x:(List ac)×(List ac))=>alike x.1 x.2))] (fun(x:(List (List ac)))=>[ca (cY) x]) R:=by
 refine Ap.of Tryz.func179 J J J fun w0 S0=>aw<|wE (ht J) J fun b=>zo J (DE (ht J))<|zo J (aM hV)<|av<|aw<|Dk (O1:=[bx dO 32 b l]) (cts:=[tV (aN b 0),bK (rT ((dX aQ D9 nH (fun(x:(List ac)×(List ac))=>alike x.1 x.2)))) ()]) (caps:=[.tmp 2,.tmp 3]) J abb (Vd l alike b) ⟨(ht J),(ht J),aT⟩ J fun v fp=>bp J<|av<|am ?_;cases so h;exact LN J J

theorem Sh(s:(List (List ac))){R:(List (List ac))}(h:eY s=some R):fZ aQ 180 [ca (cY) s] false cY 43 R:=by
 refine fZ.of Tryz.func180 J J J fun w0 S0=>aw<|bQ false cY 43<|zo J (aM tJ)<|av<|ah<|aw<|aG J<|tX jF (ht J) J fun isnil hisnil=>av<|pi (ht J) (fun hc=>?_) (fun hc=>?_)
 ·have hx:=hisnil hc
  have h:some HR=some R:=by simpa [eY,app,hx] using h
  refine aw<|bQ false cY 43<|zo J (aM tJ)<|av<|am<|ae ?_;cases so h;exact gn J J
 ·refine dS<|aw<|kh (r:=cY) (ys:=HR) (xs:=[]) jF dW J J J J J trivial J fun l c=>aG J<|bC h fun x q_x h=>cT dW J J J J jF J J (ht J) (ht J) q_x fun l1 c1=>bp J<|av<|am ?_;cases so h;exact gn J J
theorem Vv(s:(List (List ac))){R:(List (List ac))}(h:eY s=some R):aX aQ 180 [ca (cY) s] (ca (cY) R):=(Sh _ h).spec

theorem VR(l:(List (List ac)))(columns:(List Int)){R:(List ie)×Int}(h:th l columns=some R):aX aQ 105 [ca (cY) l,mv columns] (tT [ca (fN) R.1,bM R.2]):=by
 refine Lu Tryz.func105 J J J fun w0 S0=>aw<|zo J (jm J)<|zo J (aM (show aI _ _ _ (ca (fN) ([]))from jQ))<|zo J (cD)<|av<|ah<|aw<|aG J<|zo J (bB d9 J J)<|bC h fun r q_r h=>zo J (aC abK (Vy _ _ q_r) ⟨(ht J),(ht J),aT⟩)<|bp J<|av<|aw<|aG J<|zo J (s4 J)<|av ?_;refine cU h J (fun h=>?_) (fun h=>?_)
 ·refine aw<|aG J<|zo J (aM (show aI _ _ _ (ca (fN) ([]))from jQ))<|bp J<|av<|am<|ae<|rP ?_;cases so h;exact cC J J J
 ·refine dS<|aw<|aG J<|bC h fun r1 q_r1 h=>iy Xa (Lc _ q_r1) ⟨(ht J),aT⟩ J fun l1 c=>bp J<|av<|aw<|aG J<|zo J ((show bS _ _ _ _ ((dX aQ D9 y6 (fun(x:(List ac)×(List ac))=>(mF columns) x.1 x.2)))from iK (cts:=[bK nP columns]) (caps:=[.tmp 3]) abJ ⟨(ht J),aT⟩ (fun x y h=>Vx _ _ _ h)))<|bC h fun uP q_srt h=>?_;refine FM (n:=r1.length) wB ?_ SN ?_ q_srt ?_ ?_ ?_ ?_ ?_
  ·rfl
  ·rfl
  ·exact(ht J)
  ·rfl
  ·exact(ht J)
  ·rfl
  intro hl
  refine o8 hl 18 J<|o8 hl 7 J<|o8 hl 19 J<|av<|aw<|zo J ((show bS _ _ _ _ ((dX aQ D9 nH (fun(x:(List ac)×(List ac))=>(ge columns) x.1 x.2)))from iK (cts:=[bK nP columns]) (caps:=[.tmp 3]) abI ⟨(ht J),aT⟩ (fun x y h=>Vw _ _ _ h)))<|bp J<|av<|aw<|bQ false fN 154<|aW (x:=aR none 0 0) NQ (fun _=>ES) J fun b=>av<|ah<|aw<|aG J<|aG J<|hT<|jC ?_;refine iW 18 J<|iW 7 J<|iW 19 J<|iW 23 J<|bC h fun it q_it h=>Hz abH (Si _ _ q_it) ⟨(kz (ht J)),(ht J),aT⟩ J fun v fp=>av<|aA<|bC h fun s q_s h=>?_;refine QE (fun(i:Option Nat×Nat×List ie)=>[dT cY 43 l1 c uP,bx rV 150 b (aR i.1 i.2.1 i.2.2.length),fj fN 154 i.1 i.2.1 i.2.2]) (fun(i:Option Nat×Nat×List ie)=>(i.2.2)) J (ht J) (none,0,([]:List ie)) J q_s (fun _=>J) J (fun i x s2 h lp rec1 _ _ _=>?_) (fun i hi bd=>?_)
  ·obtain⟨l2,c1,xs⟩:=i
   replace h:ke columns x xs=some s2:=h
   refine(show CG _ _ _ [wg lp rec1 .ready,dT cY 43 l1 c uP,bx rV 150 b (aR l2 c1 xs.length),fj fN 154 l2 c1 xs] _ from ?_);refine FZ (G' :=[(0,ca (cY) l),(1,mv columns),(3,bK nP columns),(4,ca (fN) ([])),(5,bM 0),(6,bM r),(7,tO cY l1 c uP),(8,(dX aQ D9 nH (fun(x:(List ac)×(List ac))=>(ge columns) x.1 x.2))),(9,tV (aN b 0)),(11,ca (cY) l),(12,mv columns),(13,bM r),(14,bM r),(15,iR (r !=(0:Int))),(17,ca (cY) l),(18,tO cY l1 c uP),(19,tO cY l1 c uP),(20,(dX aQ D9 y6 (fun(x:(List ac)×(List ac))=>(mF columns) x.1 x.2))),(22,(dX aQ D9 nH (fun(x:(List ac)×(List ac))=>(ge columns) x.1 x.2))),(23,tO cY l1 c uP),(24,(dX aQ D9 nH (fun(x:(List ac)×(List ac))=>(ge columns) x.1 x.2))),(26,ca (cY) x)]) ?_ ⟨J,J,J,J,J,J,J,J,J,J,J,J,J,J,J,J,J,J,J,J,J,J,aT⟩;refine au<|bp J<|aP<|Tj<|aA<|bC h fun e q_e h=>bC h fun r2 q_r2 h=>bC h fun r3 q_r3 h=>?_
   refine qw 10 (ts:=[sb l2 c1 xs,ca (cY) x,bK cY e,ca (af) e,mv columns,ca (af) r2,ca (cY) x,ca (cY) r3,tD fN (⟨r2,r3⟩:ie),ca (fN) ([(⟨r2,r3⟩:ie)])]) mixed J J J
    ⟨eM 9 J J J (gY NQ (.tail _ (.tail _ (.head _))) (ht J)),
    ⟨eM 10 J J J (dl J),
    ⟨bY 28 1 J J J (br jF dW J (ht J) hI q_e),
    ⟨bY 29 2 J J J (bB dW J J),
    ⟨eM 3 J J J (bB d9 J J),
    ⟨d8 30 3 31 4 J J J J (aC Lm (Bs _ _ q_r2) ⟨(ht J),(ht J),aT⟩),
    ⟨eM 10 J J J (dl J),
    ⟨bY 33 6 J J J (aC abG (Vv _ q_r3) ⟨(ht J),aT⟩),
    ⟨d8 32 5 34 7 J J J J (bU (y:=(⟨r2,r3⟩:ie)) AV WH D7 (⟨_,_,_,_,_,J,Ml,J,(ht J),⟨_,_,_,_,_,J,Mk,J,(ht J),J⟩⟩)),
    ⟨bY 35 8 J J J (aS (r:=fN) (ys:=[(⟨r2,r3⟩:ie)]) (xs:=[.tmp 35]) GF AV J J J J J ⟨(ht J),aT⟩),
    aT⟩⟩⟩⟩⟩⟩⟩⟩⟩⟩ ?_
   refine kq<|bC h fun l3 q_l3 h=>cT AV J J J J GF J J (ht J) (ht J) q_l3 fun l4 c2=>kq<|ap NQ J an J (ht J) (PZ (ht J))<|aP<|aq<|bD<|bD<|cA<|cA ?_;exact LQ (l4,c2,l3) (so h) J
  ·skip
   obtain⟨l5,c3,xs1⟩:=i
   have hi:xs1=s:=hi
   subst hi
   refine(show AT _ _ _ [BC bd,dT cY 43 l1 c uP,bx rV 150 b (aR l5 c3 xs1.length),fj fN 154 l5 c3 xs1] _ from ?_);refine cw (G' :=[(0,ca (cY) l),(1,mv columns),(3,bK nP columns),(4,ca (fN) ([])),(5,bM 0),(6,bM r),(7,tO cY l1 c uP),(8,(dX aQ D9 nH (fun(x:(List ac)×(List ac))=>(ge columns) x.1 x.2))),(9,tV (aN b 0)),(11,ca (cY) l),(12,mv columns),(13,bM r),(14,bM r),(15,iR (r !=(0:Int))),(17,ca (cY) l),(18,tO cY l1 c uP),(19,tO cY l1 c uP),(20,(dX aQ D9 y6 (fun(x:(List ac)×(List ac))=>(mF columns) x.1 x.2))),(22,(dX aQ D9 nH (fun(x:(List ac)×(List ac))=>(ge columns) x.1 x.2))),(23,tO cY l1 c uP),(24,(dX aQ D9 nH (fun(x:(List ac)×(List ac))=>(ge columns) x.1 x.2)))]) ?_ ⟨J,J,J,J,J,J,J,J,J,J,J,J,J,J,J,J,J,J,J,J,J,aT⟩;refine aq<|ax<|aw<|zo rfl (gY NQ (.tail _ (.tail _ (.head _))) (ht rfl))<|bp rfl<|zo rfl (cD)<|av<|am<|cA<|jD<|cE 4 rfl<|cE 38 rfl<|jE 4 rfl<|ba<|bD<|ba<|bD<|ba<|BS<|rP ?_;cases so h;exact cC J J J

theorem aaf(b:Nat)(ix:OI)(r:cS)(n:aj){R:(List (List ac))×Int}(h:jd r n=some R):cX aQ 54 [tV (aN b 0),tD aF n] (jr b r ix) (fun _:OI=>tT [ca (cY) R.1,bM R.2]) (fun _=>(jr b r ix)):=by
 refine cX.of Tryz.func54 J J J fun w0 S0=>?_;refine(show CG _ _ _ [bx (rH ea [(1,aR (ix.h 0).1 (ix.h 0).2 r.rows.length),(2,aR (ix.h 1).1 (ix.h 1).2 r.width.length)]) 96 b r,dT dO 32 (ix.h 0).1 (ix.h 0).2 r.rows,dT cd 3 (ix.h 1).1 (ix.h 1).2 r.width] _ from ?_);refine aw<|zo J (jm J)<|zo J (aM (show aI _ _ _ uN from jQ))<|zo J (cD)<|av<|ah<|bC h fun e q_e h=>bC h fun r1 q_r1 h=>?_
 refine c9 (ts:=[_,_,_,_,_,_,_,_,_,_,_,_,_,_,_,_]) mixed J J
  ⟨eM 0 J J J (dl J),
  ⟨bY 17 0 J J J (dB (ht J)),
  ⟨bY 18 1 J J J (jN 1 qV J J J),
  ⟨bY 19 2 J J J (dd vb J (.head _) (.tail _ (.head _)) (ht J)),
  ⟨eM 3 J J J (df ju dN J J),
  ⟨bY 21 4 J J J (bB cx J J),
  ⟨d8 20 3 22 5 J J J J (br oA gF J (kz (ht J)) (ht J) q_e),
  ⟨bY 23 6 J J J (bB gF J J),
  ⟨eM 3 J J J (df tN mQ J J),
  ⟨bY 25 8 J J J (bB d9 J J),
  ⟨d8 24 7 26 9 J J J J (aC ab6 (VR _ _ q_r1) ⟨(ht J),(ht J),aT⟩),
  ⟨bY 27 10 J J J (dl J),
  ⟨bY 16 11 J J J (gp J J),
  ⟨bY 16 11 J J J (gp J J),
  ⟨bY 28 12 J J J (u8 J),
  ⟨bY 29 13 J J J (u8 J),
  aT⟩⟩⟩⟩⟩⟩⟩⟩⟩⟩⟩⟩⟩⟩⟩⟩ ?_
 refine ax<|ah<|aw<|aG rfl<|zo rfl (s4 rfl)<|av<|cU h rfl (fun h=>?_) (fun h=>?_)
 ·refine aw<|aG J<|zo J (aM (show aI _ _ _ uN from jQ))<|bp J<|av<|am<|ae<|aK<|aK<|aK ?_;cases so h;exact d6 (ts:=[ca (cY) ([]),bM r1.2]) (rvs:=[.tmp 4,.tmp 5]) J J ⟨aZ J,aZ J,aT⟩ pS J J
 ·refine dS ?_;refine kw (Z:=fun groups=>lJ n groups=some R) (Of:=fun groups=>[bx (rH ea [(1,aR (ix.h 0).1 (ix.h 0).2 r.rows.length),(2,aR (ix.h 1).1 (ix.h 1).2 r.width.length)]) 96 b r,dT dO 32 (ix.h 0).1 (ix.h 0).2 r.rows,dT cd 3 (ix.h 1).1 (ix.h 1).2 r.width]) (Gf:=fun groups=>[(3,bK aF n),(6,ca (fN) groups)]) (fun groups h=>?_) (fun K=>?_)
  ·skip
   refine aw<|bQ false cY 43<|zo J (aM tJ)<|av<|ah<|aw<|aG J<|zo J (jg GF J)<|zo J (bI hI)<|av<|aA<|be (k:=44) J fun hN=>bL ?_;refine aU (jW (Z:=fun ls i out l c=>(groups.drop i=ls)∧fi n ls out=some R) (Of:=fun _ i out l c=>[fj cY 43 l c out,bx (rH ea [(1,aR (ix.h 0).1 (ix.h 0).2 r.rows.length),(2,aR (ix.h 1).1 (ix.h 1).2 r.width.length)]) 96 b r,dT dO 32 (ix.h 0).1 (ix.h 0).2 r.rows,dT cd 3 (ix.h 1).1 (ix.h 1).2 r.width]) (Gf:=fun _ i out l c=>[(3,bK aF n),(8,sb l c out),(44,ca (fN) groups),(45,jz groups),(46,bM (i:Int))]) (fun i out l c h=>?_) (fun e1 tl ih i out l c h=>?_) groups 0 HR none 0 ⟨J,h⟩) (bu J)
   ·obtain⟨hx,h⟩:=h
    refine aB<|aw<|zo J (fM J J)<|av<|ah<|bz (ht J) (du hx)<|bv ?_;refine ai (ai (aO ?_));refine ax<|aw<|aG rfl<|bp rfl<|zo rfl (cD)<|av<|am<|jD<|cE 8 rfl<|cE 80 rfl<|cE 4 rfl<|jE 4 rfl<|ba<|aK<|aK<|aK ?_;cases so h;exact d6 (ts:=[ca (cY) out,bM 0]) (rvs:=[.tmp 4,.tmp 5]) J J ⟨aZ J,aZ J,aT⟩ pS J J
   ·obtain⟨hx,h⟩:=h
    refine aB<|aw<|zo J (fM J J)<|av<|ah<|bw (ht J) (di hx)<|dS<|ah<|aA<|aw<|zo J (my GF AV J J J (da hx))<|zo J (bB AV J J)<|aW (r:=fN) (x:=Tp) AV (fun _=>D7 _) J fun b1=>ap AV J an J (ht J) (ht J)<|aV 10 J<|av<|aw<|zo J (df Uz MU J J) ?_;refine zo J (bB dW J J)<|bC h fun r2 q_r2 h=>iy SR (Ft _ q_r2) ⟨(ht J),aT⟩ J fun l1 c1=>bp J<|av<|ah<|aw<|zo J (df qX oj J J)<|zo J (bB B4 J J)<|zo J (jg wT J)<|zo J (bI hI)<|av<|aA<|be (k:=54) J fun hN1=>bL<|kW<|kW<|kW<|nG<|kW ?_;refine aU (jW (Z:=fun ls1 i1 x l2 c2=>(n.Aggs.drop i1=ls1)∧iE (fi n tl) e1 out ls1 x=some R) (Of:=fun _ i1 x l2 c2=>[fj cY 43 l c out,fj af 46 l2 c2 x,bx (rH ea [(1,aR (ix.h 0).1 (ix.h 0).2 r.rows.length),(2,aR (ix.h 1).1 (ix.h 1).2 r.width.length)]) 96 b r,dT dO 32 (ix.h 0).1 (ix.h 0).2 r.rows,dT cd 3 (ix.h 1).1 (ix.h 1).2 r.width]) (Gf:=fun _ i1 x l2 c2=>[(3,bK aF n),(8,sb l c out),(10,bK fN e1),(11,sb l2 c2 x),(44,ca (fN) groups),(45,jz groups),(46,bM (i:Int)),(54,ca (fm) n.Aggs),(55,jz n.Aggs),(56,bM (i1:Int))]) (fun i1 x l2 c2 h=>?_) (fun e2 tl1 ih1 i1 x l2 c2 h=>?_) n.Aggs 0 r2 l1 c1 ⟨J,h⟩) (bu J)
    ·obtain⟨hx1,h⟩:=h
     refine aB<|aw<|zo J (fM J J)<|av<|ah<|bz (ht J) (du hx1)<|bv ?_;refine ai (ai (aO ?_));refine ax<|au<|aG rfl<|aG rfl<|bF<|jC<|iW 11 rfl<|iW 76 rfl<|zo rfl (aS (r:=cY) (ys:=[x]) (xs:=[.tmp 76]) jF dW J J J J J ⟨(kz (ht J)),aT⟩)<|bF<|bC h fun out1 q_out1 h=>cT dW J J J J jF J J (ht J) (ht J) q_out1 fun l3 c3=>bp J<|aP<|aq<|ax<|au<|zo rfl (mz (cM hx hN) rfl)<|aG rfl<|aP<|bD<|ba ?_;exact bm (aU (ih (i+1) out1 l3 c3 ⟨cL hx,h⟩) (bu J))
    ·obtain⟨hx1,h⟩:=h
     refine aB<|aw<|zo J (fM J J)<|av<|ah<|bw (ht J) (di hx1)<|dS<|ah<|aA<|aw<|zo J (my wT ug J J J (da hx1))<|zo J (bB ug J J)<|aW (r:=fm) (x:=Xs) ug (fun _=>D8 _) J fun b2=>ap ug J an J (ht J) (ht J)<|aV 13 J<|av<|aw<|zo J (bB ug J J) ?_;refine zo J (df Uy MT J J)<|zo J (bB gF J J)<|bC h fun r3 q_r3 h=>zo J (aC acJ (Yu _ _ q_r3) ⟨(ht J),(ht J),aT⟩)<|aG J<|zo J (gp J J)<|zo J (gp J J)<|aW (r:=af) (x:=ig) aH (fun _=>bj _) J fun b3=>ap aH J an J (ht J) (ht J)<|aV 14 J<|bp J<|av<|ah<|aw<|aG J<|zo J (s4 J)<|av<|cU h J (fun h=>?_) (fun h=>?_)
     ·refine aw<|aG J<|zo J (aM (show aI _ _ _ uN from jQ))<|bp J<|av<|am ?_;refine ae (aD (ae (ae (aD (ae (aD (ae (ae (aD (ae ?_))))))))));refine ba<|ba<|aK<|aK<|aK ?_;cases so h;exact d6 (ts:=[ca (cY) ([]),bM r3.2]) (rvs:=[.tmp 4,.tmp 5]) J J ⟨aZ J,aZ J,aT⟩ pS J J
     ·refine dS<|au<|aG J<|zo J (bB aH J J)<|zo J (aS (r:=af) (ys:=[r3.1]) (xs:=[.tmp 71]) jh aH J J J J J ⟨(ht J),aT⟩)<|bF<|bC h fun x1 q_x1 h=>cT aH J J J J jh J J (ht J) (ht J) q_x1 fun l4 c4=>bp J<|aP<|aq<|ax<|au<|zo rfl (mz (cM hx1 hN1) rfl)<|aG rfl<|aP<|fh<|fh<|fh<|cA<|fh ?_;exact bm (aU (ih1 (i1+1) x1 l4 c4 ⟨cL hx1,h⟩) (bu J))
  ·skip
   refine aw<|zo J (df tN mQ J J)<|zo J (bB d9 J J)<|zo J (jg gT J)<|zo J (nI J)<|aG J<|dQ J J (fun hg=>dl J)<|dQ J J (fun hg=>cW GF (bN J hg))<|dQ J J (fun hg=>dH (bN J hg) hI)<|zo J (u6 J J)<|av<|cU h J (fun h=>?_) (fun h=>?_)
   ·refine au<|zo J (bU (y:=Tp) AV WH D7 (J))<|zo J (aS (r:=fN) (ys:=[Tp]) (xs:=[.tmp 42]) GF AV J J J J J ⟨(ht J),aT⟩)<|bp J<|aP ?_;exact cw (K ([Tp]) h) (bu J)
   ·refine bA ?_;exact cw (K r1.1 h) (bu J)

end Go.Proofs.YtfhhakidodmdfaaGreatDoor

