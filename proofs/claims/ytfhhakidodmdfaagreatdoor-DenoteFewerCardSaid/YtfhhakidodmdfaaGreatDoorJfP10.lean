/- cU of this claim: P10. -/
import Derived.Test.YtfhhakidodmdfaaGreatDoorJfT
import Derived.Test.YtfhhakidodmdfaaGreatDoorJfP9
set_option linter.all false
namespace Go.Proofs.YtfhhakidodmdfaaGreatDoor
open Go
set_option maxRecDepth 100000

theorem LJ(l:(List (List ac))){R:(List (List ac))}(h:tN l=some R):gp aQ 174 [bW (cR) l] false cR 43 R:=by
 refine gp.of Tryz.func174 J J J fun w0 S0=>aw<|bP false cR 43<|zo J (aM ud)<|av<|aw<|bP false cR 43<|zo J (aM ud)<|av<|ah<|aw<|aG J<|zo J (i7 i9 J)<|zo J (bE hI)<|av<|ay<|ba (k:=6) J fun hN=>bL ?_;refine im<|rL ?_;refine aR (j8 (Z:=fun ls i out l1 c=>(l.drop i=ls)∧nJ ls out=some R) (Of:=fun _ i out l1 c=>[fE cR 43 l1 c out]) (Gf:=fun _ i out l1 c=>[(3,sH l1 c out),(6,bW (cR) l),(7,jr l),(8,bN (i:Int))]) (fun i out l1 c h=>?_) (fun e tl ih i out l1 c h=>?_) l 0 Ig none 0 ⟨J,h⟩) (bu J)
 ·obtain⟨hx,h⟩:=h
  refine aA<|aw<|zo J (fF J J)<|av<|ah<|bz (ht J) (dm hx)<|bv ?_;refine ai (ai (aN ?_));refine ax<|aw<|aG rfl<|bq rfl<|av<|am ?_;cases so h;exact gC J J
 ·obtain⟨hx,h⟩:=h
  refine aA<|aw<|zo J (fF J J)<|av<|ah<|bw (ht J) (dg hx)<|dP<|ah<|ay<|aw<|zo J (mz i9 dy J J J (cT hx))<|zo J (bC dy J J)<|bq J<|av<|au<|aG J<|aG J<|bB h fun r q_r h=>jd TA (FU _ q_r) ⟨(ht J),aS⟩ J fun l2 c1=>?_;refine kJ<|jM 14 J<|zo J (aU (r:=cR) (ys:=[r]) (xs:=[.tmp 14]) i9 dy J J J J J ⟨(lb (ht J)),aS⟩)<|bH<|bB h fun out1 q_out1 h=>db dy J J J J i9 J J (ht J) (ht J) q_out1 fun l3 c2=>bq J<|aP<|ap<|ax<|au<|zo rfl (lT (cx hx hN) rfl)<|aG rfl<|aP<|bD<|bf ?_;exact bg (aR (ih (i+1) out1 l3 c2 ⟨cw hx,h⟩) (bu J))
theorem SZ(r:(List ac))(columns:(List Int)){R:(List ac)}(h:ot r columns=some R):gp aQ 177 [bW (af) r,mK columns] false af 46 R:=by
 refine gp.of Tryz.func177 J J J fun w0 S0=>aw<|bP false af 46<|zo J (aM ud)<|av<|aw<|bP false af 46<|zo J (aM ud)<|av<|ah<|aw<|aG J<|zo J (i7 hX J)<|zo J (bE hI)<|av<|ay<|ba (k:=8) J fun hN=>bL ?_;refine im<|rL ?_;refine aR (j8 (Z:=fun ls i out l c=>(columns.drop i=ls)∧mD r ls out=some R) (Of:=fun _ i out l c=>[fE af 46 l c out]) (Gf:=fun _ i out l c=>[(0,bW (af) r),(5,sH l c out),(8,mK columns),(9,jr columns),(10,bN (i:Int))]) (fun i out l c h=>?_) (fun e tl ih i out l c h=>?_) columns 0 If none 0 ⟨J,h⟩) (bu J)
 ·obtain⟨hx,h⟩:=h
  refine aA<|aw<|zo J (fF J J)<|av<|ah<|bz (ht J) (dm hx)<|bv ?_;refine ai (ai (aN ?_));refine ax<|aw<|aG rfl<|bq rfl<|av<|am ?_;cases so h;exact gC J J
 ·obtain⟨hx,h⟩:=h
  refine aA<|aw<|zo J (fF J J)<|av<|ah<|bw (ht J) (dg hx)<|dP<|ah<|ay<|aw<|zo J (mz hX cr J J J (cT hx))<|zo J (bC cr J J)<|bq J<|av<|au<|aG J<|aG J<|aG J<|bB h fun e1 q_e1 h=>?_;refine zo J (mz jf aI J J J q_e1)<|zo J (bC aI J J)<|zo J (aU (r:=af) (ys:=[e1]) (xs:=[.tmp 18]) jf aI J J J J J ⟨(ht J),aS⟩)<|bB h fun out1 q_out1 h=>db aI J J J J jf J J (ht J) (ht J) q_out1 fun l1 c1=>bq J<|aP<|ap<|ax<|au<|zo rfl (lT (cx hx hN) rfl)<|aG rfl<|aP ?_;exact bg (aR (ih (i+1) out1 l1 c1 ⟨cw hx,h⟩) (bu J))
theorem BJ(r:(List ac))(columns:(List Int)){R:(List ac)}(h:ot r columns=some R):aW aQ 177 [bW (af) r,mK columns] (bW (af) R):=(SZ _ _ h).spec

theorem Wa(columns:(List Int))(a1:(List ac))(b:(List ac)){R:Int}(h:mQ columns a1 b=some R):aW aQ 175 [bW (af) a1,bW (af) b,bM od columns] (bN R):=by
 refine aW.of Tryz.func175 J J J fun w0 S0=>aw<|zo J (cy)<|av<|ah<|bB h fun r q_r h=>bB h fun r1 q_r1 h=>bB h fun r2 q_r2 h=>bB h fun r3 q_r3 h=>bB h fun r4 q_r4 h=>?_
 refine da (ts:=[_,_,_,_,_,_,_,_,_,_,_,_,_]) mixed J J
  ⟨eH 0 J J J (de J),
  ⟨eH 2 J J J (bC ea J J),
  ⟨d3 6 0 7 1 J J J J (aB LX (BJ _ _ q_r) ⟨(ht J),(ht J),aS⟩),
  ⟨eH 1 J J J (de J),
  ⟨eH 2 J J J (bC ea J J),
  ⟨d3 9 3 10 4 J J J J (aB LX (BJ _ _ q_r1) ⟨(ht J),(ht J),aS⟩),
  ⟨d3 8 2 11 5 J J J J (aB WI (Je _ _ q_r2) ⟨(ht J),(ht J),aS⟩),
  ⟨eH 0 J J J (de J),
  ⟨eH 1 J J J (de J),
  ⟨d3 13 7 14 8 J J J J (aB WI (Je _ _ q_r3) ⟨(ht J),(ht J),aS⟩),
  ⟨d3 12 6 15 9 J J J J (aU (r:=ca) (ys:=[r2,r3]) (xs:=[.tmp 12,.tmp 15]) hX cr J J J J J ⟨(ht J),(ht J),aS⟩),
  ⟨bZ 16 10 J J J (aB Ts (Jq _ q_r4) ⟨(ht J),aS⟩),
  ⟨bZ 17 11 J J J (vx J),
  aS⟩⟩⟩⟩⟩⟩⟩⟩⟩⟩⟩⟩⟩ ?_
 refine ax<|am ?_;cases so h;exact aH J J

theorem Wi(s1:(List ac))(s2:(List ac)){R:Bool}(h:jk s1 s2=some R):aW aQ 157 [bW (af) s1,bW (af) s2] (iO R):=by
 refine aW.of Tryz.func157 J J J fun w0 S0=>aw<|zo J (jy)<|av<|ah<|aw<|aG J<|zo J (i7 jf J)<|aG J<|zo J (i7 jf J)<|zo J (ft (ht J) (ht J))<|av<|c0 h J (fun h=>?_) (fun h=>?_)
 ·refine aw<|zo J (jy)<|av<|am<|ae ?_;cases so h;exact aH J J
 ·refine dP<|ah<|aw<|aG J<|zo J (i7 jf J)<|zo J (bE hI)<|av<|ay<|ba (k:=11) J fun hN=>bL ?_;refine aR (d7 (Z:=fun ls i=>(s1.drop i=ls)∧dX s2 ls i=some R) (Of:=fun _ i=>[]) (Gf:=fun _ i=>[(0,bW (af) s1),(1,bW (af) s2),(12,jr s1),(13,bN (i:Int))]) (fun i h=>?_) (fun e tl ih i h=>?_) s1 0 ⟨J,h⟩) (bu J)
  ·obtain⟨hx,h⟩:=h
   refine aA<|aw<|zo J (fF J J)<|av<|ah<|bz (ht J) (dm hx)<|bv ?_;refine ai (ai (aN ?_));refine ax<|aw<|zo rfl (jy)<|av<|am ?_;cases so h;exact aH J J
  ·obtain⟨hx,h⟩:=h
   refine aA<|aw<|zo J (fF J J)<|av<|ah<|bw (ht J) (dg hx)<|dP<|ah<|ay<|aw<|aG J<|bq J<|av<|ah<|bB h fun e1 q_e1 h=>?_
   refine da (ts:=[_,_,_,_,_,_,_,_,_]) mixed J J
    ⟨eH 0 J J J (de J),
    ⟨eH 5 J J J (de J),
    ⟨d3 16 0 17 1 J J J J (mz jf aI J J J (cT hx)),
    ⟨bZ 18 2 J J J (bC aI J J),
    ⟨eH 1 J J J (de J),
    ⟨eH 5 J J J (de J),
    ⟨d3 20 4 21 5 J J J J (mz jf aI J J J q_e1),
    ⟨bZ 22 6 J J J (bC aI J J),
    ⟨d3 19 3 23 7 J J J J (IV QS (ht J) (ht J)),
    aS⟩⟩⟩⟩⟩⟩⟩⟩⟩ ?_
   refine ax<|c0 h rfl (fun h=>?_) (fun h=>?_)
   ·refine aw<|zo J (jy)<|av<|am ?_;refine aD (ae (ae (aD (ae ?_))));cases so h;exact aH J J
   ·refine bA<|ap<|ax<|au<|zo rfl (lT (cx hx hN) rfl)<|aG rfl<|aP ?_;exact bg (aR (ih (i+1) ⟨cw hx,h⟩) (bu J))

theorem SM(a1:(List ac))(b:(List ac)){R:Bool}(h:pR a1 b=some R):aW aQ 93 [bW (af) a1,bW (af) b] (iO R):=by
 refine aW.of Tryz.func93 J J J fun w0 S0=>aw<|zo J (jy)<|av<|aw<|aG J<|aG J<|bB h fun r q_r h=>zo J (aB acq (Wi _ _ q_r) ⟨(ht J),(ht J),aS⟩)<|bq J<|av<|am ?_;cases so h;exact aH J J

theorem V9(columns:(List Int))(a1:(List ac))(b:(List ac)){R:Bool}(h:gv columns a1 b=some R):aW aQ 178 [bW (af) a1,bW (af) b,bM od columns] (iO R):=by
 refine aW.of Tryz.func178 J J J fun w0 S0=>aw<|zo J (jy)<|av<|ah<|bB h fun r q_r h=>bB h fun r1 q_r1 h=>bB h fun r2 q_r2 h=>?_
 refine da (ts:=[_,_,_,_,_,_,_,_]) mixed J J
  ⟨eH 0 J J J (de J),
  ⟨eH 2 J J J (bC ea J J),
  ⟨d3 6 0 7 1 J J J J (aB LX (BJ _ _ q_r) ⟨(ht J),(ht J),aS⟩),
  ⟨eH 1 J J J (de J),
  ⟨eH 2 J J J (bC ea J J),
  ⟨d3 9 3 10 4 J J J J (aB LX (BJ _ _ q_r1) ⟨(ht J),(ht J),aS⟩),
  ⟨d3 8 2 11 5 J J J J (aB aa0 (SM _ _ q_r2) ⟨(ht J),(ht J),aS⟩),
  ⟨bZ 12 6 J J J (vx J),
  aS⟩⟩⟩⟩⟩⟩⟩⟩ ?_
 refine ax<|am ?_;cases so h;exact aH J J

theorem VQ(l:(List (List ac)))(alike:((List ac)→(List ac)→Option Bool))(b:Nat):AV aQ 260 (fun(x:(List (List ac)))=>[bW (cR) x]) (fun _=>wA l alike) [bx dU 32 b l] [tV (aO b 0),bM (rT ((dR aQ Gt mA (fun(x:(List ac)×(List ac))=>alike x.1 x.2)))) ()]:=by
 refine AV.of Tryz.func260 J J J fun Sg yld s R h I yv hy e he w0 S0 B hB=>?_
 replace h:wA l alike yld s=some R:=h
 refine ay<|bL<|im ?_;refine aR (PW (Z:=fun n e1 s1 x=>I s1 e1∧kq alike yld n s1 x=some R) (Of:=fun e1 s1 x=>[bx dU 32 b x,e1]) (Gf:=fun e1 s1 x=>[(0,tV yv),(1,tV (aO b 0)),(2,bM (rT ((dR aQ Gt mA (fun(x:(List ac)×(List ac))=>alike x.1 x.2)))) ())]) (fun e1 s1 x h=>nn h.2) (fun n ih e1 s1 x h=>?_) iN e s l ⟨he,h⟩) (bu J);refine aA ?_
 obtain⟨he1,h⟩:=h
 refine ah<|aw<|zo J (ce gU J J bU (.head _) (ht J))<|zo J (i7 i9 J)<|zo J (fU (ht J) hI)<|av<|c0 h J (fun h=>?_) (fun h=>?_)
 ·refine dP<|ay<|aw<|zo J (cy)<|av<|ah<|ay<|bL ?_;refine aR (PX (Z:=fun n2 n1=>nI alike yld (kq alike yld n) s1 x n2 n1=some R) (Of:=fun n1=>[bx dU 32 b x,e1]) (Gf:=fun n1=>[(0,tV yv),(1,tV (aO b 0)),(2,bM (rT ((dR aQ Gt mA (fun(x:(List ac)×(List ac))=>alike x.1 x.2)))) ()),(4,bN n1)]) (fun n1 h=>nn h) (fun n2 ih1 n1 h=>?_) iN (1:Int) h) (bu J);refine aA<|ah<|ah<|bB h fun t q_t h=>?_
  obtain⟨e2,h1t,h0t⟩:=og q_t
  have q_e2g:=fun hb=>(h1t hb).1
  obtain⟨e3,h1t⟩:=Xn (fun hb=>(h1t hb).2)
  have q_e3g:=fun hb=>(h1t hb).1
  obtain⟨r,h1t⟩:=Xn (fun hb=>(h1t hb).2)
  have q_rg:=fun hb=>(h1t hb).1
  refine da (ts:=[_,_,_,_,_,_,_,_,_,_,_,_,_,_,_]) mixed J J
   ⟨eH 4 J J J (de J),
   ⟨eH 1 J J J (ce gU J J bU (.head _) (ht J)),
   ⟨bZ 9 1 J J J (i7 i9 J),
   ⟨d3 8 0 10 2 J J J J (fF J J),
   ⟨bZ 11 3 J J J (de J),
   ⟨qN 2 12 4 J J J J (fm J J J J (fun hg=>vM aae (ht J))),
   ⟨qN 1 12 4 J J J J (fm J J J J (fun hg=>ce gU J J bU (.head _) (ht J))),
   ⟨k7 14 6 12 4 J J J J (fm J J J J (fun hg=>br i9 dy J (bG J hg) hI (q_e2g hg))),
   ⟨k7 15 7 12 4 J J J J (fm J J J J (fun hg=>bI dy J J (bG J hg))),
   ⟨qN 1 12 4 J J J J (fm J J J J (fun hg=>ce gU J J bU (.head _) (ht J))),
   ⟨qN 4 12 4 J J J J (fm J J J J (fun hg=>de J)),
   ⟨uF 17 9 18 10 12 4 J J J J J (fm J J J J (fun hg=>br i9 dy J (bG J hg) (bG J hg) (q_e3g hg))),
   ⟨k7 19 11 12 4 J J J J (fm J J J J (fun hg=>bI dy J J (bG J hg))),
   ⟨⟨[⟨13,_,some 5⟩,⟨16,_,some 8⟩,⟨20,_,some 12⟩,⟨12,_,some 4⟩],_,J,⟨J,J,J,J,aS⟩,J,J,fm J J J J (fun hg=>eU (args:=Uh) (res:=Ih) (f:=(fun(x:(List ac)×(List ac))=>alike x.1 x.2)) (x:=((e2,e3):(List ac)×(List ac))) (bG J hg) (q_rg hg) ⟨(bG J hg),(bG J hg),aS⟩)⟩,
   ⟨d3 12 4 21 13 J J J J (eT (ht J) (fun hb=>(bG J hb)) (fun hb=>(h1t hb).2) h0t),
   aS⟩⟩⟩⟩⟩⟩⟩⟩⟩⟩⟩⟩⟩⟩⟩ ?_
  refine ax<|c0 h rfl (fun h=>?_) (fun h=>?_)
  ·refine dP<|ay<|au<|aG J<|zo J (nY (ht J) hI)<|bq J<|aP<|ap ?_;exact bg (aR (ih1 (IntKind.i64.wrap (n1+(1:Int))) h) (bu J))
  ·refine bv ?_;refine ai (ai (aN ?_));refine ax<|ah<|aw<|aG rfl<|zo rfl (ce gU rfl rfl bU (.head _) (ht rfl))<|aG rfl<|bB h fun y q_y h=>zo J (Nt i9 dy J (ht J) (ht J) q_y)<|bH<|bB h fun r1 q_r1 h=>Ga hy he1 q_r1 (ht J) ⟨(ht J),aS⟩ J fun e4 he2=>zo J (fj (ht J))<|av<|c0 h J (fun h=>?_) (fun h=>?_)
   ·refine am ?_;refine ae (aD (ae (aD ?_)));refine bD<|bD ?_;cases so h;exact JJ J he2 hB ⟨fun _ h=>h,aS⟩
   ·refine dP<|au<|zo J (ce gU J J bU (.tail _ (.head _)) (ht J))<|aG J<|bB h fun y1 q_y1 h=>zo J (Ns i9 dy J (ht J) (ht J) q_y1)<|bH<|aq gU J an J (ht J) (ht J)<|aP<|ap ?_;exact bg (aR (ih e4 r1.2 y1 ⟨he2,h⟩) (bu J))
 ·refine bv ?_;refine ai (ai (aN ?_));refine bD ?_;cases so h;exact Mx J he1 hB ⟨fun _ h=>h,aS⟩

theorem SY(l:(List (List ac)))(alike:((List ac)→(List ac)→Option Bool)){R:It (List (List ac))}(h:E4 l alike=some R):AN aQ 179 [bW (cR) l,(dR aQ Gt mA (fun(x:(List ac)×(List ac))=>alike x.1 x.2))] (fun(x:(List (List ac)))=>[bW (cR) x]) R:=by
 refine AN.of Tryz.func179 J J J fun w0 S0=>aw<|xd (ht J) J fun b=>zo J (Ec (ht J))<|zo J (aM hV)<|av<|aw<|DI (O1:=[bx dU 32 b l]) (cts:=[tV (aO b 0),bM (rT ((dR aQ Gt mA (fun(x:(List ac)×(List ac))=>alike x.1 x.2)))) ()]) (caps:=[.tmp 2,.tmp 3]) J abI (VQ l alike b) ⟨(ht J),(ht J),aS⟩ J fun v fp=>bq J<|av<|am ?_;cases so h;exact Mv J J

theorem SX(s:(List (List ac))){R:(List (List ac))}(h:ff s=some R):gp aQ 180 [bW (cR) s] false cR 43 R:=by
 refine gp.of Tryz.func180 J J J fun w0 S0=>aw<|bP false cR 43<|zo J (aM ud)<|av<|ah<|aw<|aG J<|ut i9 (ht J) J fun isnil hisnil=>av<|pu (ht J) (fun hc=>?_) (fun hc=>?_)
 ·have hx:=hisnil hc
  have h:some Ig=some R:=by simpa [ff,app,hx] using h
  refine aw<|bP false cR 43<|zo J (aM ud)<|av<|am<|ae ?_;cases so h;exact gC J J
 ·refine dP<|aw<|ky (r:=cR) (ys:=Ig) (xs:=[]) i9 dy J J J J J trivial J fun l c=>aG J<|bB h fun x q_x h=>db dy J J J J i9 J J (ht J) (ht J) q_x fun l1 c1=>bq J<|av<|am ?_;cases so h;exact gC J J
theorem V8(s:(List (List ac))){R:(List (List ac))}(h:ff s=some R):aW aQ 180 [bW (cR) s] (bW (cR) R):=(SX _ h).spec

theorem Wx(l:(List (List ac)))(columns:(List Int)){R:(List iw)×Int}(h:tP l columns=some R):aW aQ 105 [bW (cR) l,mK columns] (tT [bW (fY) R.1,bN R.2]):=by
 refine Md Tryz.func105 J J J fun w0 S0=>aw<|zo J (js J)<|zo J (aM (show aJ _ _ _ (bW (fY) ([]))from kE))<|zo J (cy)<|av<|ah<|aw<|aG J<|zo J (bC ea J J)<|bB h fun r q_r h=>zo J (aB ach (Wb _ _ q_r) ⟨(ht J),(ht J),aS⟩)<|bq J<|av<|aw<|aG J<|zo J (s8 J)<|av ?_;refine c0 h J (fun h=>?_) (fun h=>?_)
 ·refine aw<|aG J<|zo J (aM (show aJ _ _ _ (bW (fY) ([]))from kE))<|bq J<|av<|am<|ae<|ss ?_;cases so h;exact cP J J J
 ·refine dP<|aw<|aG J<|bB h fun r1 q_r1 h=>jd XR (LJ _ q_r1) ⟨(ht J),aS⟩ J fun l1 c=>bq J<|av<|aw<|aG J<|zo J ((show bR _ _ _ _ ((dR aQ Gt xT (fun(x:(List ac)×(List ac))=>(mQ columns) x.1 x.2)))from ig (cts:=[bM od columns]) (caps:=[.tmp 3]) acg ⟨(ht J),aS⟩ (fun x y h=>Wa _ _ _ h)))<|bB h fun rQ q_srt h=>?_;refine Gb (n:=r1.length) xa ?_ Tt ?_ q_srt ?_ ?_ ?_ ?_ ?_
  ·rfl
  ·rfl
  ·exact(ht J)
  ·rfl
  ·exact(ht J)
  ·rfl
  intro hl
  refine pm hl 18 J<|pm hl 7 J<|pm hl 19 J<|av<|aw<|zo J ((show bR _ _ _ _ ((dR aQ Gt mA (fun(x:(List ac)×(List ac))=>(gv columns) x.1 x.2)))from ig (cts:=[bM od columns]) (caps:=[.tmp 3]) acf ⟨(ht J),aS⟩ (fun x y h=>V9 _ _ _ h)))<|bq J<|av<|aw<|bP false fY 154<|aX (x:=aT none 0 0) OC (fun _=>Fg) J fun b=>av<|ah<|aw<|aG J<|aG J<|il<|kJ ?_;refine jM 18 J<|jM 7 J<|jM 19 J<|jM 23 J<|bB h fun it q_it h=>HY ace (SY _ _ q_it) ⟨(lb (ht J)),(ht J),aS⟩ J fun v fp=>av<|ay<|bB h fun s q_s h=>?_;refine Ri (fun(i:Option Nat×Nat×List iw)=>[dW cR 43 l1 c rQ,bx rV 150 b (aT i.1 i.2.1 i.2.2.length),fE fY 154 i.1 i.2.1 i.2.2]) (fun(i:Option Nat×Nat×List iw)=>(i.2.2)) J (ht J) (none,0,([]:List iw)) J q_s (fun _=>J) J (fun i x s2 h lp rec1 _ _ _=>?_) (fun i hi bd=>?_)
  ·obtain⟨l2,c1,xs⟩:=i
   replace h:ku columns x xs=some s2:=h
   refine(show CG _ _ _ [wG lp rec1 .ready,dW cR 43 l1 c rQ,bx rV 150 b (aT l2 c1 xs.length),fE fY 154 l2 c1 xs] _ from ?_);refine Gq (G' :=[(0,bW (cR) l),(1,mK columns),(3,bM od columns),(4,bW (fY) ([])),(5,bN 0),(6,bN r),(7,tO cR l1 c rQ),(8,(dR aQ Gt mA (fun(x:(List ac)×(List ac))=>(gv columns) x.1 x.2))),(9,tV (aO b 0)),(11,bW (cR) l),(12,mK columns),(13,bN r),(14,bN r),(15,iO (r !=(0:Int))),(17,bW (cR) l),(18,tO cR l1 c rQ),(19,tO cR l1 c rQ),(20,(dR aQ Gt xT (fun(x:(List ac)×(List ac))=>(mQ columns) x.1 x.2))),(22,(dR aQ Gt mA (fun(x:(List ac)×(List ac))=>(gv columns) x.1 x.2))),(23,tO cR l1 c rQ),(24,(dR aQ Gt mA (fun(x:(List ac)×(List ac))=>(gv columns) x.1 x.2))),(26,bW (cR) x)]) ?_ ⟨J,J,J,J,J,J,J,J,J,J,J,J,J,J,J,J,J,J,J,J,J,J,aS⟩;refine au<|bq J<|aP<|T5<|ay<|bB h fun e q_e h=>bB h fun r2 q_r2 h=>bB h fun r3 q_r3 h=>?_
   refine qJ 10 (ts:=[sH l2 c1 xs,bW (cR) x,bM cR e,bW (af) e,mK columns,bW (af) r2,bW (cR) x,bW (cR) r3,tD fY (⟨r2,r3⟩:iw),bW (fY) ([(⟨r2,r3⟩:iw)])]) mixed J J J
    ⟨eH 9 J J J (ii OC (.tail _ (.tail _ (.head _))) (ht J)),
    ⟨eH 10 J J J (de J),
    ⟨bZ 28 1 J J J (br i9 dy J (ht J) hI q_e),
    ⟨bZ 29 2 J J J (bC dy J J),
    ⟨eH 3 J J J (bC ea J J),
    ⟨d3 30 3 31 4 J J J J (aB LX (BJ _ _ q_r2) ⟨(ht J),(ht J),aS⟩),
    ⟨eH 10 J J J (de J),
    ⟨bZ 33 6 J J J (aB acd (V8 _ q_r3) ⟨(ht J),aS⟩),
    ⟨d3 32 5 34 7 J J J J (bY (y:=(⟨r2,r3⟩:iw)) Bg Xw EC (⟨_,_,_,_,_,J,MU,J,(ht J),⟨_,_,_,_,_,J,MT,J,(ht J),J⟩⟩)),
    ⟨bZ 35 8 J J J (aU (r:=fY) (ys:=[(⟨r2,r3⟩:iw)]) (xs:=[.tmp 35]) G7 Bg J J J J J ⟨(ht J),aS⟩),
    aS⟩⟩⟩⟩⟩⟩⟩⟩⟩⟩ ?_
   refine kI<|bB h fun l3 q_l3 h=>db Bg J J J J G7 J J (ht J) (ht J) q_l3 fun l4 c2=>kI<|aq OC J an J (ht J) (QK (ht J))<|aP<|ap<|bD<|bD<|cD<|cD ?_;exact My (l4,c2,l3) (so h) J
  ·skip
   obtain⟨l5,c3,xs1⟩:=i
   have hi:xs1=s:=hi
   subst hi
   refine(show AT _ _ _ [BU bd,dW cR 43 l1 c rQ,bx rV 150 b (aT l5 c3 xs1.length),fE fY 154 l5 c3 xs1] _ from ?_);refine cF (G' :=[(0,bW (cR) l),(1,mK columns),(3,bM od columns),(4,bW (fY) ([])),(5,bN 0),(6,bN r),(7,tO cR l1 c rQ),(8,(dR aQ Gt mA (fun(x:(List ac)×(List ac))=>(gv columns) x.1 x.2))),(9,tV (aO b 0)),(11,bW (cR) l),(12,mK columns),(13,bN r),(14,bN r),(15,iO (r !=(0:Int))),(17,bW (cR) l),(18,tO cR l1 c rQ),(19,tO cR l1 c rQ),(20,(dR aQ Gt xT (fun(x:(List ac)×(List ac))=>(mQ columns) x.1 x.2))),(22,(dR aQ Gt mA (fun(x:(List ac)×(List ac))=>(gv columns) x.1 x.2))),(23,tO cR l1 c rQ),(24,(dR aQ Gt mA (fun(x:(List ac)×(List ac))=>(gv columns) x.1 x.2)))]) ?_ ⟨J,J,J,J,J,J,J,J,J,J,J,J,J,J,J,J,J,J,J,J,J,aS⟩;refine ap<|ax<|aw<|zo rfl (ii OC (.tail _ (.tail _ (.head _))) (ht rfl))<|bq rfl<|zo rfl (cy)<|av<|am<|cD<|jQ<|cG 4 rfl<|cG 38 rfl<|jR 4 rfl<|bf<|bD<|bf<|bD<|bf<|Cb<|ss ?_;cases so h;exact cP J J J

theorem aaM(b:Nat)(ix:OI)(r:cZ)(n:aj){R:(List (List ac))×Int}(h:jp r n=some R):dd aQ 54 [tV (aO b 0),tD aF n] (jC b r ix) (fun _:OI=>tT [bW (cR) R.1,bN R.2]) (fun _=>(jC b r ix)):=by
 refine dd.of Tryz.func54 J J J fun w0 S0=>?_;refine(show CG _ _ _ [bx (rH ee [(1,aT (ix.h 0).1 (ix.h 0).2 r.rows.length),(2,aT (ix.h 1).1 (ix.h 1).2 r.width.length)]) 96 b r,dW dU 32 (ix.h 0).1 (ix.h 0).2 r.rows,dW ca 3 (ix.h 1).1 (ix.h 1).2 r.width] _ from ?_);refine aw<|zo J (js J)<|zo J (aM (show aJ _ _ _ wq from kE))<|zo J (cy)<|av<|ah<|bB h fun e q_e h=>bB h fun r1 q_r1 h=>?_
 refine da (ts:=[_,_,_,_,_,_,_,_,_,_,_,_,_,_,_,_]) mixed J J
  ⟨eH 0 J J J (de J),
  ⟨bZ 17 0 J J J (dF (ht J)),
  ⟨bZ 18 1 J J J (jY 1 rj J J J),
  ⟨bZ 19 2 J J J (dl vB J (.head _) (.tail _ (.head _)) (ht J)),
  ⟨eH 3 J J J (c9 jH dS J J),
  ⟨bZ 21 4 J J J (bC cr J J),
  ⟨d3 20 3 22 5 J J J J (br o3 gU J (lb (ht J)) (ht J) q_e),
  ⟨bZ 23 6 J J J (bC gU J J),
  ⟨eH 3 J J J (c9 uh m6 J J),
  ⟨bZ 25 8 J J J (bC ea J J),
  ⟨d3 24 7 26 9 J J J J (aB acG (Wx _ _ q_r1) ⟨(ht J),(ht J),aS⟩),
  ⟨bZ 27 10 J J J (de J),
  ⟨bZ 16 11 J J J (gE J J),
  ⟨bZ 16 11 J J J (gE J J),
  ⟨bZ 28 12 J J J (vx J),
  ⟨bZ 29 13 J J J (vx J),
  aS⟩⟩⟩⟩⟩⟩⟩⟩⟩⟩⟩⟩⟩⟩⟩⟩ ?_
 refine ax<|ah<|aw<|aG rfl<|zo rfl (s8 rfl)<|av<|c0 h rfl (fun h=>?_) (fun h=>?_)
 ·refine aw<|aG J<|zo J (aM (show aJ _ _ _ wq from kE))<|bq J<|av<|am<|ae<|aL<|aL<|aL ?_;cases so h;exact d8 (ts:=[bW (cR) ([]),bN r1.2]) (rvs:=[.tmp 4,.tmp 5]) J J ⟨aZ J,aZ J,aS⟩ p7 J J
 ·refine dP ?_;refine kL (Z:=fun groups=>lW n groups=some R) (Of:=fun groups=>[bx (rH ee [(1,aT (ix.h 0).1 (ix.h 0).2 r.rows.length),(2,aT (ix.h 1).1 (ix.h 1).2 r.width.length)]) 96 b r,dW dU 32 (ix.h 0).1 (ix.h 0).2 r.rows,dW ca 3 (ix.h 1).1 (ix.h 1).2 r.width]) (Gf:=fun groups=>[(3,bM aF n),(6,bW (fY) groups)]) (fun groups h=>?_) (fun K=>?_)
  ·skip
   refine aw<|bP false cR 43<|zo J (aM ud)<|av<|ah<|aw<|aG J<|zo J (i7 G7 J)<|zo J (bE hI)<|av<|ay<|ba (k:=44) J fun hN=>bL ?_;refine aR (j8 (Z:=fun ls i out l c=>(groups.drop i=ls)∧fD n ls out=some R) (Of:=fun _ i out l c=>[fE cR 43 l c out,bx (rH ee [(1,aT (ix.h 0).1 (ix.h 0).2 r.rows.length),(2,aT (ix.h 1).1 (ix.h 1).2 r.width.length)]) 96 b r,dW dU 32 (ix.h 0).1 (ix.h 0).2 r.rows,dW ca 3 (ix.h 1).1 (ix.h 1).2 r.width]) (Gf:=fun _ i out l c=>[(3,bM aF n),(8,sH l c out),(44,bW (fY) groups),(45,jr groups),(46,bN (i:Int))]) (fun i out l c h=>?_) (fun e1 tl ih i out l c h=>?_) groups 0 Ig none 0 ⟨J,h⟩) (bu J)
   ·obtain⟨hx,h⟩:=h
    refine aA<|aw<|zo J (fF J J)<|av<|ah<|bz (ht J) (dm hx)<|bv ?_;refine ai (ai (aN ?_));refine ax<|aw<|aG rfl<|bq rfl<|zo rfl (cy)<|av<|am<|jQ<|cG 8 rfl<|cG 80 rfl<|cG 4 rfl<|jR 4 rfl<|bf<|aL<|aL<|aL ?_;cases so h;exact d8 (ts:=[bW (cR) out,bN 0]) (rvs:=[.tmp 4,.tmp 5]) J J ⟨aZ J,aZ J,aS⟩ p7 J J
   ·obtain⟨hx,h⟩:=h
    refine aA<|aw<|zo J (fF J J)<|av<|ah<|bw (ht J) (dg hx)<|dP<|ah<|ay<|aw<|zo J (mz G7 Bg J J J (cT hx))<|zo J (bC Bg J J)<|aX (r:=fY) (x:=Uc) Bg (fun _=>EC _) J fun b1=>aq Bg J an J (ht J) (ht J)<|aV 10 J<|av<|aw<|zo J (c9 Vb NL J J) ?_;refine zo J (bC dy J J)<|bB h fun r2 q_r2 h=>jd TA (FU _ q_r2) ⟨(ht J),aS⟩ J fun l1 c1=>bq J<|av<|ah<|aw<|zo J (c9 rl oB J J)<|zo J (bC Cl J J)<|zo J (i7 xv J)<|zo J (bE hI)<|av<|ay<|ba (k:=54) J fun hN1=>bL<|lj<|lj<|lj<|nV<|lj ?_;refine aR (j8 (Z:=fun ls1 i1 x l2 c2=>(n.Aggs.drop i1=ls1)∧iT (fD n tl) e1 out ls1 x=some R) (Of:=fun _ i1 x l2 c2=>[fE cR 43 l c out,fE af 46 l2 c2 x,bx (rH ee [(1,aT (ix.h 0).1 (ix.h 0).2 r.rows.length),(2,aT (ix.h 1).1 (ix.h 1).2 r.width.length)]) 96 b r,dW dU 32 (ix.h 0).1 (ix.h 0).2 r.rows,dW ca 3 (ix.h 1).1 (ix.h 1).2 r.width]) (Gf:=fun _ i1 x l2 c2=>[(3,bM aF n),(8,sH l c out),(10,bM fY e1),(11,sH l2 c2 x),(44,bW (fY) groups),(45,jr groups),(46,bN (i:Int)),(54,bW (fG) n.Aggs),(55,jr n.Aggs),(56,bN (i1:Int))]) (fun i1 x l2 c2 h=>?_) (fun e2 tl1 ih1 i1 x l2 c2 h=>?_) n.Aggs 0 r2 l1 c1 ⟨J,h⟩) (bu J)
    ·obtain⟨hx1,h⟩:=h
     refine aA<|aw<|zo J (fF J J)<|av<|ah<|bz (ht J) (dm hx1)<|bv ?_;refine ai (ai (aN ?_));refine ax<|au<|aG rfl<|aG rfl<|bH<|kJ<|jM 11 rfl<|jM 76 rfl<|zo rfl (aU (r:=cR) (ys:=[x]) (xs:=[.tmp 76]) i9 dy J J J J J ⟨(lb (ht J)),aS⟩)<|bH<|bB h fun out1 q_out1 h=>db dy J J J J i9 J J (ht J) (ht J) q_out1 fun l3 c3=>bq J<|aP<|ap<|ax<|au<|zo rfl (lT (cx hx hN) rfl)<|aG rfl<|aP<|bD<|bf ?_;exact bg (aR (ih (i+1) out1 l3 c3 ⟨cw hx,h⟩) (bu J))
    ·obtain⟨hx1,h⟩:=h
     refine aA<|aw<|zo J (fF J J)<|av<|ah<|bw (ht J) (dg hx1)<|dP<|ah<|ay<|aw<|zo J (mz xv uE J J J (cT hx1))<|zo J (bC uE J J)<|aX (r:=fG) (x:=X8) uE (fun _=>ED _) J fun b2=>aq uE J an J (ht J) (ht J)<|aV 13 J<|av<|aw<|zo J (bC uE J J) ?_;refine zo J (c9 Va NK J J)<|zo J (bC gU J J)<|bB h fun r3 q_r3 h=>zo J (aB adj (Y1 _ _ q_r3) ⟨(ht J),(ht J),aS⟩)<|aG J<|zo J (gE J J)<|zo J (gE J J)<|aX (r:=af) (x:=iy) aI (fun _=>bk _) J fun b3=>aq aI J an J (ht J) (ht J)<|aV 14 J<|bq J<|av<|ah<|aw<|aG J<|zo J (s8 J)<|av<|c0 h J (fun h=>?_) (fun h=>?_)
     ·refine aw<|aG J<|zo J (aM (show aJ _ _ _ wq from kE))<|bq J<|av<|am ?_;refine ae (aD (ae (ae (aD (ae (aD (ae (ae (aD (ae ?_))))))))));refine bf<|bf<|aL<|aL<|aL ?_;cases so h;exact d8 (ts:=[bW (cR) ([]),bN r3.2]) (rvs:=[.tmp 4,.tmp 5]) J J ⟨aZ J,aZ J,aS⟩ p7 J J
     ·refine dP<|au<|aG J<|zo J (bC aI J J)<|zo J (aU (r:=af) (ys:=[r3.1]) (xs:=[.tmp 71]) jf aI J J J J J ⟨(ht J),aS⟩)<|bH<|bB h fun x1 q_x1 h=>db aI J J J J jf J J (ht J) (ht J) q_x1 fun l4 c4=>bq J<|aP<|ap<|ax<|au<|zo rfl (lT (cx hx1 hN1) rfl)<|aG rfl<|aP<|fC<|fC<|fC<|cD<|fC ?_;exact bg (aR (ih1 (i1+1) x1 l4 c4 ⟨cw hx1,h⟩) (bu J))
  ·skip
   refine aw<|zo J (c9 uh m6 J J)<|zo J (bC ea J J)<|zo J (i7 hX J)<|zo J (nX J)<|aG J<|dN J J (fun hg=>de J)<|dN J J (fun hg=>cC G7 (bG J hg))<|dN J J (fun hg=>dx (bG J hg) hI)<|zo J (vn J J)<|av<|c0 h J (fun h=>?_) (fun h=>?_)
   ·refine au<|zo J (bY (y:=Uc) Bg Xw EC (J))<|zo J (aU (r:=fY) (ys:=[Uc]) (xs:=[.tmp 42]) G7 Bg J J J J J ⟨(ht J),aS⟩)<|bq J<|aP ?_;exact cF (K ([Uc]) h) (bu J)
   ·refine bA ?_;exact cF (K r1.1 h) (bu J)

end Go.Proofs.YtfhhakidodmdfaaGreatDoor

