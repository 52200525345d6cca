/- co of this claim: P21. -/
import Derived.Test.YtmogpgcfognefaaGreatDoorNeT
import Derived.Test.YtmogpgcfognefaaGreatDoorNeP20
set_option linter.all false
namespace Go.Proofs.YtmogpgcfognefaaGreatDoor
open Go
set_option maxRecDepth 100000

theorem Ts(n:Int){R:M}(h:Dz n=some R):aN aM 65 [bH n] (tD af R):=by
 refine aN.of Tryz.func65 J J J fun w0 S0=>aq<|aO (r:=af) (x:=lb) bt (fun _=>ca _) J fun b=>an<|aq<|aA J<|zo J (cb (y:=(⟨(2:Int),n,(0:Int),[]⟩:M)) bt wY ca (⟨_,_,_,_,_,J,oD,J,hI,⟨_,_,_,_,_,J,qL,J,(ht J),J⟩⟩))<|ay bt J ap J (ht J) (ht J)<|aL 2 J<|an<|aj ?_;cases so h;exact eE J bt J J J

theorem TC(n:Int){R:bf}(h:zc n=some R):aN aM 29 [bH n] (tD bn R):=by
 refine aN.of Tryz.func29 J J J fun w0 S0=>aq<|aO (r:=bn) (x:=nH) gj (fun _=>nJ _) J fun b=>an<|aq<|aA J<|bF h fun r q_r h=>zo J (aD Yg (Ts _ q_r) ⟨(ht J),aU⟩)<|zo J (cb (y:=(⟨(1:Int),(0:Int),(0:Int),(0:Int),r⟩:bc)) cY RB k8 (⟨_,_,_,_,_,J,Bw,J,hI,⟨_,_,_,_,_,J,HN,J,(ht J),J⟩⟩))<|bF h fun r1 q_r1 h=>zo J (aD Vh (M8 _ _ q_r1) ⟨(ht J),uf,aU⟩)<|ay gj J ap J (ht J) (ht J)<|aL 2 J<|an<|aj ?_;cases so h;exact eE J gj J J J

theorem Iy(n:Int){R:M}(h:qn n=some R):aN aM 30 [bH n] (tD af R):=by
 refine aN.of Tryz.func30 J J J fun w0 S0=>aq<|aO (r:=af) (x:=lb) bt (fun _=>ca _) J fun b=>an<|aq<|aA J<|zo J (cb (y:=(⟨(2:Int),n,(0:Int),[]⟩:M)) bt wY ca (⟨_,_,_,_,_,J,oD,J,hI,⟨_,_,_,_,_,J,qL,J,(ht J),J⟩⟩))<|ay bt J ap J (ht J) (ht J)<|aL 2 J<|an<|aj ?_;cases so h;exact eE J bt J J J

theorem PM(do1:(M→M→Option (M×Int)))(a1:M)(b:M){R:M×Int}(h:j3 do1 a1 b=some R):aN aM 185 [tD af a1,tD af b,bq (rT ((dJ aM qC qB (fun(x:M×M)=>do1 x.1 x.2)))) ()] (tT [tD af R.1,bH R.2]):=by
 refine aN.of Tryz.func185 J J J fun w0 S0=>aq<|zo J (jh J)<|zo J (jh J)<|aO (r:=af) (x:=lb) bt (fun _=>ca _) J fun b1=>zo J (cQ)<|an<|aq<|zo J (q5 Rj (ht J))<|zo J (bz bt J J)<|zo J (bz bt J J)<|bF h fun r q_r h=>zo J (ej (args:=qC) (res:=Ax) (f:=(fun(x:M×M)=>do1 x.1 x.2)) (x:=((b,a1):M×M)) (ht J) q_r ⟨(ht J),(ht J),aU⟩)<|zo J (hY J J)<|zo J (hY J J)<|ay bt J ap J (ht J) (ht J)<|aL 5 J<|bk J<|an<|aj ?_;cases so h;exact dE J J ⟨cC bt J J J,dY J,aU⟩

theorem Qv(do1:(M→M→Option (M×Int))){R:(M→M→Option (M×Int))}(h:Aa do1=some R):aN aM 119 [(dJ aM qC qB (fun(x:M×M)=>do1 x.1 x.2))] ((dJ aM qC qB (fun(x:M×M)=>R x.1 x.2))):=by
 refine aN.of Tryz.func119 J J J fun w0 S0=>aq<|zo J (xQ (ht J))<|zo J (bm hV)<|an<|aq<|zo J ((show bS _ _ _ _ ((dJ aM qC qB (fun(x:M×M)=>(j3 do1) x.1 x.2)))from eJ (cts:=[bq (rT ((dJ aM qC qB (fun(x:M×M)=>do1 x.1 x.2)))) ()]) (caps:=[.tmp 1]) V8 ⟨(ht J),aU⟩ (fun x y h=>PM _ _ _ h)))<|bk J<|an<|aj ?_;cases so h;exact aB J J

theorem JC(b:Bool){R:M}(h:qH b=some R):aN aM 192 [gK b] (tD af R):=by
 refine aN.of Tryz.func192 J J J fun w0 S0=>aq<|aO (r:=af) (x:=lb) bt (fun _=>ca _) J fun b1=>an<|aq<|zo J (cb (y:=L8) bt wY ca (⟨_,_,_,_,_,J,oD,J,hI,J⟩))<|aO (r:=af) (x:=lb) bt (fun _=>ca _) J fun b2=>ay bt J ap J (ht J) (ht J)<|an ?_;refine fD (Z:=fun v=>rU v=some R) (Of:=fun v=>[bx af 82 b1 lb,bx af 82 b2 v]) (Gf:=fun v=>[(2,tV (aI b1 0)),(3,tV (aI b2 0))]) (fun v h=>?_) (fun K=>?_)
 ·skip
  refine aq<|zo J (br bt J J cF (.tail _ (.head _)) (ht J))<|ay bt J ap J (ht J) (ht J)<|aL 2 J<|an<|aj<|ba ?_;cases so h;exact eE J bt J J J
 ·skip
  refine aq<|aA J<|an<|cX h J (fun h=>?_) (fun h=>?_)
  ·refine ai<|zo J (fI 1 re J J J)<|ay Ky J qL J (ht J) hI<|aH<|aX ?_;exact bL (K (M.mk L8.Kind (1:Int) L8.U L8.S) h) (aZ J)
  ·refine bA<|aX ?_;exact bL (K L8 h) (aZ J)

theorem Jx(l:(List M)){R:Int}(h:nm l=some R):aN aM 245 [d7 (af) l] (bH R):=by
 refine aN.of Tryz.func245 J J J fun w0 S0=>aq<|zo J (cQ)<|an<|ae<|aq<|aA J<|zo J (ja pX J)<|zo J (bl hI)<|an<|ax<|aV (k:=6) J fun hN=>bB ?_;refine aJ (d6 (Z:=fun ls i=>(l.drop i=ls)∧io ls=some R) (Of:=fun _ i=>[]) (Gf:=fun _ i=>[(6,d7 (af) l),(7,hM l),(8,bH (i:Int))]) (fun i h=>?_) (fun e tl ih i h=>?_) l 0 ⟨J,h⟩) (aZ J)
 ·obtain⟨hx,h⟩:=h
  refine av<|aq<|zo J (eK J J)<|an<|ae<|bp (ht J) (cW hx)<|bg ?_;refine ac (ac (aF ?_));refine au<|aq<|zo rfl (cQ)<|an<|aj ?_;cases so h;exact aB J J
 ·obtain⟨hx,h⟩:=h
  refine av<|aq<|zo J (eK J J)<|an<|ae<|bo (ht J) (cU hx)<|dA<|ae<|ax<|aq<|zo J (iX pX bt J J J (cP hx))<|zo J (bz bt J J)<|aO (r:=af) (x:=lb) bt (fun _=>ca _) J fun b=>ay bt J ap J (ht J) (ht J)<|aL 4 J<|an<|aq<|zo J (bz bt J J) ?_;refine bF h fun r q_r h=>zo J (aD JZ (A8 _ q_r) ⟨(ht J),aU⟩)<|bk J<|an<|aq<|aA J<|zo J (rn J)<|an<|cX h J (fun h=>?_) (fun h=>?_)
  ·refine aq<|aA J<|bk J<|an<|aj ?_;refine aC (aa (aa (aC (aa ?_))));cases so h;exact aB J J
  ·refine bA<|am<|au<|ai<|zo rfl (jU (cz hx hN) rfl)<|aA rfl<|aH ?_;exact aT (aJ (ih (i+1) ⟨cy hx,h⟩) (aZ J))

theorem Jw{R:M}(h:qF=some R):aN aM 246 [] (tD af R):=by
 refine aN.of Tryz.func246 J J J fun w0 S0=>aq<|aO (r:=af) (x:=lb) bt (fun _=>ca _) J fun b=>an<|aq<|zo J (cb (y:=lb) bt wY ca (J))<|ay bt J ap J (ht J) (ht J)<|aL 0 J<|an<|aj ?_;cases so h;exact eE J bt J J J

theorem O7(vals:(List Int)){R:Int}(h:xc vals=some R):aN aM 273 [kz vals] (bH R):=by
 refine aN.of Tryz.func273 J J J fun w0 S0=>aq<|zo J (cQ)<|an<|aq<|zo J (cQ)<|an<|ae<|aq<|aA J<|zo J (ja dm J)<|zo J (bl hI)<|an<|ax<|aV (k:=6) J fun hN=>bB ?_;refine aJ (d6 (Z:=fun ls i=>(vals.drop i=ls)∧j4 ls=some R) (Of:=fun _ i=>[]) (Gf:=fun _ i=>[(3,bH 0),(6,kz vals),(7,hM vals),(8,bH (i:Int))]) (fun i h=>?_) (fun e tl ih i h=>?_) vals 0 ⟨J,h⟩) (aZ J)
 ·obtain⟨hx,h⟩:=h
  refine av<|aq<|zo J (eK J J)<|an<|ae<|bp (ht J) (cW hx)<|bg ?_;refine ac (ac (aF ?_));refine au<|aq<|aA rfl<|bk rfl<|an<|aj ?_;cases so h;exact aB J J
 ·obtain⟨hx,h⟩:=h
  refine av<|aq<|zo J (eK J J)<|an<|ae<|bo (ht J) (cU hx)<|dA<|ae<|ax<|aq<|zo J (iX dm bJ J J J (cP hx))<|zo J (bz bJ J J)<|bk J<|an<|aq<|aA J<|aA J<|zo J (dg (ht J) (ht J)) ?_;refine an<|cX h J (fun h=>?_) (fun h=>?_)
  ·refine aq<|aA J<|bk J<|an<|aj ?_;refine aC (aa (aa (aC (aa ?_))));cases so h;exact aB J J
  ·refine bA<|am<|au<|ai<|zo rfl (jU (cz hx hN) rfl)<|aA rfl<|aH ?_;exact aT (aJ (ih (i+1) ⟨cy hx,h⟩) (aZ J))

theorem Jv(p:Int){R:Bool}(h:pj p=some R):aN aM 272 [bH p] (gK R):=by
 refine aN.of Tryz.func272 J J J fun w0 S0=>aq<|zo J (fJ)<|an<|aq<|aA J<|aA J<|zo J (dg (ht J) (ht J))<|bk J<|an<|aj ?_;cases so h;exact aB J J

theorem O6(p:Int)(y:Int){R:Int}(h:pN p y=some R):aN aM 274 [bH p,bH y] (bH R):=by
 refine aN.of Tryz.func274 J J J fun w0 S0=>aq<|zo J (cQ)<|an<|aq<|aA J<|bF h fun r q_r h=>zo J (aD RH (Jv _ q_r) ⟨(ht J),aU⟩)<|bk J<|an<|aq<|aA J<|bF h fun r1 q_r1 h=>zo J (aD RH (Jv _ q_r1) ⟨(ht J),aU⟩)<|bk J<|an<|ae<|ae ?_;refine ai<|aA J<|an<|cX h J (fun h=>?_) (fun h=>?_)
 ·refine ae<|aq<|aA J<|an<|cX h J (fun h=>?_) (fun h=>?_)
  ·refine aq<|zo J (cQ)<|an<|aj ?_;refine aa (aa ?_);cases so h;exact aB J J
  ·refine dA<|aq<|zo J (cQ)<|an<|aj<|aa ?_;cases so h;exact aB J J
 ·refine dA<|ae<|aq<|aA J<|an<|cX h J (fun h=>?_) (fun h=>?_)
  ·refine aq<|zo J (cQ)<|an<|aj<|aa ?_;cases so h;exact aB J J
  ·refine dA<|ae<|aq<|aA J<|aA J<|zo J (eK J J)<|an<|cX h J (fun h=>?_) (fun h=>?_)
   ·refine aq<|zo J (cQ)<|an<|aj<|aa ?_;cases so h;exact aB J J
   ·refine dA<|ae<|aq<|aA J<|aA J<|zo J (gx (ht J) (ht J))<|an<|cX h J (fun h=>?_) (fun h=>?_)
    ·refine aq<|zo J (cQ)<|an<|aj<|aa ?_;cases so h;exact aB J J
    ·refine dA<|aq<|zo J (cQ)<|an<|aj ?_;cases so h;exact aB J J

theorem Ju(p:Int){R:Bool}(h:m6 p=some R):aN aM 289 [bH p] (gK R):=by
 refine aN.of Tryz.func289 J J J fun w0 S0=>aq<|zo J (fJ)<|an<|aq<|aA J<|aA J<|zo J (dg (ht J) (ht J))<|bk J<|an<|aj ?_;cases so h;exact aB J J

theorem O5(p:Int)(y:Int){R:Int}(h:n7 p y=some R):aN aM 275 [bH p,bH y] (bH R):=by
 refine aN.of Tryz.func275 J J J fun w0 S0=>aq<|zo J (cQ)<|an<|aq<|aA J<|bF h fun r q_r h=>zo J (aD RF (Ju _ q_r) ⟨(ht J),aU⟩)<|bk J<|an<|aq<|aA J<|bF h fun r1 q_r1 h=>zo J (aD RF (Ju _ q_r1) ⟨(ht J),aU⟩)<|bk J<|an<|ae<|ae ?_;refine ai<|aA J<|an<|cX h J (fun h=>?_) (fun h=>?_)
 ·refine ae<|aq<|aA J<|an<|cX h J (fun h=>?_) (fun h=>?_)
  ·refine aq<|zo J (cQ)<|an<|aj ?_;refine aa (aa ?_);cases so h;exact aB J J
  ·refine dA<|aq<|zo J (cQ)<|an<|aj<|aa ?_;cases so h;exact aB J J
 ·refine dA<|ae<|aq<|aA J<|an<|cX h J (fun h=>?_) (fun h=>?_)
  ·refine aq<|zo J (cQ)<|an<|aj<|aa ?_;cases so h;exact aB J J
  ·refine dA<|ae<|aq<|aA J<|aA J<|zo J (eK J J)<|an<|cX h J (fun h=>?_) (fun h=>?_)
   ·refine aq<|zo J (cQ)<|an<|aj<|aa ?_;cases so h;exact aB J J
   ·refine dA<|ae<|aq<|aA J<|aA J<|zo J (gx (ht J) (ht J))<|an<|cX h J (fun h=>?_) (fun h=>?_)
    ·refine aq<|zo J (cQ)<|an<|aj<|aa ?_;cases so h;exact aB J J
    ·refine dA<|aq<|zo J (cQ)<|an<|aj ?_;cases so h;exact aB J J

theorem OY(a1:im)(b:im){R:Int}(h:gW a1 b=some R):aN aM 290 [tD rS a1,tD rS b] (bH R):=by
 refine aN.of Tryz.func290 J J J fun w0 S0=>aq<|zo J (cQ)<|an<|aq<|aA J<|aA J<|zo J (OD Tryz.func298 (by kernel_rfl) (by kernel_rfl) (by kernel_rfl) (by kernel_rfl) (ht J) (ht J))<|bk J<|an<|aj ?_;cases so h;exact aB J J

theorem O4(a1:im)(b:im){R:Int}(h:pE a1 b=some R):aN aM 276 [tD rS a1,tD rS b] (bH R):=by
 refine aN.of Tryz.func276 J J J fun w0 S0=>aq<|zo J (cQ)<|an<|aq<|aA J<|aA J<|bF h fun r q_r h=>zo J (aD Vk (OY _ _ q_r) ⟨(ht J),(ht J),aU⟩)<|bk J<|an<|aj ?_;cases so h;exact aB J J

theorem Pg(a1:M)(b:M){R:Int}(h:lq a1 b=some R):aN aM 247 [tD af a1,tD af b] (bH R):=by
 refine aN.of Tryz.func247 J J J fun w0 S0=>aq<|zo J (jh J)<|zo J (jh J)<|zo J (cQ)<|an<|ae<|aq<|zo J (bz bt J J)<|bF h fun r q_r h=>zo J (aD QU (Fh _ q_r) ⟨(ht J),aU⟩)<|zo J (dH (ht J))<|aA J<|bF h fun t q_t h=>cN J J (fun hg=>bz bt J J) ?_
 obtain⟨r1,h1t,h0t⟩:=og q_t
 have q_r1g:=fun hb=>(h1t hb).1
 refine cN J J (fun hg=>aD QU (Fh _ (q_r1g hg)) ⟨(aS J hg),aU⟩)<|cN J J (fun hg=>dH (aS J hg))<|zo J (fi (ht J) (fun hb=>(aS J (oL hb))) (fun hb=>(h1t hb).2) h0t)<|an<|cX h J (fun h=>?_) (fun h=>?_)
 ·refine aq<|zo J (cQ)<|an<|aj<|aa ?_;cases so h;exact aB J J
 ·refine dA<|ae<|bF h fun r2 q_r2 h=>bF h fun r3 q_r3 h=>bF h fun r4 q_r4 h=>bF h fun r5 q_r5 h=>?_
  refine eG (ts:=[_,_,_,_,_,_,_,_,_,_,_,_,_,_,_,_,_,_]) mixed J J
   ⟨ia 2 J J J (cd jC ee J J),
   ⟨cO 13 0 J J J (bz bJ J J),
   ⟨ia 3 J J J (cd jC ee J J),
   ⟨cO 15 2 J J J (bz bJ J J),
   ⟨ft 14 1 16 3 J J J J (aD Vp (O6 _ _ q_r2) ⟨(ht J),(ht J),aU⟩),
   ⟨ia 2 J J J (cd re kP J J),
   ⟨cO 18 5 J J J (bz Ky J J),
   ⟨ia 3 J J J (cd re kP J J),
   ⟨cO 20 7 J J J (bz Ky J J),
   ⟨ft 19 6 21 8 J J J J (aD Vo (O5 _ _ q_r3) ⟨(ht J),(ht J),aU⟩),
   ⟨ia 2 J J J (cd zh oO J J),
   ⟨cO 23 10 J J J (bz ED J J),
   ⟨ia 3 J J J (cd zh oO J J),
   ⟨cO 25 12 J J J (bz ED J J),
   ⟨ft 24 11 26 13 J J J J (aD Vn (O4 _ _ q_r4) ⟨(ht J),(ht J),aU⟩),
   ⟨Rg 17 4 22 9 27 14 J J J J J (aP (r:=bQ) (ys:=[r2,r3,r4]) (xs:=[.tmp 17,.tmp 22,.tmp 27]) dm bJ J J J J J ⟨(ht J),(ht J),(ht J),aU⟩),
   ⟨cO 28 15 J J J (aD Vq (O7 _ q_r5) ⟨(ht J),aU⟩),
   ⟨cO 29 16 J J J (zM J),
   aU⟩⟩⟩⟩⟩⟩⟩⟩⟩⟩⟩⟩⟩⟩⟩⟩⟩⟩ ?_
  refine au<|aj ?_;cases so h;exact aB J J

theorem JD(a1:M)(b:M)(is1:(Int→Option Bool)){R:M×Int}(h:oz a1 b is1=some R):aN aM 186 [tD af a1,tD af b,(dJ aM Au mr (fun(x:Int)=>is1 x))] (tT [tD af R.1,bH R.2]):=by
 refine aN.of Tryz.func186 J J J fun w0 S0=>aq<|zo J (jh J)<|zo J (jh J)<|aO (r:=af) (x:=lb) bt (fun _=>ca _) J fun b1=>zo J (cQ)<|an<|ae<|aq<|zo J (bz bt J J)<|zo J (bz bt J J)<|zo J (aP (r:=af) (ys:=[a1,b]) (xs:=[.tmp 10,.tmp 11]) pX bt J J J J J ⟨(ht J),(ht J),aU⟩)<|bF h fun r q_r h=>zo J (aD RJ (Jx _ q_r) ⟨(ht J),aU⟩)<|bk J<|an<|aq<|aA J<|zo J (rn J) ?_;refine an<|cX h J (fun h=>?_) (fun h=>?_)
 ·refine aq<|zo J (cb (y:=lb) bt wY ca (J))<|aA J<|ay bt J ap J (ht J) (ht J)<|bk J<|an<|aj<|aa<|bR 6 J ?_;cases so h;exact dE J J ⟨cC bt J J J,dY J,aU⟩
 ·refine dA<|aq<|zo J (cd jC ee J J)<|zo J (bz bJ J J)<|zo J (jy J)<|aA J<|cN J J (fun hg=>cd jC ee J J)<|cN J J (fun hg=>aY bJ J J (aS J hg))<|cN J J (fun hg=>bK (aS J hg) hI)<|zo J (pZ J J)<|bk J<|an<|ae<|ax<|aq<|zo J (cd jC ee J J)<|zo J (bz bJ J J)<|zo J (jy J)<|aA J<|cN J J (fun hg=>cd jC ee J J) ?_;refine cN J J (fun hg=>aY bJ J J (aS J hg))<|cN J J (fun hg=>bK (aS J hg) hI)<|zo J (pZ J J)<|aA J<|cN J J (fun hg=>cL J)<|cN J J (fun hg=>dH (aS J hg))<|cN J J (fun hg=>bl (aS J hg))<|fk J J J J (fun hg=>cd jC ee J J)<|fk J J J J (fun hg=>aY bJ J J (aS J hg))<|fk J J J J (fun hg=>cd jC ee J J)<|fk J J J J (fun hg=>aY bJ J J (aS J hg))<|fk J J J J (fun hg=>dg (aS J hg) (aS J hg))<|cN J J (fun hg=>mf (aS J hg) (fun hb=>(aS J (sK hg hb))))<|zo J (pZ J J)<|bk J<|an<|cX h J (fun h=>?_) (fun h=>?_)
  ·refine aq<|zo J (cb (y:=lb) bt wY ca (J))<|ay bt J ap J (ht J) (ht J)<|zo J (cQ)<|an<|aj ?_;refine aC (aa ?_);refine bR 6 J ?_;cases so h;exact dE J J ⟨cC bt J J J,dY J,aU⟩
  ·refine aq<|aA J<|bk J<|an<|cX h J (fun h=>?_) (fun h=>?_)
   ·refine aq<|bF h fun r1 q_r1 h=>zo J (aD RI (Jw q_r1) trivial)<|ay bt J ap J (ht J) (ht J)<|zo J (cQ)<|an<|aj ?_;refine aC (aa ?_);refine bR 6 J ?_;cases so h;exact dE J J ⟨cC bt J J J,dY J,aU⟩
   ·refine bA<|am<|au<|aq<|aA rfl<|zo rfl (bz bt rfl rfl)<|zo rfl (bz bt rfl rfl)<|bF h fun r2 q_r2 h=>zo J (aD VB (Pg _ _ q_r2) ⟨(ht J),(ht J),aU⟩)<|bF h fun r3 q_r3 h=>zo J (ej (args:=Sc) (res:=Av) (f:=(fun(x:Int)=>is1 x)) (x:=((r2):Int)) (ht J) q_r3 ⟨(ht J),aU⟩)<|bF h fun r4 q_r4 h=>zo J (aD RO (JC _ q_r4) ⟨(ht J),aU⟩)<|ay bt J ap J (ht J) (ht J)<|zo J (cQ)<|an<|aj<|bR 6 J ?_;cases so h;exact dE J J ⟨cC bt J J J,dY J,aU⟩

theorem PL(c:Int){R:Bool}(h:xw c=some R):aN aM 187 [bH c] (gK R):=by
 refine aN.of Tryz.func187 J J J fun w0 S0=>aq<|zo J (fJ)<|an<|aq<|aA J<|zo J (dI (ht J) hI)<|bk J<|an<|aj ?_;cases so h;exact aB J J

theorem Fm(a1:M)(b:M){R:M×Int}(h:lY a1 b=some R):aN aM 120 [tD af a1,tD af b] (tT [tD af R.1,bH R.2]):=by
 refine aN.of Tryz.func120 J J J fun w0 S0=>aq<|zo J (jh J)<|zo J (jh J)<|aO (r:=af) (x:=lb) bt (fun _=>ca _) J fun b1=>zo J (cQ)<|an<|aq<|zo J (bz bt J J)<|zo J (bz bt J J)<|bF h fun r q_r h=>zo J (aD RP (JD _ _ _ q_r) ⟨(ht J),(ht J),(sj V7 fun x y h=>PL _ h),aU⟩)<|zo J (hY J J)<|zo J (hY J J)<|ay bt J ap J (ht J) (ht J)<|aL 4 J<|bk J<|an<|aj ?_;cases so h;exact dE J J ⟨cC bt J J J,dY J,aU⟩

theorem PK(do1:(M→Option (M×Int)))(a1:M)(x:M){R:M×Int}(h:kQ do1 a1 x=some R):aN aM 188 [tD af a1,tD af x,bq (rT ((dJ aM Ew qB (fun(x:M)=>do1 x)))) ()] (tT [tD af R.1,bH R.2]):=by
 refine aN.of Tryz.func188 J J J fun w0 S0=>aq<|zo J (jh J)<|zo J (jh J)<|aO (r:=af) (x:=lb) bt (fun _=>ca _) J fun b=>zo J (cQ)<|an<|aq<|zo J (q5 Up (ht J))<|zo J (bz bt J J)<|bF h fun r q_r h=>zo J (ej (args:=Ew) (res:=Ax) (f:=(fun(x:M)=>do1 x)) (x:=((a1):M)) (ht J) q_r ⟨(ht J),aU⟩)<|zo J (hY J J)<|zo J (hY J J)<|ay bt J ap J (ht J) (ht J)<|aL 5 J<|bk J<|an<|aj ?_;cases so h;exact dE J J ⟨cC bt J J J,dY J,aU⟩

theorem JO(do1:(M→Option (M×Int))){R:(M→M→Option (M×Int))}(h:xa do1=some R):aN aM 121 [(dJ aM Ew qB (fun(x:M)=>do1 x))] ((dJ aM qC qB (fun(x:M×M)=>R x.1 x.2))):=by
 refine aN.of Tryz.func121 J J J fun w0 S0=>aq<|zo J (xQ (ht J))<|zo J (bm hV)<|an<|aq<|zo J ((show bS _ _ _ _ ((dJ aM qC qB (fun(x:M×M)=>(kQ do1) x.1 x.2)))from eJ (cts:=[bq (rT ((dJ aM Ew qB (fun(x:M)=>do1 x)))) ()]) (caps:=[.tmp 1]) V6 ⟨(ht J),aU⟩ (fun x y h=>PK _ _ _ h)))<|bk J<|an<|aj ?_;cases so h;exact aB J J

theorem Pe(kind:Int)(l:(List M)){R:Int}(h:zu kind l=some R):aN aM 249 [bH kind,d7 (af) l] (bH R):=by
 refine aN.of Tryz.func249 J J J fun w0 S0=>aq<|zo J (cQ)<|an<|aq<|zo J (cQ)<|an<|ae<|aq<|aA J<|zo J (ja pX J)<|zo J (bl hI)<|an<|ax<|aV (k:=8) J fun hN=>bB ?_;refine aJ (ln (Z:=fun ls i e=>(l.drop i=ls)∧kX kind ls e=some R) (Of:=fun _ i e=>[]) (Gf:=fun _ i e=>[(0,bH kind),(5,bH e),(8,d7 (af) l),(9,hM l),(10,bH (i:Int))]) (fun i e h=>?_) (fun e1 tl ih i e h=>?_) l 0 (0:Int) ⟨J,h⟩) (aZ J)
 ·obtain⟨hx,h⟩:=h
  refine av<|aq<|zo J (eK J J)<|an<|ae<|bp (ht J) (cW hx)<|bg ?_;refine ac (ac (aF ?_));refine au<|aq<|aA rfl<|bk rfl<|an<|aj ?_;cases so h;exact aB J J
 ·obtain⟨hx,h⟩:=h
  refine av<|aq<|zo J (eK J J)<|an<|ae<|bo (ht J) (cU hx)<|dA<|ae<|ax<|aq<|zo J (iX pX bt J J J (cP hx))<|zo J (bz bt J J)<|aO (r:=af) (x:=lb) bt (fun _=>ca _) J fun b=>ay bt J ap J (ht J) (ht J)<|aL 7 J<|an<|ae<|aq ?_;refine zo J (bz bt J J)<|bF h fun r q_r h=>zo J (aD JZ (A8 _ q_r) ⟨(ht J),aU⟩)<|zo J (rn J)<|an<|cX h J (fun h=>?_) (fun h=>?_)
  ·refine aq<|zo J (cQ)<|an<|aj ?_;refine aa (aC (aa (aa (aC (aa ?_)))));cases so h;exact aB J J
  ·refine dA<|aq<|zo J (cd jC ee J J)<|zo J (bz bJ J J)<|zo J (rn J)<|aA J<|bO J J (fun hg=>cd jC ee J J)<|bO J J (fun hg=>aY bJ J J (aS J hg))<|bO J J (fun hg=>cL J)<|bO J J (fun hg=>dg (aS J hg) (aS J hg))<|zo J (la J J)<|an<|cX h J (fun h=>?_) (fun h=>?_)
   ·refine ai<|zo J (cQ)<|aH<|am<|au<|ai<|zo rfl (jU (cz hx hN) rfl)<|aA rfl<|aH ?_;exact aT (aJ (ih (i+1) (2:Int) ⟨cy hx,h⟩) (aZ J))
   ·refine bA<|am<|au<|ai<|zo rfl (jU (cz hx hN) rfl)<|aA rfl<|aH ?_;exact aT (aJ (ih (i+1) e ⟨cy hx,h⟩) (aZ J))

theorem A4(a1:M)(b:M)(to1:(Int→Int→Option (Int×Bool))){R:M×Int}(h:pz a1 b to1=some R):aN aM 193 [tD af a1,tD af b,(dJ aM Sj (fun(x:Int×Bool)=>tT [bH x.1,gK x.2]) (fun(x:Int×Int)=>to1 x.1 x.2))] (tT [tD af R.1,bH R.2]):=by
 refine aN.of Tryz.func193 J J J fun w0 S0=>aq<|zo J (jh J)<|zo J (jh J)<|aO (r:=af) (x:=lb) bt (fun _=>ca _) J fun b1=>zo J (cQ)<|an<|ae<|aq<|zo J (bz bt J J)<|zo J (bz bt J J)<|zo J (aP (r:=af) (ys:=[a1,b]) (xs:=[.tmp 11,.tmp 12]) pX bt J J J J J ⟨(ht J),(ht J),aU⟩)<|bF h fun r q_r h=>zo J (aD Vz (Pe _ _ q_r) ⟨hI,(ht J),aU⟩)<|bk J<|an<|aq<|aA J<|zo J (rn J) ?_;refine an<|cX h J (fun h=>?_) (fun h=>?_)
 ·refine aq<|zo J (cb (y:=lb) bt wY ca (J))<|aA J<|ay bt J ap J (ht J) (ht J)<|bk J<|an<|aj<|aa<|bR 6 J ?_;cases so h;exact dE J J ⟨cC bt J J J,dY J,aU⟩
 ·refine dA<|ae<|aq<|zo J (cd jC ee J J)<|zo J (bz bJ J J)<|zo J (jy J)<|aA J<|cN J J (fun hg=>cd jC ee J J)<|cN J J (fun hg=>aY bJ J J (aS J hg))<|cN J J (fun hg=>bK (aS J hg) hI)<|zo J (pZ J J)<|an<|cX h J (fun h=>?_) (fun h=>?_)
  ·refine aq<|bF h fun r1 q_r1 h=>zo J (aD RI (Jw q_r1) trivial)<|ay bt J ap J (ht J) (ht J)<|zo J (cQ)<|an<|aj<|aa<|bR 6 J ?_;cases so h;exact dE J J ⟨cC bt J J J,dY J,aU⟩
  ·refine dA<|aq<|aA J<|zo J (cd re kP J J)<|zo J (bz Ky J J)<|zo J (cd re kP J J)<|zo J (bz Ky J J)<|bF h fun r2 q_r2 h=>zo J (ej (args:=(fun(x:Int×Int)=>[tD bQ x.1,tD bQ x.2])) (res:=(fun(x:Int×Bool)=>tT [tD bQ x.1,tD rB x.2])) (f:=(fun(x:Int×Int)=>to1 x.1 x.2)) (x:=((a1.N,b.N):Int×Int)) (ht J) q_r2 ⟨(ht J),(ht J),aU⟩)<|aA J<|zo J (hY J J)<|zo J (hY J J)<|bk J<|bk J<|an<|ae<|aq<|aA J<|zo J (dH (ht J))<|aH ?_;refine au<|cX h rfl (fun h=>?_) (fun h=>?_)
   ·refine aq<|zo J (cb (y:=lb) bt wY ca (J))<|ay bt J ap J (ht J) (ht J)<|zo J (cQ)<|an<|aj<|aa<|bR 6 J ?_;cases so h;exact dE J J ⟨cC bt J J J,dY J,aU⟩
   ·refine dA<|aq<|aA J<|bF h fun r3 q_r3 h=>zo J (aD TW (Iy _ q_r3) ⟨(ht J),aU⟩)<|ay bt J ap J (ht J) (ht J)<|zo J (cQ)<|an<|aj<|bR 6 J ?_;cases so h;exact dE J J ⟨cC bt J J J,dY J,aU⟩

theorem PG(a1:Int)(b:Int){R:Int×Bool}(h:nB a1 b=some R):aN aM 195 [bH a1,bH b] (tT [bH R.1,gK R.2]):=by
 refine aN.of Tryz.func195 J J J fun w0 S0=>aq<|zo J (cQ)<|zo J (fJ)<|an<|aq<|aA J<|aA J<|zo J (fK (ht J) (ht J))<|bk J<|an<|aq<|aA J<|aA J<|aA J<|zo J (uV (ht J) (ht J))<|aA J<|aA J<|zo J (uV (ht J) (ht J)) ?_;refine zo J (y9 (ht J) (ht J))<|zo J (dQ (ht J) hI)<|bk J<|bk J<|an<|aj ?_;cases so h;exact d5 J J J

theorem JL(a1:M)(b:M){R:M×Int}(h:sJ a1 b=some R):aN aM 126 [tD af a1,tD af b] (tT [tD af R.1,bH R.2]):=by
 refine aN.of Tryz.func126 J J J fun w0 S0=>aq<|zo J (jh J)<|zo J (jh J)<|aO (r:=af) (x:=lb) bt (fun _=>ca _) J fun b1=>zo J (cQ)<|an<|aq<|zo J (bz bt J J)<|zo J (bz bt J J)<|bF h fun r q_r h=>zo J (aD JV (A4 _ _ _ q_r) ⟨(ht J),(ht J),(sj V2 fun x y h=>PG _ _ h),aU⟩)<|zo J (hY J J)<|zo J (hY J J)<|ay bt J ap J (ht J) (ht J)<|aL 4 J<|bk J<|an<|aj ?_;cases so h;exact dE J J ⟨cC bt J J J,dY J,aU⟩

theorem Qu(a1:M){R:M×Int}(h:vW a1=some R):aN aM 122 [tD af a1] (tT [tD af R.1,bH R.2]):=by
 refine aN.of Tryz.func122 J J J fun w0 S0=>aq<|zo J (jh J)<|aO (r:=af) (x:=lb) bt (fun _=>ca _) J fun b=>zo J (cQ)<|an<|ae<|bF h fun r q_r h=>bF h fun r1 q_r1 h=>?_
 refine oh 5 (ts:=[tD af r,tD af a1,tT [tD af r1.1,bH r1.2],tD af r1.1,bH r1.2]) mixed J J J
  ⟨zd0 J J (aD TW (Iy _ q_r) ⟨hI,aU⟩),
  ⟨ia 1 J J J (bz bt J J),
  ⟨ft 4 0 5 1 J J J J (aD RY (JL _ _ q_r1) ⟨(ht J),(ht J),aU⟩),
  ⟨cO 6 2 J J J (hY J J),
  ⟨cO 6 2 J J J (hY J J),
  aU⟩⟩⟩⟩⟩ ?_
 refine ay bt J ap J (ht J) (ht J)<|aL 2 J<|bk J<|an<|aj ?_;cases so h;exact dE J J ⟨cC bt J J J,dY J,aU⟩

theorem Pf(v:M){R:Int}(h:ur v=some R):aN aM 248 [tD af v] (bH R):=by
 refine aN.of Tryz.func248 J J J fun w0 S0=>aq<|zo J (jh J)<|zo J (cQ)<|an<|ae<|aq<|zo J (cd jC ee J J)<|zo J (bz bJ J J)<|zo J (jy J)<|an<|cX h J (fun h=>?_) (fun h=>?_)
 ·refine aq<|zo J (cQ)<|an<|aj<|aa ?_;cases so h;exact aB J J
 ·refine dA<|aq<|zo J (cd re kP J J)<|zo J (bz Ky J J)<|zo J (uX hI (ht J))<|bk J<|an<|aj ?_;cases so h;exact aB J J

end Go.Proofs.YtmogpgcfognefaaGreatDoor

