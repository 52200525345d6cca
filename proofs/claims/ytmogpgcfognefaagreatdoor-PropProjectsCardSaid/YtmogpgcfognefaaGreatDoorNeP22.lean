/- co of this claim: P22. -/
import Derived.Test.YtmogpgcfognefaaGreatDoorNeT
import Derived.Test.YtmogpgcfognefaaGreatDoorNeP21
set_option linter.all false
namespace Go.Proofs.YtmogpgcfognefaaGreatDoor
open Go
set_option maxRecDepth 100000

theorem Fi(to1:((List Int)→Option Int))(l:(List M)){R:M×Int}(h:lX to1 l=some R):aN aM 189 [(dJ aM (fun(x:(List Int))=>[kz x]) Km (fun(x:(List Int))=>to1 x)),d7 (af) l] (tT [tD af R.1,bH R.2]):=by
 refine aN.of Tryz.func189 J J J fun w0 S0=>aq<|aO (r:=af) (x:=lb) bt (fun _=>ca _) J fun b=>zo J (cQ)<|an<|ae<|aq<|aA J<|bF h fun r q_r h=>zo J (aD RJ (Jx _ q_r) ⟨(ht J),aU⟩)<|bk J<|an<|aq<|aA J<|zo J (rn J)<|an<|cX h J (fun h=>?_) (fun h=>?_)
 ·refine aq<|zo J (cb (y:=lb) bt wY ca (J))<|aA J<|ay bt J ap J (ht J) (ht J)<|bk J<|an<|aj<|aa<|bR 4 J ?_;cases so h;exact dE J J ⟨cC bt J J J,dY J,aU⟩
 ·refine dA<|aq<|cm false bQ 3<|zo J (bm vP)<|an<|ae<|aq<|aA J<|zo J (ja pX J)<|zo J (bl hI)<|an<|ax<|aV (k:=16) J fun hN=>bB ?_;refine aJ (sN (Z:=fun ls i n l1 c x=>(l.drop i=ls)∧ke to1 ls n x=some R) (Of:=fun _ i n l1 c x=>[cG bQ 3 l1 c n,bx af 82 b x]) (Gf:=fun _ i n l1 c x=>[(0,(dJ aM (fun(x:(List Int))=>[kz x]) Km (fun(x:(List Int))=>to1 x))),(4,tV (aI b 0)),(7,pQ l1 c n),(16,d7 (af) l),(17,hM l),(18,bH (i:Int))]) (fun i n l1 c x h=>?_) (fun e tl ih i n l1 c x h=>?_) l 0 mu none 0 lb ⟨J,h⟩) (aZ J)
  ·obtain⟨hx,h⟩:=h
   refine av<|aq<|zo J (eK J J)<|an<|ae<|bp (ht J) (cW hx)<|bg ?_;refine ac (ac (aF ?_));refine au<|aq<|aA rfl<|aA rfl<|oZ<|oc 7 rfl<|oc 33 rfl<|bF h fun r1 q_r1 h=>zo J (ej (args:=(fun(x:(List Int))=>[tD wd x])) (res:=(fun(x:Int)=>tD bQ x)) (f:=(fun(x:(List Int))=>to1 x)) (x:=((n):(List Int))) (ht J) q_r1 ⟨(pC (ht J)),aU⟩)<|bF h fun e1 q_e1 h=>zo J (zA (r:=iS af 3) (x:=XD) gm1 gr1 (wC Tryz.underlying286 bt J MW (ht J) q_e1))<|zo J (bz bt J J)<|bD<|ay bt J ap J (ht J) (ht J)<|zo J (cQ)<|an<|aj<|bR 4 J<|ba ?_;cases so h;exact dE J J ⟨cC bt J J J,dY J,aU⟩
  ·obtain⟨hx,h⟩:=h
   refine av<|aq<|zo J (eK J J)<|an<|ae<|bo (ht J) (cU hx)<|dA<|ae<|ax<|aq<|zo J (iX pX bt J J J (cP hx))<|zo J (bz bt J J)<|aO (r:=af) (x:=lb) bt (fun _=>ca _) J fun b1=>ay bt J ap J (ht J) (ht J)<|aL 9 J<|an<|ae<|aq ?_;refine zo J (cd jC ee J J)<|zo J (bz bJ J J)<|zo J (gx (ht J) hI)<|an<|cX h J (fun h=>?_) (fun h=>?_)
   ·refine aq<|zo J (cb (y:=lb) bt wY ca (J))<|bD<|ay bt J ap J (ht J) (ht J)<|zo J (cQ)<|an<|aj ?_;refine aa (aC (aa (aa (aC (aa ?_)))));refine bR 4 J<|ba ?_;cases so h;exact dE J J ⟨cC bt J J J,dY J,aU⟩
   ·refine dA<|ai<|aA J<|zo J (bz bt J J)<|bF h fun r2 q_r2 h=>zo J (aD VA (Pf _ q_r2) ⟨(ht J),aU⟩)<|zo J (aP (r:=bQ) (ys:=[r2]) (xs:=[.tmp 28]) dm bJ J J J J J ⟨(ht J),aU⟩)<|bF h fun n1 q_n1 h=>ep bJ J J J J dm J J (ht J) (ht J) q_n1 fun l2 c1=>bk J<|aH<|am<|au<|ai<|zo rfl (jU (cz hx hN) rfl)<|aA rfl<|aH ?_;exact aT (aJ (ih (i+1) n1 l2 c1 x ⟨cy hx,h⟩) (aZ J))

theorem PJ(l:(List Int)){R:Int}(h:zO l=some R):aN aM 190 [kz l] (bH R):=by
 refine aN.of Tryz.func190 J J J fun w0 S0=>aq<|zo J (cQ)<|an<|aq<|aA J<|bF h fun e q_e h=>zo J (bX dm bJ J (ht J) hI q_e)<|zo J (bz bJ J J)<|zo J (fK hI (ht J))<|bk J<|an<|aj ?_;cases so h;exact aB J J

theorem JN(a1:M){R:M×Int}(h:oA a1=some R):aN aM 123 [tD af a1] (tT [tD af R.1,bH R.2]):=by
 refine aN.of Tryz.func123 J J J fun w0 S0=>aq<|zo J (jh J)<|aO (r:=af) (x:=lb) bt (fun _=>ca _) J fun b=>zo J (cQ)<|an<|aq<|zo J (bz bt J J)<|zo J (aP (r:=af) (ys:=[a1]) (xs:=[.tmp 4]) pX bt J J J J J ⟨(ht J),aU⟩)<|bF h fun r q_r h=>zo J (aD Nw (Fi _ _ q_r) ⟨(sj V5 fun x y h=>PJ _ h),(ht J),aU⟩)<|zo J (hY J J)<|zo J (hY J J)<|ay bt J ap J (ht J) (ht J)<|aL 2 J<|bk J<|an<|aj ?_;cases so h;exact dE J J ⟨cC bt J J J,dY J,aU⟩

theorem PI(is1:Bool)(a1:M)(x:M){R:M×Int}(h:mn is1 a1 x=some R):aN aM 191 [tD af a1,tD af x,bq rB is1] (tT [tD af R.1,bH R.2]):=by
 refine aN.of Tryz.func191 J J J fun w0 S0=>aq<|zo J (jh J)<|zo J (jh J)<|aO (r:=af) (x:=lb) bt (fun _=>ca _) J fun b=>zo J (cQ)<|an<|aq<|zo J (cd jC ee J J)<|zo J (bz bJ J J)<|zo J (jy J)<|zo J (bz LU J J)<|zo J (Jf Di (ht J) (ht J))<|bF h fun r q_r h=>zo J (aD RO (JC _ q_r) ⟨(ht J),aU⟩)<|ay bt J ap J (ht J) (ht J)<|aL 5 J<|zo J (cQ)<|an<|aj ?_;cases so h;exact dE J J ⟨cC bt J J J,dY J,aU⟩

theorem JM(is1:Bool){R:(M→M→Option (M×Int))}(h:zk is1=some R):aN aM 124 [gK is1] ((dJ aM qC qB (fun(x:M×M)=>R x.1 x.2))):=by
 refine aN.of Tryz.func124 J J J fun w0 S0=>aq<|zo J (jh J)<|zo J (bm hV)<|an<|aq<|zo J ((show bS _ _ _ _ ((dJ aM qC qB (fun(x:M×M)=>(mn is1) x.1 x.2)))from eJ (cts:=[bq rB is1]) (caps:=[.tmp 1]) V4 ⟨(ht J),aU⟩ (fun x y h=>PI _ _ _ h)))<|bk J<|an<|aj ?_;cases so h;exact aB J J

theorem PH(a1:Int)(b:Int){R:Int×Bool}(h:pA a1 b=some R):aN aM 194 [bH a1,bH b] (tT [bH R.1,gK R.2]):=by
 refine aN.of Tryz.func194 J J J fun w0 S0=>aq<|zo J (cQ)<|zo J (fJ)<|an<|aq<|aA J<|aA J<|zo J (jZ (ht J) (ht J))<|bk J<|an<|aq<|aA J<|aA J<|aA J<|zo J (uV (ht J) (ht J))<|aA J<|aA J<|zo J (uV (ht J) (ht J)) ?_;refine zo J (y9 (ht J) (ht J))<|zo J (dQ (ht J) hI)<|bk J<|bk J<|an<|aj ?_;cases so h;exact d5 J J J

theorem Qt(a1:M)(b:M){R:M×Int}(h:zy a1 b=some R):aN aM 125 [tD af a1,tD af b] (tT [tD af R.1,bH R.2]):=by
 refine aN.of Tryz.func125 J J J fun w0 S0=>aq<|zo J (jh J)<|zo J (jh J)<|aO (r:=af) (x:=lb) bt (fun _=>ca _) J fun b1=>zo J (cQ)<|an<|aq<|zo J (bz bt J J)<|zo J (bz bt J J)<|bF h fun r q_r h=>zo J (aD JV (A4 _ _ _ q_r) ⟨(ht J),(ht J),(sj V3 fun x y h=>PH _ _ h),aU⟩)<|zo J (hY J J)<|zo J (hY J J)<|ay bt J ap J (ht J) (ht J)<|aL 4 J<|bk J<|an<|aj ?_;cases so h;exact dE J J ⟨cC bt J J J,dY J,aU⟩

theorem PE(p:Int)(y:Int){R:Int×Int}(h:pJ p y=some R):aN aM 197 [tD xr p,tD xr y] (tT [tD xr R.1,tD xr R.2]):=by
 refine aN.of Tryz.func197 J J J fun w0 S0=>aq<|zo J (cQ)<|zo J (cQ)<|an<|aq<|aA J<|zo J (y9 (ht J) hI)<|bk J<|an<|aq<|aA J<|zo J (uW (ht J) hI (by decide))<|bk J<|an<|aq<|aA J ?_;refine zo J (y9 (ht J) hI)<|bk J<|an<|aq<|aA J<|zo J (uW (ht J) hI (by decide))<|bk J<|an<|aq<|aA J<|aA J<|zo J (uX (ht J) (ht J))<|bk J<|an<|aq<|aA J<|aA J<|zo J (uX (ht J) (ht J)) ?_;refine aA J<|zo J (uW (ht J) hI (by decide))<|zo J (jZ (ht J) (ht J))<|bk J<|an<|aq<|aA J<|zo J (y9 (ht J) hI)<|bk J<|an<|aq<|aA J<|zo J (uW (ht J) hI (by decide))<|bk J<|an<|aq<|aA J<|aA J ?_;refine aA J<|zo J (uX (ht J) (ht J))<|zo J (jZ (ht J) (ht J))<|bk J<|an<|aq<|aA J<|aA J<|zo J (uX (ht J) (ht J))<|aA J<|zo J (jZ (ht J) (ht J))<|aA J<|zo J (uW (ht J) hI (by decide))<|zo J (jZ (ht J) (ht J))<|bk J<|an<|aq<|aA J<|aA J<|zo J (uX (ht J) (ht J)) ?_;refine bk J<|an<|aj ?_;cases so h;exact d5 J J J

theorem A3(n:Int){R:Int}(h:nk n=some R):aN aM 198 [bH n] (tD xr R):=by
 refine aN.of Tryz.func198 J J J fun w0 S0=>aq<|zo J (cQ)<|an<|ae<|aq<|aA J<|zo J (dI (ht J) hI)<|an<|cX h J (fun h=>?_) (fun h=>?_)
 ·refine aq<|aA J<|zo J (pf CH CK (ht J))<|zo J (ME (ht J))<|bk J<|an<|aj<|aa ?_;cases so h;exact aB J J
 ·refine dA<|aq<|aA J<|zo J (pf CH CK (ht J))<|bk J<|an<|aj ?_;cases so h;exact aB J J

theorem JB(u:Int)(below:Bool){R:Int×Bool}(h:oa u below=some R):aN aM 199 [tD xr u,gK below] (tT [bH R.1,gK R.2]):=by
 refine aN.of Tryz.func199 J J J fun w0 S0=>aq<|zo J (cQ)<|zo J (fJ)<|an<|ae<|aq<|aA J<|an<|cX h J (fun h=>?_) (fun h=>?_)
 ·refine aq<|aA J<|zo J (ME (ht J))<|zo J (pf CK CH (ht J))<|aA J<|zo J (iT (ht J) hI)<|bk J<|bk J<|an<|aj<|aa ?_;cases so h;exact d5 J J J
 ·refine dA<|aq<|aA J<|zo J (pf CK CH (ht J))<|aA J<|zo J (iT (ht J) hI)<|bk J<|bk J<|an<|aj ?_;cases so h;exact d5 J J J

theorem PF(a1:Int)(b:Int){R:Int×Bool}(h:nC a1 b=some R):aN aM 196 [bH a1,bH b] (tT [bH R.1,gK R.2]):=by
 refine aN.of Tryz.func196 J J J fun w0 S0=>aq<|zo J (cQ)<|zo J (fJ)<|an<|aq<|aA J<|bF h fun r q_r h=>zo J (aD JU (A3 _ q_r) ⟨(ht J),aU⟩)<|aA J<|bF h fun r1 q_r1 h=>zo J (aD JU (A3 _ q_r1) ⟨(ht J),aU⟩)<|bF h fun r2 q_r2 h=>zo J (aD V0 (PE _ _ q_r2) ⟨(ht J),(ht J),aU⟩)<|aA J<|zo J (hY J J)<|zo J (hY J J)<|bk J<|bk J<|an ?_;refine aq<|aA J<|aA J<|zo J (dI (ht J) hI)<|aA J<|zo J (dI (ht J) hI)<|zo J (EY Di (ht J) (ht J))<|bF h fun r3 q_r3 h=>zo J (aD RN (JB _ _ q_r3) ⟨(ht J),(ht J),aU⟩)<|aA J<|zo J (hY J J)<|zo J (hY J J)<|bk J<|bk J<|an<|aq<|aA J<|aA J<|aA J<|bO J J (fun hg=>cL J)<|bO J J (fun hg=>bK (aS J hg) hI) ?_;refine zo J (la J J)<|bk J<|bk J<|an<|aj ?_;cases so h;exact d5 J J J

theorem Qs(a1:M)(b:M){R:M×Int}(h:zw a1 b=some R):aN aM 127 [tD af a1,tD af b] (tT [tD af R.1,bH R.2]):=by
 refine aN.of Tryz.func127 J J J fun w0 S0=>aq<|zo J (jh J)<|zo J (jh J)<|aO (r:=af) (x:=lb) bt (fun _=>ca _) J fun b1=>zo J (cQ)<|an<|aq<|zo J (bz bt J J)<|zo J (bz bt J J)<|bF h fun r q_r h=>zo J (aD JV (A4 _ _ _ q_r) ⟨(ht J),(ht J),(sj V1 fun x y h=>PF _ _ h),aU⟩)<|zo J (hY J J)<|zo J (hY J J)<|ay bt J ap J (ht J) (ht J)<|aL 4 J<|bk J<|an<|aj ?_;cases so h;exact dE J J ⟨cC bt J J J,dY J,aU⟩

theorem PD(a1:Int)(b:Int){R:Int×Bool}(h:nD a1 b=some R):aN aM 200 [bH a1,bH b] (tT [bH R.1,gK R.2]):=by
 refine aN.of Tryz.func200 J J J fun w0 S0=>aq<|zo J (cQ)<|zo J (fJ)<|an<|ae<|aq<|aA J<|zo J (jy J)<|an<|cX h J (fun h=>?_) (fun h=>?_)
 ·refine aq<|zo J (cQ)<|zo J (fJ)<|an<|aj<|aa ?_;cases so h;exact d5 J J J
 ·refine dA<|aq<|aA J<|bF h fun r q_r h=>zo J (aD JU (A3 _ q_r) ⟨(ht J),aU⟩)<|aA J<|bF h fun r1 q_r1 h=>zo J (aD JU (A3 _ q_r1) ⟨(ht J),aU⟩)<|bF h fun u q_u h=>zo J (Ia (ht J) (ht J) (OH q_u))<|aA J<|zo J (dI (ht J) hI)<|aA J<|zo J (dI (ht J) hI)<|zo J (EY Di (ht J) (ht J))<|bF h fun r2 q_r2 h=>zo J (aD RN (JB _ _ q_r2) ⟨(ht J),(ht J),aU⟩)<|zo J (hY J J)<|zo J (hY J J)<|bk J<|bk J<|aH ?_;refine au<|aj ?_;cases so h;exact d5 J J J

theorem Qr(a1:M)(b:M){R:M×Int}(h:zx a1 b=some R):aN aM 128 [tD af a1,tD af b] (tT [tD af R.1,bH R.2]):=by
 refine aN.of Tryz.func128 J J J fun w0 S0=>aq<|zo J (jh J)<|zo J (jh J)<|aO (r:=af) (x:=lb) bt (fun _=>ca _) J fun b1=>zo J (cQ)<|an<|aq<|zo J (bz bt J J)<|zo J (bz bt J J)<|bF h fun r q_r h=>zo J (aD JV (A4 _ _ _ q_r) ⟨(ht J),(ht J),(sj VZ fun x y h=>PD _ _ h),aU⟩)<|zo J (hY J J)<|zo J (hY J J)<|ay bt J ap J (ht J) (ht J)<|aL 4 J<|bk J<|an<|aj ?_;cases so h;exact dE J J ⟨cC bt J J J,dY J,aU⟩

theorem PC(c:Int){R:Bool}(h:wm c=some R):aN aM 201 [bH c] (gK R):=by
 refine aN.of Tryz.func201 J J J fun w0 S0=>aq<|zo J (fJ)<|an<|aq<|aA J<|zo J (jy J)<|bk J<|an<|aj ?_;cases so h;exact aB J J

theorem JK(a1:M)(b:M){R:M×Int}(h:pn a1 b=some R):aN aM 129 [tD af a1,tD af b] (tT [tD af R.1,bH R.2]):=by
 refine aN.of Tryz.func129 J J J fun w0 S0=>aq<|zo J (jh J)<|zo J (jh J)<|aO (r:=af) (x:=lb) bt (fun _=>ca _) J fun b1=>zo J (cQ)<|an<|aq<|zo J (bz bt J J)<|zo J (bz bt J J)<|bF h fun r q_r h=>zo J (aD RP (JD _ _ _ q_r) ⟨(ht J),(ht J),(sj VY fun x y h=>PC _ h),aU⟩)<|zo J (hY J J)<|zo J (hY J J)<|ay bt J ap J (ht J) (ht J)<|aL 4 J<|bk J<|an<|aj ?_;cases so h;exact dE J J ⟨cC bt J J J,dY J,aU⟩

theorem PB(do1:(M→M→Option (M×Int)))(a1:M)(b:M){R:M×Int}(h:rh do1 a1 b=some R):aN aM 202 [tD af a1,tD af b,bq (rT ((dJ aM qC qB (fun(x:M×M)=>do1 x.1 x.2)))) ()] (tT [tD af R.1,bH R.2]):=by
 refine aN.of Tryz.func202 J J J fun w0 S0=>aq<|zo J (jh J)<|zo J (jh J)<|aO (r:=af) (x:=lb) bt (fun _=>ca _) J fun b1=>zo J (cQ)<|an<|aq<|zo J (q5 Rj (ht J))<|zo J (bz bt J J)<|zo J (bz bt J J)<|bF h fun r q_r h=>zo J (ej (args:=qC) (res:=Ax) (f:=(fun(x:M×M)=>do1 x.1 x.2)) (x:=((a1,b):M×M)) (ht J) q_r ⟨(ht J),(ht J),aU⟩)<|aA J<|zo J (hY J J)<|zo J (hY J J)<|aO (r:=af) (x:=lb) bt (fun _=>ca _) J fun b2=>ay bt J ap J (ht J) (ht J)<|aL 7 J<|bk J<|aH ?_;refine au<|ae<|aq<|aA rfl<|zo rfl (rn rfl)<|an<|cX h rfl (fun h=>?_) (fun h=>?_)
 ·refine aq<|zo J (bz bt J J)<|aA J<|ay bt J ap J (ht J) (ht J)<|bk J<|an<|aj<|aa<|bR 5 J ?_;cases so h;exact dE J J ⟨cC bt J J J,dY J,aU⟩
 ·refine dA<|aq<|zo J (bz bt J J)<|bF h fun r1 q_r1 h=>zo J (aD R1 (JN _ q_r1) ⟨(ht J),aU⟩)<|zo J (hY J J)<|zo J (hY J J)<|ay bt J ap J (ht J) (ht J)<|bk J<|an<|aj<|bR 5 J ?_;cases so h;exact dE J J ⟨cC bt J J J,dY J,aU⟩

theorem Fl(do1:(M→M→Option (M×Int))){R:(M→M→Option (M×Int))}(h:yg do1=some R):aN aM 130 [(dJ aM qC qB (fun(x:M×M)=>do1 x.1 x.2))] ((dJ aM qC qB (fun(x:M×M)=>R x.1 x.2))):=by
 refine aN.of Tryz.func130 J J J fun w0 S0=>aq<|zo J (xQ (ht J))<|zo J (bm hV)<|an<|aq<|zo J ((show bS _ _ _ _ ((dJ aM qC qB (fun(x:M×M)=>(rh do1) x.1 x.2)))from eJ (cts:=[bq (rT ((dJ aM qC qB (fun(x:M×M)=>do1 x.1 x.2)))) ()]) (caps:=[.tmp 1]) VX ⟨(ht J),aU⟩ (fun x y h=>PB _ _ _ h)))<|bk J<|an<|aj ?_;cases so h;exact aB J J

theorem PA(l:(List Int)){R:Int}(h:zP l=some R):aN aM 203 [kz l] (bH R):=by
 refine aN.of Tryz.func203 J J J fun w0 S0=>aq<|zo J (cQ)<|an<|ae<|bF h fun e q_e h=>bF h fun e1 q_e1 h=>?_
 refine eG (ts:=[_,_,_,_,_,_,_,_]) mixed J J
  ⟨ia 0 J J J (cL J),
  ⟨cO 3 0 J J J (bX dm bJ J (ht J) hI q_e),
  ⟨cO 4 1 J J J (bz bJ J J),
  ⟨ia 0 J J J (cL J),
  ⟨cO 6 3 J J J (bX dm bJ J (ht J) hI q_e1),
  ⟨cO 7 4 J J J (bz bJ J J),
  ⟨ft 5 2 8 5 J J J J (EZ (ht J) (ht J)),
  ⟨cO 9 6 J J J (zM J),
  aU⟩⟩⟩⟩⟩⟩⟩⟩ ?_
 refine au<|aj ?_;cases so h;exact aB J J

theorem Qq(a1:M)(b:M){R:M×Int}(h:qo a1 b=some R):aN aM 131 [tD af a1,tD af b] (tT [tD af R.1,bH R.2]):=by
 refine aN.of Tryz.func131 J J J fun w0 S0=>aq<|zo J (jh J)<|zo J (jh J)<|aO (r:=af) (x:=lb) bt (fun _=>ca _) J fun b1=>zo J (cQ)<|an<|aq<|zo J (bz bt J J)<|zo J (bz bt J J)<|zo J (aP (r:=af) (ys:=[a1,b]) (xs:=[.tmp 6,.tmp 7]) pX bt J J J J J ⟨(ht J),(ht J),aU⟩)<|bF h fun r q_r h=>zo J (aD Nw (Fi _ _ q_r) ⟨(sj VW fun x y h=>PA _ h),(ht J),aU⟩)<|zo J (hY J J)<|zo J (hY J J)<|ay bt J ap J (ht J) (ht J)<|aL 4 J<|bk J<|an<|aj ?_;cases so h;exact dE J J ⟨cC bt J J J,dY J,aU⟩

theorem Pz(l:(List Int)){R:Int}(h:Bm l=some R):aN aM 204 [kz l] (bH R):=by
 refine aN.of Tryz.func204 J J J fun w0 S0=>aq<|zo J (cQ)<|an<|ae<|bF h fun e q_e h=>bF h fun e1 q_e1 h=>?_
 refine eG (ts:=[_,_,_,_,_,_,_,_]) mixed J J
  ⟨ia 0 J J J (cL J),
  ⟨cO 3 0 J J J (bX dm bJ J (ht J) hI q_e),
  ⟨cO 4 1 J J J (bz bJ J J),
  ⟨ia 0 J J J (cL J),
  ⟨cO 6 3 J J J (bX dm bJ J (ht J) hI q_e1),
  ⟨cO 7 4 J J J (bz bJ J J),
  ⟨ft 5 2 8 5 J J J J (xO (ht J) (ht J)),
  ⟨cO 9 6 J J J (zM J),
  aU⟩⟩⟩⟩⟩⟩⟩⟩ ?_
 refine au<|aj ?_;cases so h;exact aB J J

theorem Qp(a1:M)(b:M){R:M×Int}(h:sy a1 b=some R):aN aM 132 [tD af a1,tD af b] (tT [tD af R.1,bH R.2]):=by
 refine aN.of Tryz.func132 J J J fun w0 S0=>aq<|zo J (jh J)<|zo J (jh J)<|aO (r:=af) (x:=lb) bt (fun _=>ca _) J fun b1=>zo J (cQ)<|an<|aq<|zo J (bz bt J J)<|zo J (bz bt J J)<|zo J (aP (r:=af) (ys:=[a1,b]) (xs:=[.tmp 6,.tmp 7]) pX bt J J J J J ⟨(ht J),(ht J),aU⟩)<|bF h fun r q_r h=>zo J (aD Nw (Fi _ _ q_r) ⟨(sj VV fun x y h=>Pz _ h),(ht J),aU⟩)<|zo J (hY J J)<|zo J (hY J J)<|ay bt J ap J (ht J) (ht J)<|aL 4 J<|bk J<|an<|aj ?_;cases so h;exact dE J J ⟨cC bt J J J,dY J,aU⟩

theorem Tq{R:(List (Int×(M→M→Option (M×Int))))}(h:vT=some R):aN aM 69 [] (CU (fun y:(M→M→Option (M×Int))=>pD aM qC qB (fun(x:M×M)=>y x.1 x.2)) sx R):=by
 refine aN.of Tryz.func69 J J J fun w0 S0=>aq<|zo J (bm (show aE _ _ (.const (.map none)) (tV (.map none))from fun _ _ _=>J))<|an<|aq<|bF h fun r q_r h=>zo J (aD WM (Qv _ q_r) ⟨(sj NA fun x y h=>Fm _ _ h),aU⟩)<|bk J<|an<|aq<|xg (LW (fun y:(M→M→Option (M×Int))=>pD aM qC qB (fun(x:M×M)=>y x.1 x.2))) sx J fun b=>bF h fun r1 q_r1 h=>zo J (aD R3 (JO _ q_r1) ⟨(sj WL fun x y h=>Qu _ h),aU⟩)<|dx (γ:=(fun y:(M→M→Option (M×Int))=>pD aM qC qB (fun(x:M×M)=>y x.1 x.2))) (y:=r1) um (di ou) (ht J) (kp hI) (gS (ht J)) fun os=>bF h fun r2 q_r2 h=>zo J (aD R3 (JO _ q_r2) ⟨(sj R1 fun x y h=>JN _ h),aU⟩)<|dx (γ:=(fun y:(M→M→Option (M×Int))=>pD aM qC qB (fun(x:M×M)=>y x.1 x.2))) (y:=r2) um (di ou) (ht J) (kp hI) (gS (ht J)) fun os1=>bF h fun r3 q_r3 h=>zo J (aD RZ (JM _ q_r3) ⟨hB,aU⟩) ?_;refine dx (γ:=(fun y:(M→M→Option (M×Int))=>pD aM qC qB (fun(x:M×M)=>y x.1 x.2))) (y:=r3) um (di ou) (ht J) (kp hI) (gS (ht J)) fun os2=>bF h fun r4 q_r4 h=>zo J (aD RZ (JM _ q_r4) ⟨hB,aU⟩)<|dx (γ:=(fun y:(M→M→Option (M×Int))=>pD aM qC qB (fun(x:M×M)=>y x.1 x.2))) (y:=r4) um (di ou) (ht J) (kp hI) (gS (ht J)) fun os3=>dx (γ:=(fun y:(M→M→Option (M×Int))=>pD aM qC qB (fun(x:M×M)=>y x.1 x.2))) (y:=zy) um (di ou) (ht J) (kp hI) (gS (sj WK fun x y h=>Qt _ _ h)) fun os4=>dx (γ:=(fun y:(M→M→Option (M×Int))=>pD aM qC qB (fun(x:M×M)=>y x.1 x.2))) (y:=sJ) um (di ou) (ht J) (kp hI) (gS (sj RY fun x y h=>JL _ _ h)) fun os5=>dx (γ:=(fun y:(M→M→Option (M×Int))=>pD aM qC qB (fun(x:M×M)=>y x.1 x.2))) (y:=zw) um (di ou) (ht J) (kp hI) (gS (sj WJ fun x y h=>Qs _ _ h)) fun os6=>dx (γ:=(fun y:(M→M→Option (M×Int))=>pD aM qC qB (fun(x:M×M)=>y x.1 x.2))) (y:=zx) um (di ou) (ht J) (kp hI) (gS (sj WI fun x y h=>Qr _ _ h)) fun os7=>dx (γ:=(fun y:(M→M→Option (M×Int))=>pD aM qC qB (fun(x:M×M)=>y x.1 x.2))) (y:=pn) um (di ou) (ht J) (kp hI) (gS (sj RX fun x y h=>JK _ _ h)) fun os8=>bF h fun r5 q_r5 h=>zo J (aD Nz (Fl _ q_r5) ⟨(sj RX fun x y h=>JK _ _ h),aU⟩)<|dx (γ:=(fun y:(M→M→Option (M×Int))=>pD aM qC qB (fun(x:M×M)=>y x.1 x.2))) (y:=r5) um (di ou) (ht J) (kp hI) (gS (ht J)) fun os9=>dx (γ:=(fun y:(M→M→Option (M×Int))=>pD aM qC qB (fun(x:M×M)=>y x.1 x.2))) (y:=lY) um (di ou) (ht J) (kp hI) (gS (sj NA fun x y h=>Fm _ _ h)) fun os10=>aA J<|dx (γ:=(fun y:(M→M→Option (M×Int))=>pD aM qC qB (fun(x:M×M)=>y x.1 x.2))) (y:=r) um (di ou) (ht J) (kp hI) (gS (ht J)) fun os11=>aA J<|bF h fun r6 q_r6 h=>zo J (aD Nz (Fl _ q_r6) ⟨(ht J),aU⟩)<|dx (γ:=(fun y:(M→M→Option (M×Int))=>pD aM qC qB (fun(x:M×M)=>y x.1 x.2))) (y:=r6) um (di ou) (ht J) (kp hI) (gS (ht J)) fun os12=>bF h fun r7 q_r7 h=>zo J (aD Nz (Fl _ q_r7) ⟨(sj NA fun x y h=>Fm _ _ h),aU⟩)<|dx (γ:=(fun y:(M→M→Option (M×Int))=>pD aM qC qB (fun(x:M×M)=>y x.1 x.2))) (y:=r7) um (di ou) (ht J) (kp hI) (gS (ht J)) fun os13=>dx (γ:=(fun y:(M→M→Option (M×Int))=>pD aM qC qB (fun(x:M×M)=>y x.1 x.2))) (y:=qo) um (di ou) (ht J) (kp hI) (gS (sj WG fun x y h=>Qq _ _ h)) fun os14=>dx (γ:=(fun y:(M→M→Option (M×Int))=>pD aM qC qB (fun(x:M×M)=>y x.1 x.2))) (y:=sy) um (di ou) (ht J) (kp hI) (gS (sj WF fun x y h=>Qp _ _ h)) fun os15=>?_;refine aA J<|bk J<|an<|aj<|vv 0 J ?_;cases so h;exact aB J J

theorem TJ{l:Option Nat}{c:Nat}{xs s:List M}{lo:Int}{R:List M}(hs:dq xs lo (xs.length:Int)=some s)(h:eT s=some R):fq aM 134 [tV (lc 4 l c lo.toNat s.length)] [cG af 82 l c xs] (fun i:OI=>pQ (i.h 0).1 (i.h 0).2 R) (fun i=>[cG af 82 (i.h 0).1 (i.h 0).2 R,cG af 82 l c xs]):=by
 refine fq.of Tryz.func134 J J J fun w0 S0=>aq<|zo J (bm vP)<|an<|ae<|aq<|aA J<|Ef (r:=af) pX (.head _) hs (ht J) J fun isnil hisnil=>an<|oj (ht J) (fun hc=>?_) (fun hc=>?_)
 ·have hx:=hisnil hc
  have h:some Ev=some R:=by simpa [eT,kE,hx] using h
  refine aq<|cm false af 82<|zo J (bm vP)<|an<|aj<|aa ?_;cases so h;exact dc J (oi none 0) J J (fun _ _ h=>h)
 ·refine dA<|aq<|pB (r:=af) (ys:=Ev) (xs:=[]) pX bt J J J J J trivial J fun l1 c1=>aA J<|bF h fun x q_x h=>Cs bt J J J J pX J J (ht J) (.tail _ (.head _)) hs (ht J) q_x fun l2 c2=>bk J<|an<|aj ?_;cases so h;exact dc J (oi l2 c2) J J (fun _ _ h=>h)

theorem Ni(b:Nat)(l:Option Nat)(c:Nat)(stack:(List M))(k:Int){R:(List M)×(List M)}(h:jw stack k=some R):fq aM 133 [bH k,tV (aI b 0)] [bx rV 77 b (aw l c stack.length),cG af 82 l c stack] (fun i:OI=>d7 (af) R.1) (fun i=>[bx rV 77 b (aw (i.h 0).1 (i.h 0).2 R.2.length),cG af 82 (i.h 0).1 (i.h 0).2 R.2]):=by
 refine fq.of Tryz.func133 J J J fun w0 S0=>aq<|zo J (bm (show aE _ _ _ (d7 (af) ([]))from uf))<|an<|aq<|zo J (lj EF (.head _) (ht J))<|zo J (lj EF (.head _) (ht J))<|zo J (fA pX (.tail _ (.head _)) (ht J))<|aA J<|zo J (fK (ht J) (ht J))<|bF h fun y q_y h=>zo J (me pX bt J (.tail _ (.head _)) (ht J) (ht J) q_y)<|mI (.tail _ (.head _)) q_y fun hv=>bD<|bF h fun r q_r h=>yy [cG af 82 l c stack] _ J WE (TJ q_y q_r) ⟨(ht J),aU⟩ J fun i=>?_;refine(show RG _ _ _ _ [cG af 82 (i.h 0).1 (i.h 0).2 r,cG af 82 l c stack,bx rV 77 b (aw l c stack.length)] _ from ?_);refine bk J<|an<|aq<|zo J (lj EF (.tail _ (.tail _ (.head _))) (ht J))<|zo J (lj EF (.tail _ (.tail _ (.head _))) (ht J))<|zo J (fA pX (.tail _ (.head _)) (ht J))<|aA J<|zo J (fK (ht J) (ht J))<|bF h fun y1 q_y1 h=>zo J (kD pX bt J (.tail _ (.head _)) (ht J) (ht J) q_y1)<|bD<|zz q_y1<|jg<|ay EF J ap J (ht J) (AW (ht J))<|an<|aq<|aA J<|bk J<|an ?_;refine aj<|aR<|gG<|gh 3 J<|gh 11 J<|gh 4 J<|gh 18 J<|qv 3 J<|ba<|aX<|aX ?_;cases so h;exact dc J (oi l c) J J (fun _ _ h=>h)

theorem Tp(e:bf)(do1:(bc→(List M)→Option (M×Int))){R:M×Int}(h:gF e do1=some R):aN aM 70 [tD bn e,(dJ aM Oc qB (fun(x:bc×(List M))=>do1 x.1 x.2))] (tT [tD af R.1,bH R.2]):=by
 refine aN.of Tryz.func70 J J J fun w0 S0=>aq<|zo J (jh J)<|aO (r:=af) (x:=lb) bt (fun _=>ca _) J fun b=>zo J (cQ)<|an<|yI<|aq<|cm false af 82<|aO (x:=aw none 0 0) EF (fun _=>Mv) J fun b1=>an<|aq<|aO (r:=af) (x:=lb) bt (fun _=>ca _) J fun b2=>aL 7 J<|an<|aq<|zo J (BH (cts:=[tV (aI b1 0)]) (caps:=[.tmp 6]) ⟨(ht J),aU⟩) ?_;refine bk J<|an<|aq<|zo J (cQ)<|an<|ae<|yJ<|au<|ae<|aq<|zo rfl (cd fa dw rfl rfl)<|zo rfl (bz lU rfl rfl)<|zo rfl (ja jB rfl)<|zo rfl (bl hI)<|an ?_;refine Em (Z:=fun bad stack l c=>fC bad stack=some R) (Of:=fun bad stack l c=>[bx af 82 b lb,bx rV 77 b1 (aw l c stack.length),cG af 82 l c stack]) (Gf:=fun bad stack l c=>[(4,tV (aI b 0)),(6,tV (aI b1 0)),(7,bq af lb),(9,bH bad)]) (fun bad stack l c h=>?_) (fun K=>?_)
 ·skip
  refine au<|ae<|aq<|aA rfl<|zo rfl (rn rfl)<|an<|cX h rfl (fun h=>?_) (fun h=>?_)
  ·refine aq<|zo J (bz bt J J)<|aA J<|ay bt J ap J (ht J) (ht J)<|bk J<|an<|aj ?_;refine aa (lG ?_);refine bR 4 J<|ba<|ba ?_;cases so h;exact dE J J ⟨cC bt J J J,dY J,aU⟩
  ·refine dA<|aq<|zo J (lj EF (.tail _ (.head _)) (ht J))<|bF h fun e1 q_e1 h=>zo J (dk pX bt (.tail _ (.tail _ (.head _))) (ht J) hI q_e1)<|zo J (fG (r:=af) (i:=(0:Int)) (foff:=0) bt J J cF J (.tail _ (.tail _ (.head _))) q_e1 (ht J))<|ay bt J ap J (ht J) (ht J)<|zo J (cQ)<|an<|aj<|lG<|bR 4 J<|ba<|ba ?_;cases so h;exact dE J J ⟨cC bt J J J,dY J,aU⟩
 ·skip
  refine aV (k:=16) J fun hN=>bB<|fc<|fc<|jI ?_;refine aJ (sN (Z:=fun ls i bad1 stack1 l1 c1=>(e.Nodes.drop i=ls)∧dr do1 ls bad1 stack1=some R) (Of:=fun _ i bad1 stack1 l1 c1=>[bx af 82 b lb,bx rV 77 b1 (aw l1 c1 stack1.length),cG af 82 l1 c1 stack1]) (Gf:=fun _ i bad1 stack1 l1 c1=>[(1,(dJ aM Oc qB (fun(x:bc×(List M))=>do1 x.1 x.2))),(4,tV (aI b 0)),(6,tV (aI b1 0)),(7,bq af lb),(8,tC 133 [tV (aI b1 0)]),(9,bH bad1),(16,d7 (aQ) e.Nodes),(17,hM e.Nodes),(18,bH (i:Int))]) (fun i bad1 stack1 l1 c1 h=>?_) (fun e2 tl ih i bad1 stack1 l1 c1 h=>?_) e.Nodes 0 (0:Int) Ev none 0 ⟨J,h⟩) (aZ J)
  ·obtain⟨hx,h⟩:=h
   refine av<|aq<|zo J (eK J J)<|an<|ae<|bp (ht J) (cW hx)<|bg ?_;refine ac (ac (aF ?_));exact bL (K bad1 stack1 l1 c1 h) (aZ J)
  ·obtain⟨hx,h⟩:=h
   refine av<|aq<|zo J (eK J J)<|an<|ae<|bo (ht J) (cU hx)<|dA<|ae<|ax<|aq<|zo J (iX jB cY J J J (cP hx))<|zo J (bz cY J J)<|aO (r:=aQ) (x:=ue) cY (fun _=>k8 _) J fun b3=>ay cY J ap J (ht J) (ht J)<|aL 11 J<|an<|ae<|bF h fun r q_r h=>bF h fun r1 q_r1 h=>?_
   obtain⟨r2,q_r2,h⟩:=bs h
   refine Hq 13 [tc ((dJ aM Oc qB (fun(x:bc×(List M))=>do1 x.1 x.2))),tc (tD aQ e2),tc (tC 133 [tV (aI b1 0)]),tc (bq bQ e2.Tag),tc (bH e2.Tag),tc (bH r),tc (d7 (af) r1.1),tc (tT [tD af r2.1,bH r2.2]),tc (tT [tD af r2.1,bH r2.2]),tc (tD af r2.1),tc (bH r2.2),([11],fun s=>tV (aI ((s.getD 0 wc).h 0).2 0)),tc (Bq)] [false,false,false,false,false,false,true,false,false,false,false,true,true] [([],fun _=>[bx af 82 b lb,bx rV 77 b1 (aw l1 c1 stack1.length),cG af 82 l1 c1 stack1]),([6],fun sg=>[bx rV 77 b1 (aw ((sg 6).h 0).1 ((sg 6).h 0).2 r1.2.length),cG af 82 ((sg 6).h 0).1 ((sg 6).h 0).2 r1.2,bx af 82 b lb]),([11],fun sg=>[bx af 82 ((sg 11).h 0).2 lb,bx af 82 b lb,bx rV 77 b1 (aw l1 c1 stack1.length),cG af 82 l1 c1 stack1]),([6,11],fun sg=>[bx af 82 ((sg 11).h 0).2 lb,bx rV 77 b1 (aw ((sg 6).h 0).1 ((sg 6).h 0).2 r1.2.length),cG af 82 ((sg 6).h 0).1 ((sg 6).h 0).2 r1.2,bx af 82 b lb]),([6,11,12],fun sg=>[bx af 82 ((sg 11).h 0).2 r2.1,bx rV 77 b1 (aw ((sg 6).h 0).1 ((sg 6).h 0).2 r1.2.length),cG af 82 ((sg 6).h 0).1 ((sg 6).h 0).2 r1.2,bx af 82 b lb])] (fun _=>J) mixed J J J J
    ⟨⟨[⟨1,fun _=>(dJ aM Oa Ax (fun(x:bc×(List M))=>do1 x.1 x.2)),none⟩],_,[[],[6],[11],[6,11]],J,⟨(fun _=>J),aU⟩,J,J,J,J,J,⟨fun sg=>ak J (cL J),fun sg=>ak J (cL J),fun sg=>ak J (cL J),fun sg=>ak J (cL J),aU⟩⟩,
    ⟨⟨[⟨11,fun _=>bq aQ e2,none⟩],_,[[],[6],[11],[6,11]],J,⟨(fun _=>J),aU⟩,J,J,J,J,J,⟨fun sg=>ak J (bz cY J J),fun sg=>ak J (bz cY J J),fun sg=>ak J (bz cY J J),fun sg=>ak J (bz cY J J),aU⟩⟩,
    ⟨⟨[⟨8,fun _=>tC 133 [tV (aI b1 0)],none⟩],_,[[],[11]],J,⟨(fun _=>J),aU⟩,J,J,J,J,J,⟨fun sg=>ak J (cL J),fun sg=>ak J (cL J),aU⟩⟩,
    ⟨⟨[⟨11,fun _=>bq aQ e2,none⟩],_,[[],[11]],J,⟨(fun _=>J),aU⟩,J,J,J,J,J,⟨fun sg=>ak J (cd iA ef J J),fun sg=>ak J (cd iA ef J J),aU⟩⟩,
    ⟨⟨[⟨26,fun _=>bq bQ e2.Tag,some 3⟩],_,[[],[11]],J,⟨(fun _=>J),aU⟩,J,J,J,J,J,⟨fun sg=>ak J (bz bJ J J),fun sg=>ak J (bz bJ J J),aU⟩⟩,
    ⟨⟨[⟨27,fun _=>tD bQ e2.Tag,some 4⟩],_,[[],[11]],J,⟨(fun _=>J),aU⟩,J,J,J,J,J,⟨fun sg=>ak J (aD JY (A7 _ q_r) ⟨(ht J),aU⟩),fun sg=>ak J (aD JY (A7 _ q_r) ⟨(ht J),aU⟩),aU⟩⟩,
    ⟨⟨[⟨25,fun _=>tC 133 [tV (aI b1 0)],some 2⟩,⟨28,fun _=>tD bQ r,some 5⟩],_,[([],[6]),([11],[6,11])],J,⟨(fun _=>J),(fun _=>J),aU⟩,J,J,J,J,J,⟨fun sg=>dN J (EffOK.fr2 (EffOK.fr2 (vU (xs:=[.tmp 28]) (ts:=[tD bQ r]) (cts:=[tV (aI b1 0)]) [bx rV 77 b1 (aw l1 c1 stack1.length),cG af 82 l1 c1 stack1] _ J RW (Ni b1 l1 c1 _ _ q_r1) (ht J) ⟨(ht J),aU⟩ (fun _=>J)))),fun sg=>dN J (EffOK.post_imp (post:=fun x__=>(fun(sg:Nat→OI)=>[bx rV 77 b1 (aw ((sg 6).h 0).1 ((sg 6).h 0).2 r1.2.length),cG af 82 ((sg 6).h 0).1 ((sg 6).h 0).2 r1.2,bx af 82 ((sg 11).h 0).2 lb,bx af 82 b lb]) (Ht sg 6 x__)) (EffOK.fr3 (EffOK.fr3 (vU (xs:=[.tmp 28]) (ts:=[tD bQ r]) (cts:=[tV (aI b1 0)]) [bx rV 77 b1 (aw l1 c1 stack1.length),cG af 82 l1 c1 stack1] _ J RW (Ni b1 l1 c1 _ _ q_r1) (ht J) ⟨(ht J),aU⟩ (fun _=>J)))) (fun h=>dp.pick [2,0,1,3] J h)),aU⟩⟩,
    ⟨⟨[⟨23,fun _=>(dJ aM Oa Ax (fun(x:bc×(List M))=>do1 x.1 x.2)),some 0⟩,⟨24,fun _=>tD aQ e2,some 1⟩,⟨29,fun _=>tD rp r1.1,some 6⟩],_,[[6],[6,11]],J,⟨(fun _=>J),(fun _=>J),(fun _=>J),aU⟩,J,J,J,J,J,⟨fun sg=>ak J (ej (args:=Oa) (res:=Ax) (f:=(fun(x:bc×(List M))=>do1 x.1 x.2)) (x:=((e2,r1.1):bc×(List M))) (ht J) q_r2 ⟨(ht J),(ht J),aU⟩),fun sg=>ak J (ej (args:=Oa) (res:=Ax) (f:=(fun(x:bc×(List M))=>do1 x.1 x.2)) (x:=((e2,r1.1):bc×(List M))) (ht J) q_r2 ⟨(ht J),(ht J),aU⟩),aU⟩⟩,
    ⟨⟨[⟨30,fun _=>tT [tD af r2.1,tD bQ r2.2],some 7⟩],_,[[6],[6,11]],J,⟨(fun _=>J),aU⟩,J,J,J,J,J,⟨fun sg=>ak J (cL J),fun sg=>ak J (cL J),aU⟩⟩,
    ⟨⟨[⟨22,fun _=>tT [tD af r2.1,tD bQ r2.2],some 8⟩],_,[[6],[6,11]],J,⟨(fun _=>J),aU⟩,J,J,J,J,J,⟨fun sg=>ak J (hY J J),fun sg=>ak J (hY J J),aU⟩⟩,
    ⟨⟨[⟨22,fun _=>tT [tD af r2.1,tD bQ r2.2],some 8⟩],_,[[6],[6,11],[6,11,12]],J,⟨(fun _=>J),aU⟩,J,J,J,J,J,⟨fun sg=>ak J (hY J J),fun sg=>ak J (hY J J),fun sg=>ak J (hY J J),aU⟩⟩,
    ⟨⟨[],_,[([],[11]),([6],[6,11])],J,aU,J,J,J,J,J,⟨fun sg=>dN J (nA (r:=af) (x:=lb) bt (fun _=>ca _)),fun sg=>dN J (nA (r:=af) (x:=lb) bt (fun _=>ca _)),aU⟩⟩,
    ⟨⟨[⟨12,fun sg=>tV (aI ((sg 11).h 0).2 0),some 11⟩,⟨31,fun _=>tD af r2.1,some 9⟩],_,[([6,11],[6,11,12])],J,⟨(fun _=>J),(fun _=>J),aU⟩,J,J,J,J,J,⟨fun sg=>dN J (f6 bt J (HG ap) J (ht J) (ht J)),aU⟩⟩,
    aU⟩⟩⟩⟩⟩⟩⟩⟩⟩⟩⟩⟩⟩ (fun sg=>?_)
   refine(show RG _ _ _ _ [bx af 82 ((sg 11).h 0).2 r2.1,bx rV 77 b1 (aw ((sg 6).h 0).1 ((sg 6).h 0).2 r1.2.length),cG af 82 ((sg 6).h 0).1 ((sg 6).h 0).2 r1.2,bx af 82 b lb] _ from ?_);refine aL 12 J<|bk J<|an<|ae<|aq<|aA J<|zo J (rn J)<|an<|cX h J (fun h=>?_) (fun h=>?_)
   ·refine aq<|aA J<|bk J<|an<|bg ?_;refine ac (bM J (ac (ac (aF ?_))));refine aX<|aX<|aR ?_;exact bL (K r2.2 r1.2 ((sg 6).h 0).1 ((sg 6).h 0).2 h) (aZ J)
   ·refine dA<|ai<|zo J (lj EF (.head _) (ht J))<|zo J (bz bt J J)<|zo J (aP (r:=af) (ys:=[r2.1]) (xs:=[.tmp 37]) pX bt J J J J J ⟨(ht J),aU⟩)<|bD<|bF h fun l2 q_l2 h=>ep bt J J J J pX J J (ht J) (ht J) q_l2 fun l3 c2=>bD<|ay EF J ap J (ht J) (AW (ht J))<|aH<|am<|au<|ai<|zo rfl (jU (cz hx hN) rfl)<|aA rfl<|aH<|aX<|aX<|aR ?_;exact aT (aJ (ih (i+1) bad1 l2 l3 c2 ⟨cy hx,h⟩) (aZ J))

end Go.Proofs.YtmogpgcfognefaaGreatDoor

