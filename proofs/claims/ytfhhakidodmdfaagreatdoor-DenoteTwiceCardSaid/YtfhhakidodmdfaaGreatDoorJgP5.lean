/- cP of this claim: P5. -/
import Derived.Test.YtfhhakidodmdfaaGreatDoorJgT
import Derived.Test.YtfhhakidodmdfaaGreatDoorJgP4
set_option linter.all false
namespace Go.Proofs.YtfhhakidodmdfaaGreatDoor
open Go
set_option maxRecDepth 100000

theorem VA(a1:(List (List ac)))(b:(List (List ac))):Ax aQ 170 (fun(x:Int×(List ac))=>[bM x.1,ca (af) x.2]) (fun _=>me a1 b) [] [bK dO a1,bK dO b]:=by
 refine Ax.of Tryz.func170 J J J fun Sg yld s R h I yv hy e he w0 S0 B hB=>?_
 replace h:me a1 b yld s=some R:=h
 refine aw<|zo J (bB gF J J)<|zo J (jg jF J)<|zo J (bI hI)<|av<|aA<|be (k:=8) J fun hN=>bL ?_;refine aU (vE (Z:=fun ls i e1 s1=>(a1.drop i=ls)∧I s1 e1∧dI b yld ls i s1=some R) (Of:=fun _ i e1 s1=>[e1]) (Gf:=fun _ i e1 s1=>[(0,tV yv),(2,bK dO b),(8,ca (cY) a1),(9,jz a1),(10,bM (i:Int))]) (fun i e1 s1 h=>?_) (fun e2 tl ih i e1 s1 h=>?_) a1 0 e s ⟨J,⟨he,h⟩⟩) (bu J)
 ·obtain⟨hx,h⟩:=h
  obtain⟨he1,h⟩:=h
  refine aB<|aw<|zo J (fM J J)<|av<|ah<|bz (ht J) (du hx)<|bv ?_;refine ai (ai (aO ?_));cases so h;exact LP J he1 hB trivial
 ·obtain⟨hx,h⟩:=h
  obtain⟨he1,h⟩:=h
  refine aB<|aw<|zo J (fM J J)<|av<|ah<|bw (ht J) (di hx)<|dS<|ah<|aA<|aw<|aG J<|zo J (my jF dW J J J (da hx))<|zo J (bB dW J J)<|bp J<|bp J<|av<|aw<|zo J (bB gF J J) ?_;refine zo J (jg jF J)<|zo J (bI hI)<|av<|aA<|be (k:=15) J fun hN1=>bL ?_;refine aU (vE (Z:=fun ls1 i1 e3 s2=>(b.drop i1=ls1)∧I s2 e3∧fG yld (dI b yld tl) i e2 ls1 s2=some R) (Of:=fun _ i1 e3 s2=>[e3]) (Gf:=fun _ i1 e3 s2=>[(0,tV yv),(2,bK dO b),(4,bM (i:Int)),(5,ca (af) e2),(8,ca (cY) a1),(9,jz a1),(10,bM (i:Int)),(15,ca (cY) b),(16,jz b),(17,bM (i1:Int))]) (fun i1 e3 s2 h=>?_) (fun e4 tl1 ih1 i1 e3 s2 h=>?_) b 0 e1 s1 ⟨J,⟨he1,h⟩⟩) (bu J)
  ·obtain⟨hx1,h⟩:=h
   obtain⟨he2,h⟩:=h
   refine aB<|aw<|zo J (fM J J)<|av<|ah<|bz (ht J) (du hx1)<|bv ?_;refine ai (ai (aO ?_));refine aq<|ax<|au<|zo rfl (mz (cM hx hN) rfl)<|aG rfl<|aP ?_;exact bm (aU (ih (i+1) e3 s2 ⟨cL hx,⟨he2,h⟩⟩) (bu J))
  ·obtain⟨hx1,h⟩:=h
   obtain⟨he2,h⟩:=h
   refine aB<|aw<|zo J (fM J J)<|av<|ah<|bw (ht J) (di hx1)<|dS<|ah<|aA<|aw<|zo J (my jF dW J J J (da hx1))<|zo J (bB dW J J)<|bp J<|av<|aw<|aG J<|aG J<|aG J ?_;refine aG J<|zo J (aS (r:=cY) (ys:=[e2,e4]) (xs:=[.tmp 23,.tmp 24]) jF dW J J J J J ⟨(ht J),(ht J),aT⟩)<|bC h fun r q_r h=>iy Xd (Le _ q_r) ⟨(ht J),aT⟩ J fun l c=>jC<|iW 26 J<|bF<|bC h fun r1 q_r1 h=>FL hy he2 q_r1 (ht J) ⟨(ht J),(kz (ht J)),aT⟩ J fun e5 he3=>zo J (gh (ht J))<|av<|cU h J (fun h=>?_) (fun h=>?_)
   ·refine am ?_;refine aD (ae (ae (aD (aD (ae (ae (aD ?_)))))));refine bD<|ba ?_;cases so h;exact Jl J he3 hB trivial
   ·refine bA<|aq<|ax<|au<|zo rfl (mz (cM hx1 hN1) rfl)<|aG rfl<|aP<|bD<|ba ?_;exact bm (aU (ih1 (i1+1) e5 r1.2 ⟨cL hx1,⟨he3,h⟩⟩) (bu J))

theorem Sn(a1:(List (List ac)))(b:(List (List ac))){R:It (Int×(List ac))}(h:wu a1 b=some R):Ap aQ 102 [ca (cY) a1,ca (cY) b] (fun(x:Int×(List ac))=>[bM x.1,ca (af) x.2]) R:=by
 refine Ap.of Tryz.func102 J J J fun w0 S0=>aw<|zo J (jm J)<|zo J (jm J)<|zo J (aM hV)<|av<|aw<|Dk (O1:=[]) (cts:=[bK dO a1,bK dO b]) (caps:=[.tmp 2,.tmp 3]) J abN (VA a1 b) ⟨(ht J),(ht J),aT⟩ J fun v fp=>bp J<|av<|am ?_;cases so h;exact LN J J

theorem UV(do1:(ac→ac→Option (ac×Int)))(a1:ac)(b:ac){R:ac×Int}(h:lB do1 a1 b=some R):aX aQ 323 [tD af a1,tD af b,bK (rT ((dX aQ qx s5 (fun(x:ac×ac)=>do1 x.1 x.2)))) ()] (tT [tD af R.1,bM R.2]):=by
 refine aX.of Tryz.func323 J J J fun w0 S0=>aw<|zo J (jm J)<|zo J (jm J)<|aW (r:=af) (x:=ig) aH (fun _=>bj _) J fun b1=>zo J (cD)<|av<|aw<|zo J (vn Wr (ht J))<|zo J (bB aH J J)<|zo J (bB aH J J)<|bC h fun r q_r h=>zo J (gZ (args:=qx) (res:=Dp) (f:=(fun(x:ac×ac)=>do1 x.1 x.2)) (x:=((b,a1):ac×ac)) (ht J) q_r ⟨(ht J),(ht J),aT⟩)<|zo J (gp J J)<|zo J (gp J J)<|ap aH J an J (ht J) (ht J)<|aV 5 J<|bp J<|av<|am ?_;cases so h;exact bR J J ⟨bq aH J J J,aZ J,aT⟩

theorem Vc(do1:(ac→ac→Option (ac×Int))){R:(ac→ac→Option (ac×Int))}(h:Da do1=some R):aX aQ 261 [(dX aQ qx s5 (fun(x:ac×ac)=>do1 x.1 x.2))] ((dX aQ qx s5 (fun(x:ac×ac)=>R x.1 x.2))):=by
 refine aX.of Tryz.func261 J J J fun w0 S0=>aw<|zo J (DE (ht J))<|zo J (aM hV)<|av<|aw<|zo J ((show bS _ _ _ _ ((dX aQ qx s5 (fun(x:ac×ac)=>(lB do1) x.1 x.2)))from iK (cts:=[bK (rT ((dX aQ qx s5 (fun(x:ac×ac)=>do1 x.1 x.2)))) ()]) (caps:=[.tmp 1]) aaS ⟨(ht J),aT⟩ (fun x y h=>UV _ _ _ h)))<|bp J<|av<|am ?_;cases so h;exact aJ J J

theorem I1{R:ac}(h:pm=some R):aX aQ 216 [] (tD af R):=by
 refine aX.of Tryz.func216 J J J fun w0 S0=>aw<|aW (r:=af) (x:=ig) aH (fun _=>bj _) J fun b=>av<|aw<|zo J (bU (y:=ig) aH qk bj (J))<|ap aH J an J (ht J) (ht J)<|aV 0 J<|av<|am ?_;cases so h;exact iX J aH J J J

theorem I0(b:Bool){R:ac}(h:pn b=some R):aX aQ 256 [iR b] (tD af R):=by
 refine aX.of Tryz.func256 J J J fun w0 S0=>aw<|aW (r:=af) (x:=ig) aH (fun _=>bj _) J fun b1=>av<|aw<|zo J (bU (y:=LT) aH qk bj (⟨_,_,_,_,_,J,mD,J,hI,J⟩))<|aW (r:=af) (x:=ig) aH (fun _=>bj _) J fun b2=>ap aH J an J (ht J) (ht J)<|av ?_;refine kw (Z:=fun v=>uO v=some R) (Of:=fun v=>[bx af 46 b1 ig,bx af 46 b2 v]) (Gf:=fun v=>[(2,tV (aN b1 0)),(3,tV (aN b2 0))]) (fun v h=>?_) (fun K=>?_)
 ·skip
  refine aw<|zo J (cg aH J J bT (.tail _ (.head _)) (ht J))<|ap aH J an J (ht J) (ht J)<|aV 2 J<|av<|am<|ba ?_;cases so h;exact iX J aH J J J
 ·skip
  refine aw<|aG J<|av<|cU h J (fun h=>?_) (fun h=>?_)
  ·refine au<|zo J (jN 1 lY J J J)<|ap F8 J pp J (ht J) hI<|aP<|bD ?_;exact cw (K (ac.mk LT.Kind (1:Int) LT.U LT.S) h) (bu J)
  ·refine bA<|bD ?_;exact cw (K LT h) (bu J)

theorem OC(l:(List ac)){R:Int}(h:pG l=some R):aX aQ 363 [ca (af) l] (bM R):=by
 refine aX.of Tryz.func363 J J J fun w0 S0=>aw<|zo J (cD)<|av<|ah<|aw<|aG J<|zo J (jg ki J)<|zo J (bI hI)<|av<|aA<|be (k:=6) J fun hN=>bL ?_;refine aU (eI (Z:=fun ls i=>(l.drop i=ls)∧jn ls=some R) (Of:=fun _ i=>[]) (Gf:=fun _ i=>[(6,ca (af) l),(7,jz l),(8,bM (i:Int))]) (fun i h=>?_) (fun e tl ih i h=>?_) l 0 ⟨J,h⟩) (bu J)
 ·obtain⟨hx,h⟩:=h
  refine aB<|aw<|zo J (fM J J)<|av<|ah<|bz (ht J) (du hx)<|bv ?_;refine ai (ai (aO ?_));refine ax<|aw<|zo rfl (cD)<|av<|am ?_;cases so h;exact aJ J J
 ·obtain⟨hx,h⟩:=h
  refine aB<|aw<|zo J (fM J J)<|av<|ah<|bw (ht J) (di hx)<|dS<|ah<|aA<|aw<|zo J (my ki aH J J J (da hx))<|zo J (bB aH J J)<|aW (r:=af) (x:=ig) aH (fun _=>bj _) J fun b=>ap aH J an J (ht J) (ht J)<|aV 4 J<|av<|aw<|zo J (bB aH J J) ?_;refine bC h fun r q_r h=>zo J (aC Lo (Bu _ q_r) ⟨(ht J),aT⟩)<|bp J<|av<|aw<|aG J<|zo J (s4 J)<|av<|cU h J (fun h=>?_) (fun h=>?_)
  ·refine aw<|aG J<|bp J<|av<|am ?_;refine aD (ae (ae (aD (ae ?_))));cases so h;exact aJ J J
  ·refine bA<|aq<|ax<|au<|zo rfl (mz (cM hx hN) rfl)<|aG rfl<|aP ?_;exact bm (aU (ih (i+1) ⟨cL hx,h⟩) (bu J))

theorem OS(p:Int){R:Bool}(h:nE p=some R):aX aQ 153 [bM p] (iR R):=by
 refine aX.of Tryz.func153 J J J fun w0 S0=>aw<|zo J (jL)<|av<|aw<|aG J<|aG J<|zo J (fe (ht J) (ht J))<|bp J<|av<|am ?_;cases so h;exact aJ J J

theorem R2(p:Int)(y:Int){R:Int}(h:iM p y=some R):aX aQ 88 [bM p,bM y] (bM R):=by
 refine aX.of Tryz.func88 J J J fun w0 S0=>aw<|zo J (cD)<|av<|aw<|aG J<|bC h fun r q_r h=>zo J (aC Xb (OS _ q_r) ⟨(ht J),aT⟩)<|bp J<|av<|aw<|aG J<|bC h fun r1 q_r1 h=>zo J (aC Xb (OS _ q_r1) ⟨(ht J),aT⟩)<|bp J<|av<|ah<|ah ?_;refine au<|aG J<|av<|cU h J (fun h=>?_) (fun h=>?_)
 ·refine ah<|aw<|aG J<|av<|cU h J (fun h=>?_) (fun h=>?_)
  ·refine aw<|zo J (cD)<|av<|am ?_;refine ae (ae ?_);cases so h;exact aJ J J
  ·refine dS<|aw<|zo J (cD)<|av<|am<|ae ?_;cases so h;exact aJ J J
 ·refine dS<|ah<|aw<|aG J<|av<|cU h J (fun h=>?_) (fun h=>?_)
  ·refine aw<|zo J (cD)<|av<|am<|ae ?_;cases so h;exact aJ J J
  ·refine dS<|ah<|aw<|aG J<|aG J<|zo J (fM J J)<|av<|cU h J (fun h=>?_) (fun h=>?_)
   ·refine aw<|zo J (cD)<|av<|am<|ae ?_;cases so h;exact aJ J J
   ·refine dS<|ah<|aw<|aG J<|aG J<|zo J (gv (ht J) (ht J))<|av<|cU h J (fun h=>?_) (fun h=>?_)
    ·refine aw<|zo J (cD)<|av<|am<|ae ?_;cases so h;exact aJ J J
    ·refine dS<|aw<|zo J (cD)<|av<|am ?_;cases so h;exact aJ J J

theorem I2(vals:(List Int)){R:Int}(h:mY vals=some R):aX aQ 176 [mv vals] (bM R):=by
 refine aX.of Tryz.func176 J J J fun w0 S0=>aw<|zo J (cD)<|av<|aw<|zo J (cD)<|av<|ah<|aw<|aG J<|zo J (jg gT J)<|zo J (bI hI)<|av<|aA<|be (k:=6) J fun hN=>bL ?_;refine aU (eI (Z:=fun ls i=>(vals.drop i=ls)∧fW ls=some R) (Of:=fun _ i=>[]) (Gf:=fun _ i=>[(3,bM 0),(6,mv vals),(7,jz vals),(8,bM (i:Int))]) (fun i h=>?_) (fun e tl ih i h=>?_) vals 0 ⟨J,h⟩) (bu J)
 ·obtain⟨hx,h⟩:=h
  refine aB<|aw<|zo J (fM J J)<|av<|ah<|bz (ht J) (du hx)<|bv ?_;refine ai (ai (aO ?_));refine ax<|aw<|aG rfl<|bp rfl<|av<|am ?_;cases so h;exact aJ J J
 ·obtain⟨hx,h⟩:=h
  refine aB<|aw<|zo J (fM J J)<|av<|ah<|bw (ht J) (di hx)<|dS<|ah<|aA<|aw<|zo J (my gT cx J J J (da hx))<|zo J (bB cx J J)<|bp J<|av<|aw<|aG J<|aG J<|zo J (fe (ht J) (ht J)) ?_;refine av<|cU h J (fun h=>?_) (fun h=>?_)
  ·refine aw<|aG J<|bp J<|av<|am ?_;refine aD (ae (ae (aD (ae ?_))));cases so h;exact aJ J J
  ·refine bA<|aq<|ax<|au<|zo rfl (mz (cM hx hN) rfl)<|aG rfl<|aP ?_;exact bm (aU (ih (i+1) ⟨cL hx,h⟩) (bu J))

theorem OJ(p:Int){R:Bool}(h:kV p=some R):aX aQ 310 [bM p] (iR R):=by
 refine aX.of Tryz.func310 J J J fun w0 S0=>aw<|zo J (jL)<|av<|aw<|aG J<|aG J<|zo J (fe (ht J) (ht J))<|bp J<|av<|am ?_;cases so h;exact aJ J J

theorem OQ(p:Int)(y:Int){R:Int}(h:gD p y=some R):aX aQ 243 [bM p,bM y] (bM R):=by
 refine aX.of Tryz.func243 J J J fun w0 S0=>aw<|zo J (cD)<|av<|aw<|aG J<|bC h fun r q_r h=>zo J (aC WR (OJ _ q_r) ⟨(ht J),aT⟩)<|bp J<|av<|aw<|aG J<|bC h fun r1 q_r1 h=>zo J (aC WR (OJ _ q_r1) ⟨(ht J),aT⟩)<|bp J<|av<|ah<|ah ?_;refine au<|aG J<|av<|cU h J (fun h=>?_) (fun h=>?_)
 ·refine ah<|aw<|aG J<|av<|cU h J (fun h=>?_) (fun h=>?_)
  ·refine aw<|zo J (cD)<|av<|am ?_;refine ae (ae ?_);cases so h;exact aJ J J
  ·refine dS<|aw<|zo J (cD)<|av<|am<|ae ?_;cases so h;exact aJ J J
 ·refine dS<|ah<|aw<|aG J<|av<|cU h J (fun h=>?_) (fun h=>?_)
  ·refine aw<|zo J (cD)<|av<|am<|ae ?_;cases so h;exact aJ J J
  ·refine dS<|ah<|aw<|aG J<|aG J<|zo J (fM J J)<|av<|cU h J (fun h=>?_) (fun h=>?_)
   ·refine aw<|zo J (cD)<|av<|am<|ae ?_;cases so h;exact aJ J J
   ·refine dS<|ah<|aw<|aG J<|aG J<|zo J (gv (ht J) (ht J))<|av<|cU h J (fun h=>?_) (fun h=>?_)
    ·refine aw<|zo J (cD)<|av<|am<|ae ?_;cases so h;exact aJ J J
    ·refine dS<|aw<|zo J (cD)<|av<|am ?_;cases so h;exact aJ J J

theorem UB(a1:xb)(b:xb){R:Int}(h:ja a1 b=some R):aX aQ 382 [tD rS a1,tD rS b] (bM R):=by
 refine aX.of Tryz.func382 J J J fun w0 S0=>aw<|zo J (cD)<|av<|aw<|aG J<|aG J<|zo J (Ua Tryz.func386 (by kernel_rfl) (by kernel_rfl) (by kernel_rfl) (by kernel_rfl) (ht J) (ht J))<|bp J<|av<|am ?_;cases so h;exact aJ J J

theorem UC(a1:xb)(b:xb){R:Int}(h:pe a1 b=some R):aX aQ 376 [tD rS a1,tD rS b] (bM R):=by
 refine aX.of Tryz.func376 J J J fun w0 S0=>aw<|zo J (cD)<|av<|aw<|aG J<|aG J<|bC h fun r q_r h=>zo J (aC aav (UB _ _ q_r) ⟨(ht J),(ht J),aT⟩)<|bp J<|av<|am ?_;cases so h;exact aJ J J

theorem UE(a1:ac)(b:ac){R:Int}(h:lu a1 b=some R):aX aQ 364 [tD af a1,tD af b] (bM R):=by
 refine aX.of Tryz.func364 J J J fun w0 S0=>aw<|zo J (jm J)<|zo J (jm J)<|zo J (cD)<|av<|ah<|aw<|zo J (bB aH J J)<|bC h fun r q_r h=>zo J (aC Pb (DO _ q_r) ⟨(ht J),aT⟩)<|zo J (gh (ht J))<|aG J<|bC h fun t q_t h=>gz J J (fun hg=>bB aH J J) ?_
 obtain⟨r1,h1t,h0t⟩:=og q_t
 have q_r1g:=fun hb=>(h1t hb).1
 refine gz J J (fun hg=>aC Pb (DO _ (q_r1g hg)) ⟨(bN J hg),aT⟩)<|gz J J (fun hg=>gh (bN J hg))<|zo J (kG (ht J) (fun hb=>(bN J (Ae hb))) (fun hb=>(h1t hb).2) h0t)<|av<|cU h J (fun h=>?_) (fun h=>?_)
 ·refine aw<|zo J (cD)<|av<|am<|ae ?_;cases so h;exact aJ J J
 ·refine dS<|ah<|bC h fun r2 q_r2 h=>bC h fun r3 q_r3 h=>bC h fun r4 q_r4 h=>bC h fun r5 q_r5 h=>?_
  refine c9 (ts:=[_,_,_,_,_,_,_,_,_,_,_,_,_,_,_,_,_,_]) mixed J J
   ⟨eM 2 J J J (df hZ cQ J J),
   ⟨bY 13 0 J J J (bB cx J J),
   ⟨eM 3 J J J (df hZ cQ J J),
   ⟨bY 15 2 J J J (bB cx J J),
   ⟨d8 14 1 16 3 J J J J (aC aar (R2 _ _ q_r2) ⟨(ht J),(ht J),aT⟩),
   ⟨eM 2 J J J (df lY ft J J),
   ⟨bY 18 5 J J J (bB F8 J J),
   ⟨eM 3 J J J (df lY ft J J),
   ⟨bY 20 7 J J J (bB F8 J J),
   ⟨d8 19 6 21 8 J J J J (aC WZ (OQ _ _ q_r3) ⟨(ht J),(ht J),aT⟩),
   ⟨eM 2 J J J (df xX oh J J),
   ⟨bY 23 10 J J J (bB TE J J),
   ⟨eM 3 J J J (df xX oh J J),
   ⟨bY 25 12 J J J (bB TE J J),
   ⟨d8 24 11 26 13 J J J J (aC aax (UC _ _ q_r4) ⟨(ht J),(ht J),aT⟩),
   ⟨GL 17 4 22 9 27 14 J J J J J (aS (r:=cd) (ys:=[r2,r3,r4]) (xs:=[.tmp 17,.tmp 22,.tmp 27]) gT cx J J J J J ⟨(ht J),(ht J),(ht J),aT⟩),
   ⟨bY 28 15 J J J (aC SM (I2 _ q_r5) ⟨(ht J),aT⟩),
   ⟨bY 29 16 J J J (u8 J),
   aT⟩⟩⟩⟩⟩⟩⟩⟩⟩⟩⟩⟩⟩⟩⟩⟩⟩⟩ ?_
  refine ax<|am ?_;cases so h;exact aJ J J

theorem OF(a1:ac)(b:ac)(is1:(Int→Option Bool)){R:ac×Int}(h:qF a1 b is1=some R):aX aQ 324 [tD af a1,tD af b,(dX aQ Jw nH (fun(x:Int)=>is1 x))] (tT [tD af R.1,bM R.2]):=by
 refine aX.of Tryz.func324 J J J fun w0 S0=>aw<|zo J (jm J)<|zo J (jm J)<|aW (r:=af) (x:=ig) aH (fun _=>bj _) J fun b1=>zo J (cD)<|av<|ah<|aw<|zo J (bB aH J J)<|zo J (bB aH J J)<|zo J (aS (r:=af) (ys:=[a1,b]) (xs:=[.tmp 10,.tmp 11]) ki aH J J J J J ⟨(ht J),(ht J),aT⟩)<|bC h fun r q_r h=>zo J (aC WM (OC _ q_r) ⟨(ht J),aT⟩)<|bp J<|av<|aw<|aG J<|zo J (s4 J) ?_;refine av<|cU h J (fun h=>?_) (fun h=>?_)
 ·refine aw<|zo J (bU (y:=ig) aH qk bj (J))<|aG J<|ap aH J an J (ht J) (ht J)<|bp J<|av<|am<|ae<|bk 6 J ?_;cases so h;exact bR J J ⟨bq aH J J J,aZ J,aT⟩
 ·refine dS<|aw<|zo J (df hZ cQ J J)<|zo J (bB cx J J)<|zo J (nI J)<|aG J<|gz J J (fun hg=>df hZ cQ J J)<|gz J J (fun hg=>bO cx J J (bN J hg))<|gz J J (fun hg=>dH (bN J hg) hI)<|zo J (xo J J)<|bp J<|av<|ah<|aA<|aw<|zo J (df hZ cQ J J)<|zo J (bB cx J J)<|zo J (nI J)<|aG J<|gz J J (fun hg=>df hZ cQ J J) ?_;refine gz J J (fun hg=>bO cx J J (bN J hg))<|gz J J (fun hg=>dH (bN J hg) hI)<|zo J (xo J J)<|aG J<|gz J J (fun hg=>dl J)<|gz J J (fun hg=>gh (bN J hg))<|gz J J (fun hg=>bI (bN J hg))<|jV J J J J (fun hg=>df hZ cQ J J)<|jV J J J J (fun hg=>bO cx J J (bN J hg))<|jV J J J J (fun hg=>df hZ cQ J J)<|jV J J J J (fun hg=>bO cx J J (bN J hg))<|jV J J J J (fun hg=>fe (bN J hg) (bN J hg))<|gz J J (fun hg=>qN (bN J hg) (fun hb=>(bN J (Dx hg hb))))<|zo J (xo J J)<|bp J<|av<|cU h J (fun h=>?_) (fun h=>?_)
  ·refine aw<|zo J (bU (y:=ig) aH qk bj (J))<|ap aH J an J (ht J) (ht J)<|zo J (cD)<|av<|am ?_;refine aD (ae ?_);refine bk 6 J ?_;cases so h;exact bR J J ⟨bq aH J J J,aZ J,aT⟩
  ·refine aw<|aG J<|bp J<|av<|cU h J (fun h=>?_) (fun h=>?_)
   ·refine aw<|bC h fun r1 q_r1 h=>zo J (aC SK (I1 q_r1) trivial)<|ap aH J an J (ht J) (ht J)<|zo J (cD)<|av<|am ?_;refine aD (ae ?_);refine bk 6 J ?_;cases so h;exact bR J J ⟨bq aH J J J,aZ J,aT⟩
   ·refine bA<|aq<|ax<|aw<|aG rfl<|zo rfl (bB aH rfl rfl)<|zo rfl (bB aH rfl rfl)<|bC h fun r2 q_r2 h=>zo J (aC aaA (UE _ _ q_r2) ⟨(ht J),(ht J),aT⟩)<|bC h fun r3 q_r3 h=>zo J (gZ (args:=(fun(x:Int)=>[tD cd x])) (res:=HS) (f:=(fun(x:Int)=>is1 x)) (x:=((r2):Int)) (ht J) q_r3 ⟨(ht J),aT⟩)<|bC h fun r4 q_r4 h=>zo J (aC SJ (I0 _ q_r4) ⟨(ht J),aT⟩)<|ap aH J an J (ht J) (ht J)<|zo J (cD)<|av<|am<|bk 6 J ?_;cases so h;exact bR J J ⟨bq aH J J J,aZ J,aT⟩

theorem UU(c:Int){R:Bool}(h:AR c=some R):aX aQ 325 [bM c] (iR R):=by
 refine aX.of Tryz.func325 J J J fun w0 S0=>aw<|zo J (jL)<|av<|aw<|aG J<|zo J (gi (ht J) hI)<|bp J<|av<|am ?_;cases so h;exact aJ J J

theorem IZ(a1:ac)(b:ac){R:ac×Int}(h:nS a1 b=some R):aX aQ 262 [tD af a1,tD af b] (tT [tD af R.1,bM R.2]):=by
 refine aX.of Tryz.func262 J J J fun w0 S0=>aw<|zo J (jm J)<|zo J (jm J)<|aW (r:=af) (x:=ig) aH (fun _=>bj _) J fun b1=>zo J (cD)<|av<|aw<|zo J (bB aH J J)<|zo J (bB aH J J)<|bC h fun r q_r h=>zo J (aC WO (OF _ _ _ q_r) ⟨(ht J),(ht J),(zC aaR fun x y h=>UU _ h),aT⟩)<|zo J (gp J J)<|zo J (gp J J)<|ap aH J an J (ht J) (ht J)<|aV 4 J<|bp J<|av<|am ?_;cases so h;exact bR J J ⟨bq aH J J J,aZ J,aT⟩

theorem UT(do1:(ac→Option (ac×Int)))(a1:ac)(x:ac){R:ac×Int}(h:mU do1 a1 x=some R):aX aQ 326 [tD af a1,tD af x,bK (rT ((dX aQ AP s5 (fun(x:ac)=>do1 x)))) ()] (tT [tD af R.1,bM R.2]):=by
 refine aX.of Tryz.func326 J J J fun w0 S0=>aw<|zo J (jm J)<|zo J (jm J)<|aW (r:=af) (x:=ig) aH (fun _=>bj _) J fun b=>zo J (cD)<|av<|aw<|zo J (vn ZF (ht J))<|zo J (bB aH J J)<|bC h fun r q_r h=>zo J (gZ (args:=AP) (res:=Dp) (f:=(fun(x:ac)=>do1 x)) (x:=((a1):ac)) (ht J) q_r ⟨(ht J),aT⟩)<|zo J (gp J J)<|zo J (gp J J)<|ap aH J an J (ht J) (ht J)<|aV 5 J<|bp J<|av<|am ?_;cases so h;exact bR J J ⟨bq aH J J J,aZ J,aT⟩

theorem OP(do1:(ac→Option (ac×Int))){R:(ac→ac→Option (ac×Int))}(h:Al do1=some R):aX aQ 263 [(dX aQ AP s5 (fun(x:ac)=>do1 x))] ((dX aQ qx s5 (fun(x:ac×ac)=>R x.1 x.2))):=by
 refine aX.of Tryz.func263 J J J fun w0 S0=>aw<|zo J (DE (ht J))<|zo J (aM hV)<|av<|aw<|zo J ((show bS _ _ _ _ ((dX aQ qx s5 (fun(x:ac×ac)=>(mU do1) x.1 x.2)))from iK (cts:=[bK (rT ((dX aQ AP s5 (fun(x:ac)=>do1 x)))) ()]) (caps:=[.tmp 1]) aaQ ⟨(ht J),aT⟩ (fun x y h=>UT _ _ _ h)))<|bp J<|av<|am ?_;cases so h;exact aJ J J

theorem Bt(n:Int){R:ac}(h:oC n=some R):aX aQ 130 [bM n] (tD af R):=by
 refine aX.of Tryz.func130 J J J fun w0 S0=>aw<|aW (r:=af) (x:=ig) aH (fun _=>bj _) J fun b=>av<|aw<|aG J<|zo J (bU (y:=(⟨(2:Int),n,(0:Int),[]⟩:ac)) aH qk bj (⟨_,_,_,_,_,J,mD,J,hI,⟨_,_,_,_,_,J,pp,J,(ht J),J⟩⟩))<|ap aH J an J (ht J) (ht J)<|aV 2 J<|av<|am ?_;cases so h;exact iX J aH J J J

theorem DL(kind:Int)(l:(List ac)){R:Int}(h:pO kind l=some R):aX aQ 288 [bM kind,ca (af) l] (bM R):=by
 refine aX.of Tryz.func288 J J J fun w0 S0=>aw<|zo J (cD)<|av<|aw<|zo J (cD)<|av<|ah<|aw<|aG J<|zo J (jg ki J)<|zo J (bI hI)<|av<|aA<|be (k:=8) J fun hN=>bL ?_;refine aU (oz (Z:=fun ls i e=>(l.drop i=ls)∧j7 kind ls e=some R) (Of:=fun _ i e=>[]) (Gf:=fun _ i e=>[(0,bM kind),(5,bM e),(8,ca (af) l),(9,jz l),(10,bM (i:Int))]) (fun i e h=>?_) (fun e1 tl ih i e h=>?_) l 0 (0:Int) ⟨J,h⟩) (bu J)
 ·obtain⟨hx,h⟩:=h
  refine aB<|aw<|zo J (fM J J)<|av<|ah<|bz (ht J) (du hx)<|bv ?_;refine ai (ai (aO ?_));refine ax<|aw<|aG rfl<|bp rfl<|av<|am ?_;cases so h;exact aJ J J
 ·obtain⟨hx,h⟩:=h
  refine aB<|aw<|zo J (fM J J)<|av<|ah<|bw (ht J) (di hx)<|dS<|ah<|aA<|aw<|zo J (my ki aH J J J (da hx))<|zo J (bB aH J J)<|aW (r:=af) (x:=ig) aH (fun _=>bj _) J fun b=>ap aH J an J (ht J) (ht J)<|aV 7 J<|av<|ah<|aw ?_;refine zo J (bB aH J J)<|bC h fun r q_r h=>zo J (aC Lo (Bu _ q_r) ⟨(ht J),aT⟩)<|zo J (s4 J)<|av<|cU h J (fun h=>?_) (fun h=>?_)
  ·refine aw<|zo J (cD)<|av<|am ?_;refine ae (aD (ae (ae (aD (ae ?_)))));cases so h;exact aJ J J
  ·refine dS<|aw<|zo J (df hZ cQ J J)<|zo J (bB cx J J)<|zo J (s4 J)<|aG J<|dQ J J (fun hg=>df hZ cQ J J)<|dQ J J (fun hg=>bO cx J J (bN J hg))<|dQ J J (fun hg=>dl J)<|dQ J J (fun hg=>fe (bN J hg) (bN J hg))<|zo J (u6 J J)<|av<|cU h J (fun h=>?_) (fun h=>?_)
   ·refine au<|zo J (cD)<|aP<|aq<|ax<|au<|zo rfl (mz (cM hx hN) rfl)<|aG rfl<|aP ?_;exact bm (aU (ih (i+1) (2:Int) ⟨cL hx,h⟩) (bu J))
   ·refine bA<|aq<|ax<|au<|zo rfl (mz (cM hx hN) rfl)<|aG rfl<|aP ?_;exact bm (aU (ih (i+1) e ⟨cL hx,h⟩) (bu J))

theorem DK(a1:ac)(b:ac)(to1:(Int→Int→Option (Int×Bool))){R:ac×Int}(h:rK a1 b to1=some R):aX aQ 330 [tD af a1,tD af b,(dX aQ (fun(x:Int×Int)=>[bM x.1,bM x.2]) (fun(x:Int×Bool)=>tT [bM x.1,iR x.2]) (fun(x:Int×Int)=>to1 x.1 x.2))] (tT [tD af R.1,bM R.2]):=by
 refine aX.of Tryz.func330 J J J fun w0 S0=>aw<|zo J (jm J)<|zo J (jm J)<|aW (r:=af) (x:=ig) aH (fun _=>bj _) J fun b1=>zo J (cD)<|av<|ah<|aw<|zo J (bB aH J J)<|zo J (bB aH J J)<|zo J (aS (r:=af) (ys:=[a1,b]) (xs:=[.tmp 11,.tmp 12]) ki aH J J J J J ⟨(ht J),(ht J),aT⟩)<|bC h fun r q_r h=>zo J (aC O8 (DL _ _ q_r) ⟨hI,(ht J),aT⟩)<|bp J<|av<|aw<|aG J<|zo J (s4 J) ?_;refine av<|cU h J (fun h=>?_) (fun h=>?_)
 ·refine aw<|zo J (bU (y:=ig) aH qk bj (J))<|aG J<|ap aH J an J (ht J) (ht J)<|bp J<|av<|am<|ae<|bk 6 J ?_;cases so h;exact bR J J ⟨bq aH J J J,aZ J,aT⟩
 ·refine dS<|ah<|aw<|zo J (df hZ cQ J J)<|zo J (bB cx J J)<|zo J (nI J)<|aG J<|gz J J (fun hg=>df hZ cQ J J)<|gz J J (fun hg=>bO cx J J (bN J hg))<|gz J J (fun hg=>dH (bN J hg) hI)<|zo J (xo J J)<|av<|cU h J (fun h=>?_) (fun h=>?_)
  ·refine aw<|bC h fun r1 q_r1 h=>zo J (aC SK (I1 q_r1) trivial)<|ap aH J an J (ht J) (ht J)<|zo J (cD)<|av<|am<|ae<|bk 6 J ?_;cases so h;exact bR J J ⟨bq aH J J J,aZ J,aT⟩
  ·refine dS<|aw<|aG J<|zo J (df lY ft J J)<|zo J (bB F8 J J)<|zo J (df lY ft J J)<|zo J (bB F8 J J)<|bC h fun r2 q_r2 h=>zo J (gZ (args:=(fun(x:Int×Int)=>[tD cd x.1,tD cd x.2])) (res:=(fun(x:Int×Bool)=>tT [tD cd x.1,tD rB x.2])) (f:=(fun(x:Int×Int)=>to1 x.1 x.2)) (x:=((a1.N,b.N):Int×Int)) (ht J) q_r2 ⟨(ht J),(ht J),aT⟩)<|aG J<|zo J (gp J J)<|zo J (gp J J)<|bp J<|bp J<|av<|ah<|aw<|aG J<|zo J (gh (ht J))<|aP ?_;refine ax<|cU h rfl (fun h=>?_) (fun h=>?_)
   ·refine aw<|zo J (bU (y:=ig) aH qk bj (J))<|ap aH J an J (ht J) (ht J)<|zo J (cD)<|av<|am<|ae<|bk 6 J ?_;cases so h;exact bR J J ⟨bq aH J J J,aZ J,aT⟩
   ·refine dS<|aw<|aG J<|bC h fun r3 q_r3 h=>zo J (aC Ln (Bt _ q_r3) ⟨(ht J),aT⟩)<|ap aH J an J (ht J) (ht J)<|zo J (cD)<|av<|am<|bk 6 J ?_;cases so h;exact bR J J ⟨bq aH J J J,aZ J,aT⟩

end Go.Proofs.YtfhhakidodmdfaaGreatDoor

