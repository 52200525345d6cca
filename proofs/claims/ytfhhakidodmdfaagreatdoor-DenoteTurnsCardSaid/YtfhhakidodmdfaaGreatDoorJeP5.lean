/- cT of this claim: P5. -/
import Derived.Test.YtfhhakidodmdfaaGreatDoorJeT
import Derived.Test.YtfhhakidodmdfaaGreatDoorJeP4
set_option linter.all false
namespace Go.Proofs.YtfhhakidodmdfaaGreatDoor
open Go
set_option maxRecDepth 100000

theorem Vb(a1:(List (List ac)))(b:(List (List ac))):zZ aR 170 (fun(x:Int×(List ac))=>[bI x.1,bZ (af) x.2]) (fun _=>lT a1 b) [] [bM c9 a1,bM c9 b]:=by
 refine zZ.of Tryz.func170 J J J fun Sg yld s R h I yv hy e he w0 S0 B hB=>?_
 replace h:lT a1 b yld s=some R:=h
 refine aw<|zo J (bC fN J J)<|zo J (iJ ja J)<|zo J (bG hI)<|au<|aA<|bc (k:=8) J fun hN=>bJ ?_;refine aT (tE (Z:=fun ls i e1 s1=>(a1.drop i=ls)∧I s1 e1∧dJ b yld ls i s1=some R) (Of:=fun _ i e1 s1=>[e1]) (Gf:=fun _ i e1 s1=>[(0,tV yv),(2,bM c9 b),(8,bZ (cV) a1),(9,jr a1),(10,bI (i:Int))]) (fun i e1 s1 h=>?_) (fun e2 tl ih i e1 s1 h=>?_) a1 0 e s ⟨J,⟨he,h⟩⟩) (bt J)
 ·obtain⟨hx,h⟩:=h
  obtain⟨he1,h⟩:=h
  refine aB<|aw<|zo J (fL J J)<|au<|ah<|bz (ht J) (du hx)<|bu ?_;refine ai (ai (aN ?_));cases so h;exact Lw J he1 hB trivial
 ·obtain⟨hx,h⟩:=h
  obtain⟨he1,h⟩:=h
  refine aB<|aw<|zo J (fL J J)<|au<|ah<|bw (ht J) (dl hx)<|dU<|ah<|aA<|aw<|aF J<|zo J (ml ja dL J J J (cX hx))<|zo J (bC dL J J)<|bo J<|bo J<|au<|aw<|zo J (bC fN J J) ?_;refine zo J (iJ ja J)<|zo J (bG hI)<|au<|aA<|bc (k:=15) J fun hN1=>bJ ?_;refine aT (tE (Z:=fun ls1 i1 e3 s2=>(b.drop i1=ls1)∧I s2 e3∧fD yld (dJ b yld tl) i e2 ls1 s2=some R) (Of:=fun _ i1 e3 s2=>[e3]) (Gf:=fun _ i1 e3 s2=>[(0,tV yv),(2,bM c9 b),(4,bI (i:Int)),(5,bZ (af) e2),(8,bZ (cV) a1),(9,jr a1),(10,bI (i:Int)),(15,bZ (cV) b),(16,jr b),(17,bI (i1:Int))]) (fun i1 e3 s2 h=>?_) (fun e4 tl1 ih1 i1 e3 s2 h=>?_) b 0 e1 s1 ⟨J,⟨he1,h⟩⟩) (bt J)
  ·obtain⟨hx1,h⟩:=h
   obtain⟨he2,h⟩:=h
   refine aB<|aw<|zo J (fL J J)<|au<|ah<|bz (ht J) (du hx1)<|bu ?_;refine ai (ai (aN ?_));refine ap<|av<|aq<|zo rfl (lZ (cL hx hN) rfl)<|aF rfl<|aQ ?_;exact bg (aT (ih (i+1) e3 s2 ⟨cK hx,⟨he2,h⟩⟩) (bt J))
  ·obtain⟨hx1,h⟩:=h
   obtain⟨he2,h⟩:=h
   refine aB<|aw<|zo J (fL J J)<|au<|ah<|bw (ht J) (dl hx1)<|dU<|ah<|aA<|aw<|zo J (ml ja dL J J J (cX hx1))<|zo J (bC dL J J)<|bo J<|au<|aw<|aF J<|aF J<|aF J ?_;refine aF J<|zo J (aU (r:=cV) (ys:=[e2,e4]) (xs:=[.tmp 23,.tmp 24]) ja dL J J J J J ⟨(ht J),(ht J),aS⟩)<|bB h fun r q_r h=>il WF (KO _ q_r) ⟨(ht J),aS⟩ J fun l c=>ju<|gU 26 J<|bH<|bB h fun r1 q_r1 h=>Fn hy he2 q_r1 (ht J) ⟨(ht J),(kT (ht J)),aS⟩ J fun e5 he3=>zo J (gg (ht J))<|au<|dd h J (fun h=>?_) (fun h=>?_)
   ·refine am ?_;refine aD (ae (ae (aD (aD (ae (ae (aD ?_)))))));refine bv<|be ?_;cases so h;exact IW J he3 hB trivial
   ·refine bA<|ap<|av<|aq<|zo rfl (lZ (cL hx1 hN1) rfl)<|aF rfl<|aQ<|bv<|be ?_;exact bg (aT (ih1 (i1+1) e5 r1.2 ⟨cK hx1,⟨he3,h⟩⟩) (bt J))

theorem R1(a1:(List (List ac)))(b:(List (List ac))){R:It (Int×(List ac))}(h:vV a1 b=some R):zR aR 102 [bZ (cV) a1,bZ (cV) b] (fun(x:Int×(List ac))=>[bI x.1,bZ (af) x.2]) R:=by
 refine zR.of Tryz.func102 J J J fun w0 S0=>aw<|zo J (js J)<|zo J (js J)<|zo J (aK hV)<|au<|aw<|CV (O1:=[]) (cts:=[bM c9 a1,bM c9 b]) (caps:=[.tmp 2,.tmp 3]) J abl (Vb a1 b) ⟨(ht J),(ht J),aS⟩ J fun v fp=>bo J<|au<|am ?_;cases so h;exact Lu J J

theorem Uw(do1:(ac→ac→Option (ac×Int)))(a1:ac)(b:ac){R:ac×Int}(h:lq do1 a1 b=some R):aV aR 323 [tD af a1,tD af b,bM (rT ((dX aR p8 sF (fun(x:ac×ac)=>do1 x.1 x.2)))) ()] (tT [tD af R.1,bI R.2]):=by
 refine aV.of Tryz.func323 J J J fun w0 S0=>aw<|zo J (js J)<|zo J (js J)<|aY (r:=af) (x:=hJ) aG (fun _=>bh _) J fun b1=>zo J (cF)<|au<|aw<|zo J (u0 V0 (ht J))<|zo J (bC aG J J)<|zo J (bC aG J J)<|bB h fun r q_r h=>zo J (gS (args:=p8) (res:=CZ) (f:=(fun(x:ac×ac)=>do1 x.1 x.2)) (x:=((b,a1):ac×ac)) (ht J) q_r ⟨(ht J),(ht J),aS⟩)<|zo J (gV J J)<|zo J (gV J J)<|ax aG J an J (ht J) (ht J)<|aW 5 J<|bo J<|au<|am ?_;cases so h;exact bS J J ⟨br aG J J J,aZ J,aS⟩

theorem UN(do1:(ac→ac→Option (ac×Int))){R:(ac→ac→Option (ac×Int))}(h:CK do1=some R):aV aR 261 [(dX aR p8 sF (fun(x:ac×ac)=>do1 x.1 x.2))] ((dX aR p8 sF (fun(x:ac×ac)=>R x.1 x.2))):=by
 refine aV.of Tryz.func261 J J J fun w0 S0=>aw<|zo J (Di (ht J))<|zo J (aK hV)<|au<|aw<|zo J ((show bQ _ _ _ _ ((dX aR p8 sF (fun(x:ac×ac)=>(lq do1) x.1 x.2)))from iB (cts:=[bM (rT ((dX aR p8 sF (fun(x:ac×ac)=>do1 x.1 x.2)))) ()]) (caps:=[.tmp 1]) aap ⟨(ht J),aS⟩ (fun x y h=>Uw _ _ _ h)))<|bo J<|au<|am ?_;cases so h;exact aL J J

theorem ID{R:ac}(h:oV=some R):aV aR 216 [] (tD af R):=by
 refine aV.of Tryz.func216 J J J fun w0 S0=>aw<|aY (r:=af) (x:=hJ) aG (fun _=>bh _) J fun b=>au<|aw<|zo J (cn (y:=hJ) aG qb bh (J))<|ax aG J an J (ht J) (ht J)<|aW 0 J<|au<|am ?_;cases so h;exact iI J aG J J J

theorem IC(b:Bool){R:ac}(h:oW b=some R):aV aR 256 [iz b] (tD af R):=by
 refine aV.of Tryz.func256 J J J fun w0 S0=>aw<|aY (r:=af) (x:=hJ) aG (fun _=>bh _) J fun b1=>au<|aw<|zo J (cn (y:=Qv) aG qb bh (⟨_,_,_,_,_,J,nI,J,hI,J⟩))<|aY (r:=af) (x:=hJ) aG (fun _=>bh _) J fun b2=>ax aG J an J (ht J) (ht J)<|au ?_;refine j7 (Z:=fun v=>ur v=some R) (Of:=fun v=>[bx af 46 b1 hJ,bx af 46 b2 v]) (Gf:=fun v=>[(2,tV (aP b1 0)),(3,tV (aP b2 0))]) (fun v h=>?_) (fun K=>?_)
 ·skip
  refine aw<|zo J (ce aG J J bR (.tail _ (.head _)) (ht J))<|ax aG J an J (ht J) (ht J)<|aW 2 J<|au<|am<|be ?_;cases so h;exact iI J aG J J J
 ·skip
  refine aw<|aF J<|au<|dd h J (fun h=>?_) (fun h=>?_)
  ·refine aq<|zo J (kp 1 lP J J J)<|ax FO J oZ J (ht J) hI<|aQ<|bv ?_;exact cC (K (ac.mk Qv.Kind (1:Int) Qv.U Qv.S) h) (bt J)
  ·refine bA<|bv ?_;exact cC (K Qv h) (bt J)

theorem Oc(l:(List ac)){R:Int}(h:pe l=some R):aV aR 363 [bZ (af) l] (bI R):=by
 refine aV.of Tryz.func363 J J J fun w0 S0=>aw<|zo J (cF)<|au<|ah<|aw<|aF J<|zo J (iJ jY J)<|zo J (bG hI)<|au<|aA<|bc (k:=6) J fun hN=>bJ ?_;refine aT (eI (Z:=fun ls i=>(l.drop i=ls)∧jb ls=some R) (Of:=fun _ i=>[]) (Gf:=fun _ i=>[(6,bZ (af) l),(7,jr l),(8,bI (i:Int))]) (fun i h=>?_) (fun e tl ih i h=>?_) l 0 ⟨J,h⟩) (bt J)
 ·obtain⟨hx,h⟩:=h
  refine aB<|aw<|zo J (fL J J)<|au<|ah<|bz (ht J) (du hx)<|bu ?_;refine ai (ai (aN ?_));refine av<|aw<|zo rfl (cF)<|au<|am ?_;cases so h;exact aL J J
 ·obtain⟨hx,h⟩:=h
  refine aB<|aw<|zo J (fL J J)<|au<|ah<|bw (ht J) (dl hx)<|dU<|ah<|aA<|aw<|zo J (ml jY aG J J J (cX hx))<|zo J (bC aG J J)<|aY (r:=af) (x:=hJ) aG (fun _=>bh _) J fun b=>ax aG J an J (ht J) (ht J)<|aW 4 J<|au<|aw<|zo J (bC aG J J) ?_;refine bB h fun r q_r h=>zo J (aE KY (A2 _ q_r) ⟨(ht J),aS⟩)<|bo J<|au<|aw<|aF J<|zo J (uL J)<|au<|dd h J (fun h=>?_) (fun h=>?_)
  ·refine aw<|aF J<|bo J<|au<|am ?_;refine aD (ae (ae (aD (ae ?_))));cases so h;exact aL J J
  ·refine bA<|ap<|av<|aq<|zo rfl (lZ (cL hx hN) rfl)<|aF rfl<|aQ ?_;exact bg (aT (ih (i+1) ⟨cK hx,h⟩) (bt J))

theorem Ow(p:Int){R:Bool}(h:nm p=some R):aV aR 153 [bI p] (iz R):=by
 refine aV.of Tryz.func153 J J J fun w0 S0=>aw<|zo J (jS)<|au<|aw<|aF J<|aF J<|zo J (fM (ht J) (ht J))<|bo J<|au<|am ?_;cases so h;exact aL J J

theorem RL(p:Int)(y:Int){R:Int}(h:iD p y=some R):aV aR 88 [bI p,bI y] (bI R):=by
 refine aV.of Tryz.func88 J J J fun w0 S0=>aw<|zo J (cF)<|au<|aw<|aF J<|bB h fun r q_r h=>zo J (aE WD (Ow _ q_r) ⟨(ht J),aS⟩)<|bo J<|au<|aw<|aF J<|bB h fun r1 q_r1 h=>zo J (aE WD (Ow _ q_r1) ⟨(ht J),aS⟩)<|bo J<|au<|ah<|ah ?_;refine aq<|aF J<|au<|dd h J (fun h=>?_) (fun h=>?_)
 ·refine ah<|aw<|aF J<|au<|dd h J (fun h=>?_) (fun h=>?_)
  ·refine aw<|zo J (cF)<|au<|am ?_;refine ae (ae ?_);cases so h;exact aL J J
  ·refine dU<|aw<|zo J (cF)<|au<|am<|ae ?_;cases so h;exact aL J J
 ·refine dU<|ah<|aw<|aF J<|au<|dd h J (fun h=>?_) (fun h=>?_)
  ·refine aw<|zo J (cF)<|au<|am<|ae ?_;cases so h;exact aL J J
  ·refine dU<|ah<|aw<|aF J<|aF J<|zo J (fL J J)<|au<|dd h J (fun h=>?_) (fun h=>?_)
   ·refine aw<|zo J (cF)<|au<|am<|ae ?_;cases so h;exact aL J J
   ·refine dU<|ah<|aw<|aF J<|aF J<|zo J (gm (ht J) (ht J))<|au<|dd h J (fun h=>?_) (fun h=>?_)
    ·refine aw<|zo J (cF)<|au<|am<|ae ?_;cases so h;exact aL J J
    ·refine dU<|aw<|zo J (cF)<|au<|am ?_;cases so h;exact aL J J

theorem IE(vals:(List Int)){R:Int}(h:mK vals=some R):aV aR 176 [mh vals] (bI R):=by
 refine aV.of Tryz.func176 J J J fun w0 S0=>aw<|zo J (cF)<|au<|aw<|zo J (cF)<|au<|ah<|aw<|aF J<|zo J (iJ gF J)<|zo J (bG hI)<|au<|aA<|bc (k:=6) J fun hN=>bJ ?_;refine aT (eI (Z:=fun ls i=>(vals.drop i=ls)∧fW ls=some R) (Of:=fun _ i=>[]) (Gf:=fun _ i=>[(3,bI 0),(6,mh vals),(7,jr vals),(8,bI (i:Int))]) (fun i h=>?_) (fun e tl ih i h=>?_) vals 0 ⟨J,h⟩) (bt J)
 ·obtain⟨hx,h⟩:=h
  refine aB<|aw<|zo J (fL J J)<|au<|ah<|bz (ht J) (du hx)<|bu ?_;refine ai (ai (aN ?_));refine av<|aw<|aF rfl<|bo rfl<|au<|am ?_;cases so h;exact aL J J
 ·obtain⟨hx,h⟩:=h
  refine aB<|aw<|zo J (fL J J)<|au<|ah<|bw (ht J) (dl hx)<|dU<|ah<|aA<|aw<|zo J (ml gF cu J J J (cX hx))<|zo J (bC cu J J)<|bo J<|au<|aw<|aF J<|aF J<|zo J (fM (ht J) (ht J)) ?_;refine au<|dd h J (fun h=>?_) (fun h=>?_)
  ·refine aw<|aF J<|bo J<|au<|am ?_;refine aD (ae (ae (aD (ae ?_))));cases so h;exact aL J J
  ·refine bA<|ap<|av<|aq<|zo rfl (lZ (cL hx hN) rfl)<|aF rfl<|aQ ?_;exact bg (aT (ih (i+1) ⟨cK hx,h⟩) (bt J))

theorem Oj(p:Int){R:Bool}(h:kN p=some R):aV aR 310 [bI p] (iz R):=by
 refine aV.of Tryz.func310 J J J fun w0 S0=>aw<|zo J (jS)<|au<|aw<|aF J<|aF J<|zo J (fM (ht J) (ht J))<|bo J<|au<|am ?_;cases so h;exact aL J J

theorem Ou(p:Int)(y:Int){R:Int}(h:gw p y=some R):aV aR 243 [bI p,bI y] (bI R):=by
 refine aV.of Tryz.func243 J J J fun w0 S0=>aw<|zo J (cF)<|au<|aw<|aF J<|bB h fun r q_r h=>zo J (aE Ws (Oj _ q_r) ⟨(ht J),aS⟩)<|bo J<|au<|aw<|aF J<|bB h fun r1 q_r1 h=>zo J (aE Ws (Oj _ q_r1) ⟨(ht J),aS⟩)<|bo J<|au<|ah<|ah ?_;refine aq<|aF J<|au<|dd h J (fun h=>?_) (fun h=>?_)
 ·refine ah<|aw<|aF J<|au<|dd h J (fun h=>?_) (fun h=>?_)
  ·refine aw<|zo J (cF)<|au<|am ?_;refine ae (ae ?_);cases so h;exact aL J J
  ·refine dU<|aw<|zo J (cF)<|au<|am<|ae ?_;cases so h;exact aL J J
 ·refine dU<|ah<|aw<|aF J<|au<|dd h J (fun h=>?_) (fun h=>?_)
  ·refine aw<|zo J (cF)<|au<|am<|ae ?_;cases so h;exact aL J J
  ·refine dU<|ah<|aw<|aF J<|aF J<|zo J (fL J J)<|au<|dd h J (fun h=>?_) (fun h=>?_)
   ·refine aw<|zo J (cF)<|au<|am<|ae ?_;cases so h;exact aL J J
   ·refine dU<|ah<|aw<|aF J<|aF J<|zo J (gm (ht J) (ht J))<|au<|dd h J (fun h=>?_) (fun h=>?_)
    ·refine aw<|zo J (cF)<|au<|am<|ae ?_;cases so h;exact aL J J
    ·refine dU<|aw<|zo J (cF)<|au<|am ?_;cases so h;exact aL J J

theorem Ub(a1:wF)(b:wF){R:Int}(h:iR a1 b=some R):aV aR 382 [tD rS a1,tD rS b] (bI R):=by
 refine aV.of Tryz.func382 J J J fun w0 S0=>aw<|zo J (cF)<|au<|aw<|aF J<|aF J<|zo J (TG Tryz.func386 (by kernel_rfl) (by kernel_rfl) (by kernel_rfl) (by kernel_rfl) (ht J) (ht J))<|bo J<|au<|am ?_;cases so h;exact aL J J

theorem Uc(a1:wF)(b:wF){R:Int}(h:oN a1 b=some R):aV aR 376 [tD rS a1,tD rS b] (bI R):=by
 refine aV.of Tryz.func376 J J J fun w0 S0=>aw<|zo J (cF)<|au<|aw<|aF J<|aF J<|bB h fun r q_r h=>zo J (aE Z2 (Ub _ _ q_r) ⟨(ht J),(ht J),aS⟩)<|bo J<|au<|am ?_;cases so h;exact aL J J

theorem Ue(a1:ac)(b:ac){R:Int}(h:lb a1 b=some R):aV aR 364 [tD af a1,tD af b] (bI R):=by
 refine aV.of Tryz.func364 J J J fun w0 S0=>aw<|zo J (js J)<|zo J (js J)<|zo J (cF)<|au<|ah<|aw<|zo J (bC aG J J)<|bB h fun r q_r h=>zo J (aE OO (Dr _ q_r) ⟨(ht J),aS⟩)<|zo J (gg (ht J))<|aF J<|bB h fun t q_t h=>gY J J (fun hg=>bC aG J J) ?_
 obtain⟨r1,h1t,h0t⟩:=og q_t
 have q_r1g:=fun hb=>(h1t hb).1
 refine gY J J (fun hg=>aE OO (Dr _ (q_r1g hg)) ⟨(bP J hg),aS⟩)<|gY J J (fun hg=>gg (bP J hg))<|zo J (lk (ht J) (fun hb=>(bP J (AL hb))) (fun hb=>(h1t hb).2) h0t)<|au<|dd h J (fun h=>?_) (fun h=>?_)
 ·refine aw<|zo J (cF)<|au<|am<|ae ?_;cases so h;exact aL J J
 ·refine dU<|ah<|bB h fun r2 q_r2 h=>bB h fun r3 q_r3 h=>bB h fun r4 q_r4 h=>bB h fun r5 q_r5 h=>?_
  refine dc (ts:=[_,_,_,_,_,_,_,_,_,_,_,_,_,_,_,_,_,_]) mixed J J
   ⟨fb 2 J J J (de gZ cS J J),
   ⟨ca 13 0 J J J (bC cu J J),
   ⟨fb 3 J J J (de gZ cS J J),
   ⟨ca 15 2 J J J (bC cu J J),
   ⟨d6 14 1 16 3 J J J J (aE Z1 (RL _ _ q_r2) ⟨(ht J),(ht J),aS⟩),
   ⟨fb 2 J J J (de lP fk J J),
   ⟨ca 18 5 J J J (bC FO J J),
   ⟨fb 3 J J J (de lP fk J J),
   ⟨ca 20 7 J J J (bC FO J J),
   ⟨d6 19 6 21 8 J J J J (aE WA (Ou _ _ q_r3) ⟨(ht J),(ht J),aS⟩),
   ⟨fb 2 J J J (de xy nQ J J),
   ⟨ca 23 10 J J J (bC Tc J J),
   ⟨fb 3 J J J (de xy nQ J J),
   ⟨ca 25 12 J J J (bC Tc J J),
   ⟨d6 24 11 26 13 J J J J (aE Z4 (Uc _ _ q_r4) ⟨(ht J),(ht J),aS⟩),
   ⟨Gq 17 4 22 9 27 14 J J J J J (aU (r:=bT) (ys:=[r2,r3,r4]) (xs:=[.tmp 17,.tmp 22,.tmp 27]) gF cu J J J J J ⟨(ht J),(ht J),(ht J),aS⟩),
   ⟨ca 28 15 J J J (aE So (IE _ q_r5) ⟨(ht J),aS⟩),
   ⟨ca 29 16 J J J (uM J),
   aS⟩⟩⟩⟩⟩⟩⟩⟩⟩⟩⟩⟩⟩⟩⟩⟩⟩⟩ ?_
  refine av<|am ?_;cases so h;exact aL J J

theorem Oe(a1:ac)(b:ac)(is1:(Int→Option Bool)){R:ac×Int}(h:qf a1 b is1=some R):aV aR 324 [tD af a1,tD af b,(dX aR Jc nq (fun(x:Int)=>is1 x))] (tT [tD af R.1,bI R.2]):=by
 refine aV.of Tryz.func324 J J J fun w0 S0=>aw<|zo J (js J)<|zo J (js J)<|aY (r:=af) (x:=hJ) aG (fun _=>bh _) J fun b1=>zo J (cF)<|au<|ah<|aw<|zo J (bC aG J J)<|zo J (bC aG J J)<|zo J (aU (r:=af) (ys:=[a1,b]) (xs:=[.tmp 10,.tmp 11]) jY aG J J J J J ⟨(ht J),(ht J),aS⟩)<|bB h fun r q_r h=>zo J (aE Wn (Oc _ q_r) ⟨(ht J),aS⟩)<|bo J<|au<|aw<|aF J<|zo J (uL J) ?_;refine au<|dd h J (fun h=>?_) (fun h=>?_)
 ·refine aw<|zo J (cn (y:=hJ) aG qb bh (J))<|aF J<|ax aG J an J (ht J) (ht J)<|bo J<|au<|am<|ae<|bn 6 J ?_;cases so h;exact bS J J ⟨br aG J J J,aZ J,aS⟩
 ·refine dU<|aw<|zo J (de gZ cS J J)<|zo J (bC cu J J)<|zo J (nr J)<|aF J<|gY J J (fun hg=>de gZ cS J J)<|gY J J (fun hg=>bO cu J J (bP J hg))<|gY J J (fun hg=>dw (bP J hg) hI)<|zo J (yE J J)<|bo J<|au<|ah<|aA<|aw<|zo J (de gZ cS J J)<|zo J (bC cu J J)<|zo J (nr J)<|aF J<|gY J J (fun hg=>de gZ cS J J) ?_;refine gY J J (fun hg=>bO cu J J (bP J hg))<|gY J J (fun hg=>dw (bP J hg) hI)<|zo J (yE J J)<|aF J<|gY J J (fun hg=>dv J)<|gY J J (fun hg=>gg (bP J hg))<|gY J J (fun hg=>bG (bP J hg))<|jI J J J J (fun hg=>de gZ cS J J)<|jI J J J J (fun hg=>bO cu J J (bP J hg))<|jI J J J J (fun hg=>de gZ cS J J)<|jI J J J J (fun hg=>bO cu J J (bP J hg))<|jI J J J J (fun hg=>fM (bP J hg) (bP J hg))<|gY J J (fun hg=>qn (bP J hg) (fun hb=>(bP J (C8 hg hb))))<|zo J (yE J J)<|bo J<|au<|dd h J (fun h=>?_) (fun h=>?_)
  ·refine aw<|zo J (cn (y:=hJ) aG qb bh (J))<|ax aG J an J (ht J) (ht J)<|zo J (cF)<|au<|am ?_;refine aD (ae ?_);refine bn 6 J ?_;cases so h;exact bS J J ⟨br aG J J J,aZ J,aS⟩
  ·refine aw<|aF J<|bo J<|au<|dd h J (fun h=>?_) (fun h=>?_)
   ·refine aw<|bB h fun r1 q_r1 h=>zo J (aE Sm (ID q_r1) trivial)<|ax aG J an J (ht J) (ht J)<|zo J (cF)<|au<|am ?_;refine aD (ae ?_);refine bn 6 J ?_;cases so h;exact bS J J ⟨br aG J J J,aZ J,aS⟩
   ·refine bA<|ap<|av<|aw<|aF rfl<|zo rfl (bC aG rfl rfl)<|zo rfl (bC aG rfl rfl)<|bB h fun r2 q_r2 h=>zo J (aE Z7 (Ue _ _ q_r2) ⟨(ht J),(ht J),aS⟩)<|bB h fun r3 q_r3 h=>zo J (gS (args:=(fun(x:Int)=>[tD bT x])) (res:=Hx) (f:=(fun(x:Int)=>is1 x)) (x:=((r2):Int)) (ht J) q_r3 ⟨(ht J),aS⟩)<|bB h fun r4 q_r4 h=>zo J (aE Sl (IC _ q_r4) ⟨(ht J),aS⟩)<|ax aG J an J (ht J) (ht J)<|zo J (cF)<|au<|am<|bn 6 J ?_;cases so h;exact bS J J ⟨br aG J J J,aZ J,aS⟩

theorem Uv(c:Int){R:Bool}(h:An c=some R):aV aR 325 [bI c] (iz R):=by
 refine aV.of Tryz.func325 J J J fun w0 S0=>aw<|zo J (jS)<|au<|aw<|aF J<|zo J (gD (ht J) hI)<|bo J<|au<|am ?_;cases so h;exact aL J J

theorem IB(a1:ac)(b:ac){R:ac×Int}(h:nF a1 b=some R):aV aR 262 [tD af a1,tD af b] (tT [tD af R.1,bI R.2]):=by
 refine aV.of Tryz.func262 J J J fun w0 S0=>aw<|zo J (js J)<|zo J (js J)<|aY (r:=af) (x:=hJ) aG (fun _=>bh _) J fun b1=>zo J (cF)<|au<|aw<|zo J (bC aG J J)<|zo J (bC aG J J)<|bB h fun r q_r h=>zo J (aE Wp (Oe _ _ _ q_r) ⟨(ht J),(ht J),(y9 aao fun x y h=>Uv _ h),aS⟩)<|zo J (gV J J)<|zo J (gV J J)<|ax aG J an J (ht J) (ht J)<|aW 4 J<|bo J<|au<|am ?_;cases so h;exact bS J J ⟨br aG J J J,aZ J,aS⟩

theorem Uu(do1:(ac→Option (ac×Int)))(a1:ac)(x:ac){R:ac×Int}(h:mG do1 a1 x=some R):aV aR 326 [tD af a1,tD af x,bM (rT ((dX aR Al sF (fun(x:ac)=>do1 x)))) ()] (tT [tD af R.1,bI R.2]):=by
 refine aV.of Tryz.func326 J J J fun w0 S0=>aw<|zo J (js J)<|zo J (js J)<|aY (r:=af) (x:=hJ) aG (fun _=>bh _) J fun b=>zo J (cF)<|au<|aw<|zo J (u0 Zd (ht J))<|zo J (bC aG J J)<|bB h fun r q_r h=>zo J (gS (args:=Al) (res:=CZ) (f:=(fun(x:ac)=>do1 x)) (x:=((a1):ac)) (ht J) q_r ⟨(ht J),aS⟩)<|zo J (gV J J)<|zo J (gV J J)<|ax aG J an J (ht J) (ht J)<|aW 5 J<|bo J<|au<|am ?_;cases so h;exact bS J J ⟨br aG J J J,aZ J,aS⟩

theorem Ot(do1:(ac→Option (ac×Int))){R:(ac→ac→Option (ac×Int))}(h:zN do1=some R):aV aR 263 [(dX aR Al sF (fun(x:ac)=>do1 x))] ((dX aR p8 sF (fun(x:ac×ac)=>R x.1 x.2))):=by
 refine aV.of Tryz.func263 J J J fun w0 S0=>aw<|zo J (Di (ht J))<|zo J (aK hV)<|au<|aw<|zo J ((show bQ _ _ _ _ ((dX aR p8 sF (fun(x:ac×ac)=>(mG do1) x.1 x.2)))from iB (cts:=[bM (rT ((dX aR Al sF (fun(x:ac)=>do1 x)))) ()]) (caps:=[.tmp 1]) aan ⟨(ht J),aS⟩ (fun x y h=>Uu _ _ _ h)))<|bo J<|au<|am ?_;cases so h;exact aL J J

theorem A1(n:Int){R:ac}(h:oe n=some R):aV aR 130 [bI n] (tD af R):=by
 refine aV.of Tryz.func130 J J J fun w0 S0=>aw<|aY (r:=af) (x:=hJ) aG (fun _=>bh _) J fun b=>au<|aw<|aF J<|zo J (cn (y:=(⟨(2:Int),n,(0:Int),[]⟩:ac)) aG qb bh (⟨_,_,_,_,_,J,nI,J,hI,⟨_,_,_,_,_,J,oZ,J,(ht J),J⟩⟩))<|ax aG J an J (ht J) (ht J)<|aW 2 J<|au<|am ?_;cases so h;exact iI J aG J J J

theorem Do(kind:Int)(l:(List ac)){R:Int}(h:pq kind l=some R):aV aR 288 [bI kind,bZ (af) l] (bI R):=by
 refine aV.of Tryz.func288 J J J fun w0 S0=>aw<|zo J (cF)<|au<|aw<|zo J (cF)<|au<|ah<|aw<|aF J<|zo J (iJ jY J)<|zo J (bG hI)<|au<|aA<|bc (k:=8) J fun hN=>bJ ?_;refine aT (oa (Z:=fun ls i e=>(l.drop i=ls)∧jQ kind ls e=some R) (Of:=fun _ i e=>[]) (Gf:=fun _ i e=>[(0,bI kind),(5,bI e),(8,bZ (af) l),(9,jr l),(10,bI (i:Int))]) (fun i e h=>?_) (fun e1 tl ih i e h=>?_) l 0 (0:Int) ⟨J,h⟩) (bt J)
 ·obtain⟨hx,h⟩:=h
  refine aB<|aw<|zo J (fL J J)<|au<|ah<|bz (ht J) (du hx)<|bu ?_;refine ai (ai (aN ?_));refine av<|aw<|aF rfl<|bo rfl<|au<|am ?_;cases so h;exact aL J J
 ·obtain⟨hx,h⟩:=h
  refine aB<|aw<|zo J (fL J J)<|au<|ah<|bw (ht J) (dl hx)<|dU<|ah<|aA<|aw<|zo J (ml jY aG J J J (cX hx))<|zo J (bC aG J J)<|aY (r:=af) (x:=hJ) aG (fun _=>bh _) J fun b=>ax aG J an J (ht J) (ht J)<|aW 7 J<|au<|ah<|aw ?_;refine zo J (bC aG J J)<|bB h fun r q_r h=>zo J (aE KY (A2 _ q_r) ⟨(ht J),aS⟩)<|zo J (uL J)<|au<|dd h J (fun h=>?_) (fun h=>?_)
  ·refine aw<|zo J (cF)<|au<|am ?_;refine ae (aD (ae (ae (aD (ae ?_)))));cases so h;exact aL J J
  ·refine dU<|aw<|zo J (de gZ cS J J)<|zo J (bC cu J J)<|zo J (uL J)<|aF J<|dK J J (fun hg=>de gZ cS J J)<|dK J J (fun hg=>bO cu J J (bP J hg))<|dK J J (fun hg=>dv J)<|dK J J (fun hg=>fM (bP J hg) (bP J hg))<|zo J (uK J J)<|au<|dd h J (fun h=>?_) (fun h=>?_)
   ·refine aq<|zo J (cF)<|aQ<|ap<|av<|aq<|zo rfl (lZ (cL hx hN) rfl)<|aF rfl<|aQ ?_;exact bg (aT (ih (i+1) (2:Int) ⟨cK hx,h⟩) (bt J))
   ·refine bA<|ap<|av<|aq<|zo rfl (lZ (cL hx hN) rfl)<|aF rfl<|aQ ?_;exact bg (aT (ih (i+1) e ⟨cK hx,h⟩) (bt J))

theorem Dn(a1:ac)(b:ac)(to1:(Int→Int→Option (Int×Bool))){R:ac×Int}(h:rh a1 b to1=some R):aV aR 330 [tD af a1,tD af b,(dX aR (fun(x:Int×Int)=>[bI x.1,bI x.2]) (fun(x:Int×Bool)=>tT [bI x.1,iz x.2]) (fun(x:Int×Int)=>to1 x.1 x.2))] (tT [tD af R.1,bI R.2]):=by
 refine aV.of Tryz.func330 J J J fun w0 S0=>aw<|zo J (js J)<|zo J (js J)<|aY (r:=af) (x:=hJ) aG (fun _=>bh _) J fun b1=>zo J (cF)<|au<|ah<|aw<|zo J (bC aG J J)<|zo J (bC aG J J)<|zo J (aU (r:=af) (ys:=[a1,b]) (xs:=[.tmp 11,.tmp 12]) jY aG J J J J J ⟨(ht J),(ht J),aS⟩)<|bB h fun r q_r h=>zo J (aE OL (Do _ _ q_r) ⟨hI,(ht J),aS⟩)<|bo J<|au<|aw<|aF J<|zo J (uL J) ?_;refine au<|dd h J (fun h=>?_) (fun h=>?_)
 ·refine aw<|zo J (cn (y:=hJ) aG qb bh (J))<|aF J<|ax aG J an J (ht J) (ht J)<|bo J<|au<|am<|ae<|bn 6 J ?_;cases so h;exact bS J J ⟨br aG J J J,aZ J,aS⟩
 ·refine dU<|ah<|aw<|zo J (de gZ cS J J)<|zo J (bC cu J J)<|zo J (nr J)<|aF J<|gY J J (fun hg=>de gZ cS J J)<|gY J J (fun hg=>bO cu J J (bP J hg))<|gY J J (fun hg=>dw (bP J hg) hI)<|zo J (yE J J)<|au<|dd h J (fun h=>?_) (fun h=>?_)
  ·refine aw<|bB h fun r1 q_r1 h=>zo J (aE Sm (ID q_r1) trivial)<|ax aG J an J (ht J) (ht J)<|zo J (cF)<|au<|am<|ae<|bn 6 J ?_;cases so h;exact bS J J ⟨br aG J J J,aZ J,aS⟩
  ·refine dU<|aw<|aF J<|zo J (de lP fk J J)<|zo J (bC FO J J)<|zo J (de lP fk J J)<|zo J (bC FO J J)<|bB h fun r2 q_r2 h=>zo J (gS (args:=(fun(x:Int×Int)=>[tD bT x.1,tD bT x.2])) (res:=(fun(x:Int×Bool)=>tT [tD bT x.1,tD rB x.2])) (f:=(fun(x:Int×Int)=>to1 x.1 x.2)) (x:=((a1.N,b.N):Int×Int)) (ht J) q_r2 ⟨(ht J),(ht J),aS⟩)<|aF J<|zo J (gV J J)<|zo J (gV J J)<|bo J<|bo J<|au<|ah<|aw<|aF J<|zo J (gg (ht J))<|aQ ?_;refine av<|dd h rfl (fun h=>?_) (fun h=>?_)
   ·refine aw<|zo J (cn (y:=hJ) aG qb bh (J))<|ax aG J an J (ht J) (ht J)<|zo J (cF)<|au<|am<|ae<|bn 6 J ?_;cases so h;exact bS J J ⟨br aG J J J,aZ J,aS⟩
   ·refine dU<|aw<|aF J<|bB h fun r3 q_r3 h=>zo J (aE KX (A1 _ q_r3) ⟨(ht J),aS⟩)<|ax aG J an J (ht J) (ht J)<|zo J (cF)<|au<|am<|bn 6 J ?_;cases so h;exact bS J J ⟨br aG J J J,aZ J,aS⟩

end Go.Proofs.YtfhhakidodmdfaaGreatDoor

