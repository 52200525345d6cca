/- da of this claim: P5. -/
import Derived.Test.YtfhhakidodmdfaaGreatDoorJdT
import Derived.Test.YtfhhakidodmdfaaGreatDoorJdP4
set_option linter.all false
namespace Go.Proofs.YtfhhakidodmdfaaGreatDoor
open Go
set_option maxRecDepth 100000

theorem U0(a1:(List (List ac)))(b:(List (List ac))):zS aO 170 (fun(x:Int×(List ac))=>[bH x.1,bR (af) x.2]) (fun _=>lQ a1 b) [] [bK d7 a1,bK d7 b]:=by
 refine zS.of Tryz.func170 J J J fun Sg yld s R h I yv hy e he w0 S0 B hB=>?_
 replace h:lQ a1 b yld s=some R:=h
 refine au<|zo J (bB hJ J J)<|zo J (iw gR J)<|zo J (bJ hI)<|aq<|ay<|ba (k:=8) J fun hN=>bG ?_;refine aT (vh (Z:=fun ls i e1 s1=>(a1.drop i=ls)∧I s1 e1∧dQ b yld ls i s1=some R) (Of:=fun _ i e1 s1=>[e1]) (Gf:=fun _ i e1 s1=>[(0,tV yv),(2,bK d7 b),(8,bR (cK) a1),(9,kg a1),(10,bH (i:Int))]) (fun i e1 s1 h=>?_) (fun e2 tl ih i e1 s1 h=>?_) a1 0 e s ⟨J,⟨he,h⟩⟩) (bt J)
 ·obtain⟨hx,h⟩:=h
  obtain⟨he1,h⟩:=h
  refine aC<|au<|zo J (fG J J)<|aq<|ah<|bA (ht J) (dC hx)<|bu ?_;refine ai (ai (aN ?_));cases so h;exact Lc J he1 hB trivial
 ·obtain⟨hx,h⟩:=h
  obtain⟨he1,h⟩:=h
  refine aC<|au<|zo J (fG J J)<|aq<|ah<|bz (ht J) (du hx)<|dR<|ah<|ay<|au<|aF J<|zo J (lq gR cO J J J (cW hx))<|zo J (bB cO J J)<|bm J<|bm J<|aq<|au<|zo J (bB hJ J J) ?_;refine zo J (iw gR J)<|zo J (bJ hI)<|aq<|ay<|ba (k:=15) J fun hN1=>bG ?_;refine aT (vh (Z:=fun ls1 i1 e3 s2=>(b.drop i1=ls1)∧I s2 e3∧fP yld (dQ b yld tl) i e2 ls1 s2=some R) (Of:=fun _ i1 e3 s2=>[e3]) (Gf:=fun _ i1 e3 s2=>[(0,tV yv),(2,bK d7 b),(4,bH (i:Int)),(5,bR (af) e2),(8,bR (cK) a1),(9,kg a1),(10,bH (i:Int)),(15,bR (cK) b),(16,kg b),(17,bH (i1:Int))]) (fun i1 e3 s2 h=>?_) (fun e4 tl1 ih1 i1 e3 s2 h=>?_) b 0 e1 s1 ⟨J,⟨he1,h⟩⟩) (bt J)
  ·obtain⟨hx1,h⟩:=h
   obtain⟨he2,h⟩:=h
   refine aC<|au<|zo J (fG J J)<|aq<|ah<|bA (ht J) (dC hx1)<|bu ?_;refine ai (ai (aN ?_));refine ap<|av<|aw<|zo rfl (mI (cQ hx hN) rfl)<|aF rfl<|aQ ?_;exact bg (aT (ih (i+1) e3 s2 ⟨cP hx,⟨he2,h⟩⟩) (bt J))
  ·obtain⟨hx1,h⟩:=h
   obtain⟨he2,h⟩:=h
   refine aC<|au<|zo J (fG J J)<|aq<|ah<|bz (ht J) (du hx1)<|dR<|ah<|ay<|au<|zo J (lq gR cO J J J (cW hx1))<|zo J (bB cO J J)<|bm J<|aq<|au<|aF J<|aF J<|aF J ?_;refine aF J<|zo J (aV (r:=cK) (ys:=[e2,e4]) (xs:=[.tmp 23,.tmp 24]) gR cO J J J J J ⟨(ht J),(ht J),aR⟩)<|bv h fun r q_r h=>iv Wu (Ks _ q_r) ⟨(ht J),aR⟩ J fun l c=>j8<|jt 26 J<|bI<|bv h fun r1 q_r1 h=>E2 hy he2 q_r1 (ht J) ⟨(ht J),(k7 (ht J)),aR⟩ J fun e5 he3=>zo J (ei (ht J))<|aq<|cU h J (fun h=>?_) (fun h=>?_)
   ·refine ak ?_;refine aD (ae (ae (aD (aD (ae (ae (aD ?_)))))));refine bE<|bk ?_;cases so h;exact IE J he3 hB trivial
   ·refine bw<|ap<|av<|aw<|zo rfl (mI (cQ hx1 hN1) rfl)<|aF rfl<|aQ<|bE<|bk ?_;exact bg (aT (ih1 (i1+1) e5 r1.2 ⟨cP hx1,⟨he3,h⟩⟩) (bt J))

theorem RV(a1:(List (List ac)))(b:(List (List ac))){R:It (Int×(List ac))}(h:vT a1 b=some R):zK aO 102 [bR (cK) a1,bR (cK) b] (fun(x:Int×(List ac))=>[bH x.1,bR (af) x.2]) R:=by
 refine zK.of Tryz.func102 J J J fun w0 S0=>au<|zo J (jw J)<|zo J (jw J)<|zo J (aJ hV)<|aq<|au<|CM (O1:=[]) (cts:=[bK d7 a1,bK d7 b]) (caps:=[.tmp 2,.tmp 3]) J aa0 (U0 a1 b) ⟨(ht J),(ht J),aR⟩ J fun v fp=>bm J<|aq<|ak ?_;cases so h;exact La J J

theorem Ul(do1:(ac→ac→Option (ac×Int)))(a1:ac)(b:ac){R:ac×Int}(h:lh do1 a1 b=some R):aU aO 323 [tD af a1,tD af b,bK (rT ((dK aO pX sx (fun(x:ac×ac)=>do1 x.1 x.2)))) ()] (tT [tD af R.1,bH R.2]):=by
 refine aU.of Tryz.func323 J J J fun w0 S0=>au<|zo J (jw J)<|zo J (jw J)<|bc (r:=af) (x:=hX) aH (fun _=>bf _) J fun b1=>zo J (cq)<|aq<|au<|zo J (uX VQ (ht J))<|zo J (bB aH J J)<|zo J (bB aH J J)<|bv h fun r q_r h=>zo J (fN (args:=pX) (res:=CR) (f:=(fun(x:ac×ac)=>do1 x.1 x.2)) (x:=((b,a1):ac×ac)) (ht J) q_r ⟨(ht J),(ht J),aR⟩)<|zo J (hZ J J)<|zo J (hZ J J)<|ax aH J an J (ht J) (ht J)<|aZ 5 J<|bm J<|aq<|ak ?_;cases so h;exact bS J J ⟨br aH J J J,aX J,aR⟩

theorem UC(do1:(ac→ac→Option (ac×Int))){R:(ac→ac→Option (ac×Int))}(h:CA do1=some R):aU aO 261 [(dK aO pX sx (fun(x:ac×ac)=>do1 x.1 x.2))] ((dK aO pX sx (fun(x:ac×ac)=>R x.1 x.2))):=by
 refine aU.of Tryz.func261 J J J fun w0 S0=>au<|zo J (C9 (ht J))<|zo J (aJ hV)<|aq<|au<|zo J ((show bO _ _ _ _ ((dK aO pX sx (fun(x:ac×ac)=>(lh do1) x.1 x.2)))from fW (cts:=[bK (rT ((dK aO pX sx (fun(x:ac×ac)=>do1 x.1 x.2)))) ()]) (caps:=[.tmp 1]) Z3 ⟨(ht J),aR⟩ (fun x y h=>Ul _ _ _ h)))<|bm J<|aq<|ak ?_;cases so h;exact aG J J

theorem Ih{R:ac}(h:oI=some R):aU aO 216 [] (tD af R):=by
 refine aU.of Tryz.func216 J J J fun w0 S0=>au<|bc (r:=af) (x:=hX) aH (fun _=>bf _) J fun b=>aq<|au<|zo J (ci (y:=hX) aH pL bf (J))<|ax aH J an J (ht J) (ht J)<|aZ 0 J<|aq<|ak ?_;cases so h;exact iN J aH J J J

theorem Ig(b:Bool){R:ac}(h:oJ b=some R):aU aO 256 [gY b] (tD af R):=by
 refine aU.of Tryz.func256 J J J fun w0 S0=>au<|bc (r:=af) (x:=hX) aH (fun _=>bf _) J fun b1=>aq<|au<|zo J (ci (y:=Ql) aH pL bf (⟨_,_,_,_,_,J,nq,J,hI,J⟩))<|bc (r:=af) (x:=hX) aH (fun _=>bf _) J fun b2=>ax aH J an J (ht J) (ht J)<|aq ?_;refine ke (Z:=fun v=>uk v=some R) (Of:=fun v=>[bx af 46 b1 hX,bx af 46 b2 v]) (Gf:=fun v=>[(2,tV (aP b1 0)),(3,tV (aP b2 0))]) (fun v h=>?_) (fun K=>?_)
 ·skip
  refine au<|zo J (cd aH J J bQ (.tail _ (.head _)) (ht J))<|ax aH J an J (ht J) (ht J)<|aZ 2 J<|aq<|ak<|bk ?_;cases so h;exact iN J aH J J J
 ·skip
  refine au<|aF J<|aq<|cU h J (fun h=>?_) (fun h=>?_)
  ·refine aw<|zo J (kG 1 iZ J J J)<|ax Bl J oL J (ht J) hI<|aQ<|bE ?_;exact cM (K (ac.mk Ql.Kind (1:Int) Ql.U Ql.S) h) (bt J)
  ·refine bw<|bE ?_;exact cM (K Ql h) (bt J)

theorem N1(l:(List ac)){R:Int}(h:o4 l=some R):aU aO 363 [bR (af) l] (bH R):=by
 refine aU.of Tryz.func363 J J J fun w0 S0=>au<|zo J (cq)<|aq<|ah<|au<|aF J<|zo J (iw j3 J)<|zo J (bJ hI)<|aq<|ay<|ba (k:=6) J fun hN=>bG ?_;refine aT (eH (Z:=fun ls i=>(l.drop i=ls)∧ji ls=some R) (Of:=fun _ i=>[]) (Gf:=fun _ i=>[(6,bR (af) l),(7,kg l),(8,bH (i:Int))]) (fun i h=>?_) (fun e tl ih i h=>?_) l 0 ⟨J,h⟩) (bt J)
 ·obtain⟨hx,h⟩:=h
  refine aC<|au<|zo J (fG J J)<|aq<|ah<|bA (ht J) (dC hx)<|bu ?_;refine ai (ai (aN ?_));refine av<|au<|zo rfl (cq)<|aq<|ak ?_;cases so h;exact aG J J
 ·obtain⟨hx,h⟩:=h
  refine aC<|au<|zo J (fG J J)<|aq<|ah<|bz (ht J) (du hx)<|dR<|ah<|ay<|au<|zo J (lq j3 aH J J J (cW hx))<|zo J (bB aH J J)<|bc (r:=af) (x:=hX) aH (fun _=>bf _) J fun b=>ax aH J an J (ht J) (ht J)<|aZ 4 J<|aq<|au<|zo J (bB aH J J) ?_;refine bv h fun r q_r h=>zo J (aA KE (AV _ q_r) ⟨(ht J),aR⟩)<|bm J<|aq<|au<|aF J<|zo J (tE J)<|aq<|cU h J (fun h=>?_) (fun h=>?_)
  ·refine au<|aF J<|bm J<|aq<|ak ?_;refine aD (ae (ae (aD (ae ?_))));cases so h;exact aG J J
  ·refine bw<|ap<|av<|aw<|zo rfl (mI (cQ hx hN) rfl)<|aF rfl<|aQ ?_;exact bg (aT (ih (i+1) ⟨cP hx,h⟩) (bt J))

theorem Oh(p:Int){R:Bool}(h:m9 p=some R):aU aO 153 [bH p] (gY R):=by
 refine aU.of Tryz.func153 J J J fun w0 S0=>au<|zo J (jE)<|aq<|au<|aF J<|aF J<|zo J (eZ (ht J) (ht J))<|bm J<|aq<|ak ?_;cases so h;exact aG J J

theorem Mz(p:Int)(y:Int){R:Int}(h:gH p y=some R):aU aO 88 [bH p,bH y] (bH R):=by
 refine aU.of Tryz.func88 J J J fun w0 S0=>au<|zo J (cq)<|aq<|au<|aF J<|bv h fun r q_r h=>zo J (aA Wr (Oh _ q_r) ⟨(ht J),aR⟩)<|bm J<|aq<|au<|aF J<|bv h fun r1 q_r1 h=>zo J (aA Wr (Oh _ q_r1) ⟨(ht J),aR⟩)<|bm J<|aq<|ah<|ah ?_;refine aw<|aF J<|aq<|cU h J (fun h=>?_) (fun h=>?_)
 ·refine ah<|au<|aF J<|aq<|cU h J (fun h=>?_) (fun h=>?_)
  ·refine au<|zo J (cq)<|aq<|ak ?_;refine ae (ae ?_);cases so h;exact aG J J
  ·refine dR<|au<|zo J (cq)<|aq<|ak<|ae ?_;cases so h;exact aG J J
 ·refine dR<|ah<|au<|aF J<|aq<|cU h J (fun h=>?_) (fun h=>?_)
  ·refine au<|zo J (cq)<|aq<|ak<|ae ?_;cases so h;exact aG J J
  ·refine dR<|ah<|au<|aF J<|aF J<|zo J (fG J J)<|aq<|cU h J (fun h=>?_) (fun h=>?_)
   ·refine au<|zo J (cq)<|aq<|ak<|ae ?_;cases so h;exact aG J J
   ·refine dR<|ah<|au<|aF J<|aF J<|zo J (jm (ht J) (ht J))<|aq<|cU h J (fun h=>?_) (fun h=>?_)
    ·refine au<|zo J (cq)<|aq<|ak<|ae ?_;cases so h;exact aG J J
    ·refine dR<|au<|zo J (cq)<|aq<|ak ?_;cases so h;exact aG J J

theorem Ii(vals:(List Int)){R:Int}(h:mC vals=some R):aU aO 176 [mf vals] (bH R):=by
 refine aU.of Tryz.func176 J J J fun w0 S0=>au<|zo J (cq)<|aq<|au<|zo J (cq)<|aq<|ah<|au<|aF J<|zo J (iw g9 J)<|zo J (bJ hI)<|aq<|ay<|ba (k:=6) J fun hN=>bG ?_;refine aT (eH (Z:=fun ls i=>(vals.drop i=ls)∧ga ls=some R) (Of:=fun _ i=>[]) (Gf:=fun _ i=>[(3,bH 0),(6,mf vals),(7,kg vals),(8,bH (i:Int))]) (fun i h=>?_) (fun e tl ih i h=>?_) vals 0 ⟨J,h⟩) (bt J)
 ·obtain⟨hx,h⟩:=h
  refine aC<|au<|zo J (fG J J)<|aq<|ah<|bA (ht J) (dC hx)<|bu ?_;refine ai (ai (aN ?_));refine av<|au<|aF rfl<|bm rfl<|aq<|ak ?_;cases so h;exact aG J J
 ·obtain⟨hx,h⟩:=h
  refine aC<|au<|zo J (fG J J)<|aq<|ah<|bz (ht J) (du hx)<|dR<|ah<|ay<|au<|zo J (lq g9 cv J J J (cW hx))<|zo J (bB cv J J)<|bm J<|aq<|au<|aF J<|aF J<|zo J (eZ (ht J) (ht J)) ?_;refine aq<|cU h J (fun h=>?_) (fun h=>?_)
  ·refine au<|aF J<|bm J<|aq<|ak ?_;refine aD (ae (ae (aD (ae ?_))));cases so h;exact aG J J
  ·refine bw<|ap<|av<|aw<|zo rfl (mI (cQ hx hN) rfl)<|aF rfl<|aQ ?_;exact bg (aT (ih (i+1) ⟨cP hx,h⟩) (bt J))

theorem N6(p:Int){R:Bool}(h:kK p=some R):aU aO 310 [bH p] (gY R):=by
 refine aU.of Tryz.func310 J J J fun w0 S0=>au<|zo J (jE)<|aq<|au<|aF J<|aF J<|zo J (eZ (ht J) (ht J))<|bm J<|aq<|ak ?_;cases so h;exact aG J J

theorem Oe(p:Int)(y:Int){R:Int}(h:gC p y=some R):aU aO 243 [bH p,bH y] (bH R):=by
 refine aU.of Tryz.func243 J J J fun w0 S0=>au<|zo J (cq)<|aq<|au<|aF J<|bv h fun r q_r h=>zo J (aA Wg (N6 _ q_r) ⟨(ht J),aR⟩)<|bm J<|aq<|au<|aF J<|bv h fun r1 q_r1 h=>zo J (aA Wg (N6 _ q_r1) ⟨(ht J),aR⟩)<|bm J<|aq<|ah<|ah ?_;refine aw<|aF J<|aq<|cU h J (fun h=>?_) (fun h=>?_)
 ·refine ah<|au<|aF J<|aq<|cU h J (fun h=>?_) (fun h=>?_)
  ·refine au<|zo J (cq)<|aq<|ak ?_;refine ae (ae ?_);cases so h;exact aG J J
  ·refine dR<|au<|zo J (cq)<|aq<|ak<|ae ?_;cases so h;exact aG J J
 ·refine dR<|ah<|au<|aF J<|aq<|cU h J (fun h=>?_) (fun h=>?_)
  ·refine au<|zo J (cq)<|aq<|ak<|ae ?_;cases so h;exact aG J J
  ·refine dR<|ah<|au<|aF J<|aF J<|zo J (fG J J)<|aq<|cU h J (fun h=>?_) (fun h=>?_)
   ·refine au<|zo J (cq)<|aq<|ak<|ae ?_;cases so h;exact aG J J
   ·refine dR<|ah<|au<|aF J<|aF J<|zo J (jm (ht J) (ht J))<|aq<|cU h J (fun h=>?_) (fun h=>?_)
    ·refine au<|zo J (cq)<|aq<|ak<|ae ?_;cases so h;exact aG J J
    ·refine dR<|au<|zo J (cq)<|aq<|ak ?_;cases so h;exact aG J J

theorem TX(a1:wz)(b:wz){R:Int}(h:iX a1 b=some R):aU aO 382 [tD rS a1,tD rS b] (bH R):=by
 refine aU.of Tryz.func382 J J J fun w0 S0=>au<|zo J (cq)<|aq<|au<|aF J<|aF J<|zo J (Ts Tryz.func386 (by kernel_rfl) (by kernel_rfl) (by kernel_rfl) (by kernel_rfl) (ht J) (ht J))<|bm J<|aq<|ak ?_;cases so h;exact aG J J

theorem TY(a1:wz)(b:wz){R:Int}(h:oC a1 b=some R):aU aO 376 [tD rS a1,tD rS b] (bH R):=by
 refine aU.of Tryz.func376 J J J fun w0 S0=>au<|zo J (cq)<|aq<|au<|aF J<|aF J<|bv h fun r q_r h=>zo J (aA ZF (TX _ _ q_r) ⟨(ht J),(ht J),aR⟩)<|bm J<|aq<|ak ?_;cases so h;exact aG J J

theorem T0(a1:ac)(b:ac){R:Int}(h:k5 a1 b=some R):aU aO 364 [tD af a1,tD af b] (bH R):=by
 refine aU.of Tryz.func364 J J J fun w0 S0=>au<|zo J (jw J)<|zo J (jw J)<|zo J (cq)<|aq<|ah<|au<|zo J (bB aH J J)<|bv h fun r q_r h=>zo J (aA OB (Di _ q_r) ⟨(ht J),aR⟩)<|zo J (ei (ht J))<|aF J<|bv h fun t q_t h=>gI J J (fun hg=>bB aH J J) ?_
 obtain⟨r1,h1t,h0t⟩:=og q_t
 have q_r1g:=fun hb=>(h1t hb).1
 refine gI J J (fun hg=>aA OB (Di _ (q_r1g hg)) ⟨(bD J hg),aR⟩)<|gI J J (fun hg=>ei (bD J hg))<|zo J (ko (ht J) (fun hb=>(bD J (yA hb))) (fun hb=>(h1t hb).2) h0t)<|aq<|cU h J (fun h=>?_) (fun h=>?_)
 ·refine au<|zo J (cq)<|aq<|ak<|ae ?_;cases so h;exact aG J J
 ·refine dR<|ah<|bv h fun r2 q_r2 h=>bv h fun r3 q_r3 h=>bv h fun r4 q_r4 h=>bv h fun r5 q_r5 h=>?_
  refine cJ (ts:=[_,_,_,_,_,_,_,_,_,_,_,_,_,_,_,_,_,_]) mixed J J
   ⟨ep 2 J J J (cY fR cg J J),
   ⟨bT 13 0 J J J (bB cv J J),
   ⟨ep 3 J J J (cY fR cg J J),
   ⟨bT 15 2 J J J (bB cv J J),
   ⟨dv 14 1 16 3 J J J J (aA Yl (Mz _ _ q_r2) ⟨(ht J),(ht J),aR⟩),
   ⟨ep 2 J J J (cY iZ dm J J),
   ⟨bT 18 5 J J J (bB Bl J J),
   ⟨ep 3 J J J (cY iZ dm J J),
   ⟨bT 20 7 J J J (bB Bl J J),
   ⟨dv 19 6 21 8 J J J J (aA Wo (Oe _ _ q_r3) ⟨(ht J),(ht J),aR⟩),
   ⟨ep 2 J J J (cY oX gN J J),
   ⟨bT 23 10 J J J (bB Le J J),
   ⟨ep 3 J J J (cY oX gN J J),
   ⟨bT 25 12 J J J (bB Le J J),
   ⟨dv 24 11 26 13 J J J J (aA ZH (TY _ _ q_r4) ⟨(ht J),(ht J),aR⟩),
   ⟨Ga 17 4 22 9 27 14 J J J J J (aV (r:=bY) (ys:=[r2,r3,r4]) (xs:=[.tmp 17,.tmp 22,.tmp 27]) g9 cv J J J J J ⟨(ht J),(ht J),(ht J),aR⟩),
   ⟨bT 28 15 J J J (aA Sj (Ii _ q_r5) ⟨(ht J),aR⟩),
   ⟨bT 29 16 J J J (tA J),
   aR⟩⟩⟩⟩⟩⟩⟩⟩⟩⟩⟩⟩⟩⟩⟩⟩⟩⟩ ?_
  refine av<|ak ?_;cases so h;exact aG J J

theorem N3(a1:ac)(b:ac)(is1:(Int→Option Bool)){R:ac×Int}(h:p9 a1 b is1=some R):aU aO 324 [tD af a1,tD af b,(dK aO IV kN (fun(x:Int)=>is1 x))] (tT [tD af R.1,bH R.2]):=by
 refine aU.of Tryz.func324 J J J fun w0 S0=>au<|zo J (jw J)<|zo J (jw J)<|bc (r:=af) (x:=hX) aH (fun _=>bf _) J fun b1=>zo J (cq)<|aq<|ah<|au<|zo J (bB aH J J)<|zo J (bB aH J J)<|zo J (aV (r:=af) (ys:=[a1,b]) (xs:=[.tmp 10,.tmp 11]) j3 aH J J J J J ⟨(ht J),(ht J),aR⟩)<|bv h fun r q_r h=>zo J (aA Wb (N1 _ q_r) ⟨(ht J),aR⟩)<|bm J<|aq<|au<|aF J<|zo J (tE J) ?_;refine aq<|cU h J (fun h=>?_) (fun h=>?_)
 ·refine au<|zo J (ci (y:=hX) aH pL bf (J))<|aF J<|ax aH J an J (ht J) (ht J)<|bm J<|aq<|ak<|ae<|bn 6 J ?_;cases so h;exact bS J J ⟨br aH J J J,aX J,aR⟩
 ·refine dR<|au<|zo J (cY fR cg J J)<|zo J (bB cv J J)<|zo J (lU J)<|aF J<|gI J J (fun hg=>cY fR cg J J)<|gI J J (fun hg=>bM cv J J (bD J hg))<|gI J J (fun hg=>dd (bD J hg) hI)<|zo J (yr J J)<|bm J<|aq<|ah<|ay<|au<|zo J (cY fR cg J J)<|zo J (bB cv J J)<|zo J (lU J)<|aF J<|gI J J (fun hg=>cY fR cg J J) ?_;refine gI J J (fun hg=>bM cv J J (bD J hg))<|gI J J (fun hg=>dd (bD J hg) hI)<|zo J (yr J J)<|aF J<|gI J J (fun hg=>cD J)<|gI J J (fun hg=>ei (bD J hg))<|gI J J (fun hg=>bJ (bD J hg))<|jK J J J J (fun hg=>cY fR cg J J)<|jK J J J J (fun hg=>bM cv J J (bD J hg))<|jK J J J J (fun hg=>cY fR cg J J)<|jK J J J J (fun hg=>bM cv J J (bD J hg))<|jK J J J J (fun hg=>eZ (bD J hg) (bD J hg))<|gI J J (fun hg=>qh (bD J hg) (fun hb=>(bD J (B3 hg hb))))<|zo J (yr J J)<|bm J<|aq<|cU h J (fun h=>?_) (fun h=>?_)
  ·refine au<|zo J (ci (y:=hX) aH pL bf (J))<|ax aH J an J (ht J) (ht J)<|zo J (cq)<|aq<|ak ?_;refine aD (ae ?_);refine bn 6 J ?_;cases so h;exact bS J J ⟨br aH J J J,aX J,aR⟩
  ·refine au<|aF J<|bm J<|aq<|cU h J (fun h=>?_) (fun h=>?_)
   ·refine au<|bv h fun r1 q_r1 h=>zo J (aA Sh (Ih q_r1) trivial)<|ax aH J an J (ht J) (ht J)<|zo J (cq)<|aq<|ak ?_;refine aD (ae ?_);refine bn 6 J ?_;cases so h;exact bS J J ⟨br aH J J J,aX J,aR⟩
   ·refine bw<|ap<|av<|au<|aF rfl<|zo rfl (bB aH rfl rfl)<|zo rfl (bB aH rfl rfl)<|bv h fun r2 q_r2 h=>zo J (aA ZK (T0 _ _ q_r2) ⟨(ht J),(ht J),aR⟩)<|bv h fun r3 q_r3 h=>zo J (fN (args:=(fun(x:Int)=>[tD bY x])) (res:=CQ) (f:=(fun(x:Int)=>is1 x)) (x:=((r2):Int)) (ht J) q_r3 ⟨(ht J),aR⟩)<|bv h fun r4 q_r4 h=>zo J (aA Sf (Ig _ q_r4) ⟨(ht J),aR⟩)<|ax aH J an J (ht J) (ht J)<|zo J (cq)<|aq<|ak<|bn 6 J ?_;cases so h;exact bS J J ⟨br aH J J J,aX J,aR⟩

theorem Uk(c:Int){R:Bool}(h:Ak c=some R):aU aO 325 [bH c] (gY R):=by
 refine aU.of Tryz.func325 J J J fun w0 S0=>au<|zo J (jE)<|aq<|au<|aF J<|zo J (fa (ht J) hI)<|bm J<|aq<|ak ?_;cases so h;exact aG J J

theorem If(a1:ac)(b:ac){R:ac×Int}(h:nm a1 b=some R):aU aO 262 [tD af a1,tD af b] (tT [tD af R.1,bH R.2]):=by
 refine aU.of Tryz.func262 J J J fun w0 S0=>au<|zo J (jw J)<|zo J (jw J)<|bc (r:=af) (x:=hX) aH (fun _=>bf _) J fun b1=>zo J (cq)<|aq<|au<|zo J (bB aH J J)<|zo J (bB aH J J)<|bv h fun r q_r h=>zo J (aA Wd (N3 _ _ _ q_r) ⟨(ht J),(ht J),(yX Z2 fun x y h=>Uk _ h),aR⟩)<|zo J (hZ J J)<|zo J (hZ J J)<|ax aH J an J (ht J) (ht J)<|aZ 4 J<|bm J<|aq<|ak ?_;cases so h;exact bS J J ⟨br aH J J J,aX J,aR⟩

theorem Uj(do1:(ac→Option (ac×Int)))(a1:ac)(x:ac){R:ac×Int}(h:mw do1 a1 x=some R):aU aO 326 [tD af a1,tD af x,bK (rT ((dK aO Ai sx (fun(x:ac)=>do1 x)))) ()] (tT [tD af R.1,bH R.2]):=by
 refine aU.of Tryz.func326 J J J fun w0 S0=>au<|zo J (jw J)<|zo J (jw J)<|bc (r:=af) (x:=hX) aH (fun _=>bf _) J fun b=>zo J (cq)<|aq<|au<|zo J (uX YL (ht J))<|zo J (bB aH J J)<|bv h fun r q_r h=>zo J (fN (args:=Ai) (res:=CR) (f:=(fun(x:ac)=>do1 x)) (x:=((a1):ac)) (ht J) q_r ⟨(ht J),aR⟩)<|zo J (hZ J J)<|zo J (hZ J J)<|ax aH J an J (ht J) (ht J)<|aZ 5 J<|bm J<|aq<|ak ?_;cases so h;exact bS J J ⟨br aH J J J,aX J,aR⟩

theorem Od(do1:(ac→Option (ac×Int))){R:(ac→ac→Option (ac×Int))}(h:zF do1=some R):aU aO 263 [(dK aO Ai sx (fun(x:ac)=>do1 x))] ((dK aO pX sx (fun(x:ac×ac)=>R x.1 x.2))):=by
 refine aU.of Tryz.func263 J J J fun w0 S0=>au<|zo J (C9 (ht J))<|zo J (aJ hV)<|aq<|au<|zo J ((show bO _ _ _ _ ((dK aO pX sx (fun(x:ac×ac)=>(mw do1) x.1 x.2)))from fW (cts:=[bK (rT ((dK aO Ai sx (fun(x:ac)=>do1 x)))) ()]) (caps:=[.tmp 1]) Z1 ⟨(ht J),aR⟩ (fun x y h=>Uj _ _ _ h)))<|bm J<|aq<|ak ?_;cases so h;exact aG J J

theorem AS(n:Int){R:ac}(h:nQ n=some R):aU aO 130 [bH n] (tD af R):=by
 refine aU.of Tryz.func130 J J J fun w0 S0=>au<|bc (r:=af) (x:=hX) aH (fun _=>bf _) J fun b=>aq<|au<|aF J<|zo J (ci (y:=(⟨(2:Int),n,(0:Int),[]⟩:ac)) aH pL bf (⟨_,_,_,_,_,J,nq,J,hI,⟨_,_,_,_,_,J,oL,J,(ht J),J⟩⟩))<|ax aH J an J (ht J) (ht J)<|aZ 2 J<|aq<|ak ?_;cases so h;exact iN J aH J J J

theorem Df(kind:Int)(l:(List ac)){R:Int}(h:pc kind l=some R):aU aO 288 [bH kind,bR (af) l] (bH R):=by
 refine aU.of Tryz.func288 J J J fun w0 S0=>au<|zo J (cq)<|aq<|au<|zo J (cq)<|aq<|ah<|au<|aF J<|zo J (iw j3 J)<|zo J (bJ hI)<|aq<|ay<|ba (k:=8) J fun hN=>bG ?_;refine aT (nO (Z:=fun ls i e=>(l.drop i=ls)∧jS kind ls e=some R) (Of:=fun _ i e=>[]) (Gf:=fun _ i e=>[(0,bH kind),(5,bH e),(8,bR (af) l),(9,kg l),(10,bH (i:Int))]) (fun i e h=>?_) (fun e1 tl ih i e h=>?_) l 0 (0:Int) ⟨J,h⟩) (bt J)
 ·obtain⟨hx,h⟩:=h
  refine aC<|au<|zo J (fG J J)<|aq<|ah<|bA (ht J) (dC hx)<|bu ?_;refine ai (ai (aN ?_));refine av<|au<|aF rfl<|bm rfl<|aq<|ak ?_;cases so h;exact aG J J
 ·obtain⟨hx,h⟩:=h
  refine aC<|au<|zo J (fG J J)<|aq<|ah<|bz (ht J) (du hx)<|dR<|ah<|ay<|au<|zo J (lq j3 aH J J J (cW hx))<|zo J (bB aH J J)<|bc (r:=af) (x:=hX) aH (fun _=>bf _) J fun b=>ax aH J an J (ht J) (ht J)<|aZ 7 J<|aq<|ah<|au ?_;refine zo J (bB aH J J)<|bv h fun r q_r h=>zo J (aA KE (AV _ q_r) ⟨(ht J),aR⟩)<|zo J (tE J)<|aq<|cU h J (fun h=>?_) (fun h=>?_)
  ·refine au<|zo J (cq)<|aq<|ak ?_;refine ae (aD (ae (ae (aD (ae ?_)))));cases so h;exact aG J J
  ·refine dR<|au<|zo J (cY fR cg J J)<|zo J (bB cv J J)<|zo J (tE J)<|aF J<|cR J J (fun hg=>cY fR cg J J)<|cR J J (fun hg=>bM cv J J (bD J hg))<|cR J J (fun hg=>cD J)<|cR J J (fun hg=>eZ (bD J hg) (bD J hg))<|zo J (rE J J)<|aq<|cU h J (fun h=>?_) (fun h=>?_)
   ·refine aw<|zo J (cq)<|aQ<|ap<|av<|aw<|zo rfl (mI (cQ hx hN) rfl)<|aF rfl<|aQ ?_;exact bg (aT (ih (i+1) (2:Int) ⟨cP hx,h⟩) (bt J))
   ·refine bw<|ap<|av<|aw<|zo rfl (mI (cQ hx hN) rfl)<|aF rfl<|aQ ?_;exact bg (aT (ih (i+1) e ⟨cP hx,h⟩) (bt J))

theorem De(a1:ac)(b:ac)(to1:(Int→Int→Option (Int×Bool))){R:ac×Int}(h:rd a1 b to1=some R):aU aO 330 [tD af a1,tD af b,(dK aO (fun(x:Int×Int)=>[bH x.1,bH x.2]) (fun(x:Int×Bool)=>tT [bH x.1,gY x.2]) (fun(x:Int×Int)=>to1 x.1 x.2))] (tT [tD af R.1,bH R.2]):=by
 refine aU.of Tryz.func330 J J J fun w0 S0=>au<|zo J (jw J)<|zo J (jw J)<|bc (r:=af) (x:=hX) aH (fun _=>bf _) J fun b1=>zo J (cq)<|aq<|ah<|au<|zo J (bB aH J J)<|zo J (bB aH J J)<|zo J (aV (r:=af) (ys:=[a1,b]) (xs:=[.tmp 11,.tmp 12]) j3 aH J J J J J ⟨(ht J),(ht J),aR⟩)<|bv h fun r q_r h=>zo J (aA Oy (Df _ _ q_r) ⟨hI,(ht J),aR⟩)<|bm J<|aq<|au<|aF J<|zo J (tE J) ?_;refine aq<|cU h J (fun h=>?_) (fun h=>?_)
 ·refine au<|zo J (ci (y:=hX) aH pL bf (J))<|aF J<|ax aH J an J (ht J) (ht J)<|bm J<|aq<|ak<|ae<|bn 6 J ?_;cases so h;exact bS J J ⟨br aH J J J,aX J,aR⟩
 ·refine dR<|ah<|au<|zo J (cY fR cg J J)<|zo J (bB cv J J)<|zo J (lU J)<|aF J<|gI J J (fun hg=>cY fR cg J J)<|gI J J (fun hg=>bM cv J J (bD J hg))<|gI J J (fun hg=>dd (bD J hg) hI)<|zo J (yr J J)<|aq<|cU h J (fun h=>?_) (fun h=>?_)
  ·refine au<|bv h fun r1 q_r1 h=>zo J (aA Sh (Ih q_r1) trivial)<|ax aH J an J (ht J) (ht J)<|zo J (cq)<|aq<|ak<|ae<|bn 6 J ?_;cases so h;exact bS J J ⟨br aH J J J,aX J,aR⟩
  ·refine dR<|au<|aF J<|zo J (cY iZ dm J J)<|zo J (bB Bl J J)<|zo J (cY iZ dm J J)<|zo J (bB Bl J J)<|bv h fun r2 q_r2 h=>zo J (fN (args:=(fun(x:Int×Int)=>[tD bY x.1,tD bY x.2])) (res:=(fun(x:Int×Bool)=>tT [tD bY x.1,tD rB x.2])) (f:=(fun(x:Int×Int)=>to1 x.1 x.2)) (x:=((a1.N,b.N):Int×Int)) (ht J) q_r2 ⟨(ht J),(ht J),aR⟩)<|aF J<|zo J (hZ J J)<|zo J (hZ J J)<|bm J<|bm J<|aq<|ah<|au<|aF J<|zo J (ei (ht J))<|aQ ?_;refine av<|cU h rfl (fun h=>?_) (fun h=>?_)
   ·refine au<|zo J (ci (y:=hX) aH pL bf (J))<|ax aH J an J (ht J) (ht J)<|zo J (cq)<|aq<|ak<|ae<|bn 6 J ?_;cases so h;exact bS J J ⟨br aH J J J,aX J,aR⟩
   ·refine dR<|au<|aF J<|bv h fun r3 q_r3 h=>zo J (aA KC (AS _ q_r3) ⟨(ht J),aR⟩)<|ax aH J an J (ht J) (ht J)<|zo J (cq)<|aq<|ak<|bn 6 J ?_;cases so h;exact bS J J ⟨br aH J J J,aX J,aR⟩

end Go.Proofs.YtfhhakidodmdfaaGreatDoor

