/- di of this claim: P5. -/
import Derived.Test.YtfhhakidodmdfaaGreatDoorJcT
import Derived.Test.YtfhhakidodmdfaaGreatDoorJcP4
set_option linter.all false
namespace Go.Proofs.YtfhhakidodmdfaaGreatDoor
open Go
set_option maxRecDepth 100000

theorem VM(a1:(List (List ac)))(b:(List (List ac))):AA aU 170 (fun(x:Int×(List ac))=>[bM x.1,cq (af) x.2]) (fun _=>mt a1 b) [] [bN ee a1,bN ee b]:=by
 refine AA.of Tryz.func170 J J J fun Sg yld s R h I yv hy e he w0 S0 B hB=>?_
 replace h:mt a1 b yld s=some R:=h
 refine av<|zo J (bh iy J J)<|zo J (jw jN J)<|zo J (bJ hI)<|aq<|aC<|bp (k:=8) J fun hN=>bQ ?_;refine ba (vS (Z:=fun ls i e1 s1=>(a1.drop i=ls)∧I s1 e1∧dZ b yld ls i s1=some R) (Of:=fun _ i e1 s1=>[e1]) (Gf:=fun _ i e1 s1=>[(0,tV yv),(2,bN ee b),(8,cq (dg) a1),(9,ky a1),(10,bM (i:Int))]) (fun i e1 s1 h=>?_) (fun e2 tl ih i e1 s1 h=>?_) a1 0 e s ⟨J,⟨he,h⟩⟩) (bD J)
 ·obtain⟨hx,h⟩:=h
  obtain⟨he1,h⟩:=h
  refine aG<|av<|zo J (fY J J)<|aq<|ah<|bL (ht J) (dO hx)<|bG ?_;refine ak (ak (aV ?_));cases so h;exact LX J he1 hB trivial
 ·obtain⟨hx,h⟩:=h
  obtain⟨he1,h⟩:=h
  refine aG<|av<|zo J (fY J J)<|aq<|ah<|bK (ht J) (dL hx)<|df<|ah<|aC<|av<|aE J<|zo J (ne jN eg J J J (dA hx))<|zo J (bh eg J J)<|bg J<|bg J<|aq<|av<|zo J (bh iy J J) ?_;refine zo J (jw jN J)<|zo J (bJ hI)<|aq<|aC<|bp (k:=15) J fun hN1=>bQ ?_;refine ba (vS (Z:=fun ls1 i1 e3 s2=>(b.drop i1=ls1)∧I s2 e3∧gg yld (dZ b yld tl) i e2 ls1 s2=some R) (Of:=fun _ i1 e3 s2=>[e3]) (Gf:=fun _ i1 e3 s2=>[(0,tV yv),(2,bN ee b),(4,bM (i:Int)),(5,cq (af) e2),(8,cq (dg) a1),(9,ky a1),(10,bM (i:Int)),(15,cq (dg) b),(16,ky b),(17,bM (i1:Int))]) (fun i1 e3 s2 h=>?_) (fun e4 tl1 ih1 i1 e3 s2 h=>?_) b 0 e1 s1 ⟨J,⟨he1,h⟩⟩) (bD J)
  ·obtain⟨hx1,h⟩:=h
   obtain⟨he2,h⟩:=h
   refine aG<|av<|zo J (fY J J)<|aq<|ah<|bL (ht J) (dO hx1)<|bG ?_;refine ak (ak (aV ?_));refine aw<|ax<|aA<|zo rfl (nf (dd hx hN) rfl)<|aE rfl<|aQ ?_;exact bn (ba (ih (i+1) e3 s2 ⟨dc hx,⟨he2,h⟩⟩) (bD J))
  ·obtain⟨hx1,h⟩:=h
   obtain⟨he2,h⟩:=h
   refine aG<|av<|zo J (fY J J)<|aq<|ah<|bK (ht J) (dL hx1)<|df<|ah<|aC<|av<|zo J (ne jN eg J J J (dA hx1))<|zo J (bh eg J J)<|bg J<|aq<|av<|aE J<|aE J<|aE J ?_;refine aE J<|zo J (bf (r:=dg) (ys:=[e2,e4]) (xs:=[.tmp 23,.tmp 24]) jN eg J J J J J ⟨(ht J),(ht J),aL⟩)<|bo h fun r q_r h=>jh XF (Lh _ q_r) ⟨(ht J),aL⟩ J fun l c=>kO<|jM 26 J<|bq<|bo h fun r1 q_r1 h=>FF hy he2 q_r1 (ht J) ⟨(ht J),(lJ (ht J)),aL⟩ J fun e5 he3=>zo J (cx (ht J))<|aq<|ce h J (fun h=>?_) (fun h=>?_)
   ·refine aj ?_;refine aB (ae (ae (aB (aB (ae (ae (aB ?_)))))));refine bI<|aZ ?_;cases so h;exact Jl J he3 hB trivial
   ·refine bA<|aw<|ax<|aA<|zo rfl (nf (dd hx1 hN1) rfl)<|aE rfl<|aQ<|bI<|aZ ?_;exact bn (ba (ih1 (i1+1) e5 r1.2 ⟨dc hx1,⟨he3,h⟩⟩) (bD J))

theorem SF(a1:(List (List ac)))(b:(List (List ac))){R:It (Int×(List ac))}(h:wK a1 b=some R):As aU 102 [cq (dg) a1,cq (dg) b] (fun(x:Int×(List ac))=>[bM x.1,cq (af) x.2]) R:=by
 refine As.of Tryz.func102 J J J fun w0 S0=>av<|zo J (gi J)<|zo J (gi J)<|zo J (aT hV)<|aq<|av<|Dl (O1:=[]) (cts:=[bN ee a1,bN ee b]) (caps:=[.tmp 2,.tmp 3]) J ab7 (VM a1 b) ⟨(ht J),(ht J),aL⟩ J fun v fp=>bg J<|aq<|aj ?_;cases so h;exact LV J J

theorem U0(do1:(ac→ac→Option (ac×Int)))(a1:ac)(b:ac){R:ac×Int}(h:lQ do1 a1 b=some R):aR aU 323 [tD af a1,tD af b,bN (rT ((ei aU qH tA (fun(x:ac×ac)=>do1 x.1 x.2)))) ()] (tT [tD af R.1,bM R.2]):=by
 refine aR.of Tryz.func323 J J J fun w0 S0=>av<|zo J (gi J)<|zo J (gi J)<|aP (r:=af) (x:=d3) au (fun _=>aJ _) J fun b1=>zo J (bW)<|aq<|av<|zo J (vD WJ (ht J))<|zo J (bh au J J)<|zo J (bh au J J)<|bo h fun r q_r h=>zo J (io (args:=qH) (res:=Dr) (f:=(fun(x:ac×ac)=>do1 x.1 x.2)) (x:=((b,a1):ac×ac)) (ht J) q_r ⟨(ht J),(ht J),aL⟩)<|zo J (dX J J)<|zo J (dX J J)<|am au J ai J (ht J) (ht J)<|aY 5 J<|bg J<|aq<|aj ?_;cases so h;exact be J J ⟨aN au J J J,aK J,aL⟩

theorem Vk(do1:(ac→ac→Option (ac×Int))){R:(ac→ac→Option (ac×Int))}(h:Db do1=some R):aR aU 261 [(ei aU qH tA (fun(x:ac×ac)=>do1 x.1 x.2))] ((ei aU qH tA (fun(x:ac×ac)=>R x.1 x.2))):=by
 refine aR.of Tryz.func261 J J J fun w0 S0=>av<|zo J (DL (ht J))<|zo J (aT hV)<|aq<|av<|zo J ((show bZ _ _ _ _ ((ei aU qH tA (fun(x:ac×ac)=>(lQ do1) x.1 x.2)))from i8 (cts:=[bN (rT ((ei aU qH tA (fun(x:ac×ac)=>do1 x.1 x.2)))) ()]) (caps:=[.tmp 1]) aa4 ⟨(ht J),aL⟩ (fun x y h=>U0 _ _ _ h)))<|bg J<|aq<|aj ?_;cases so h;exact aH J J

theorem I1{R:ac}(h:pm=some R):aR aU 216 [] (tD af R):=by
 refine aR.of Tryz.func216 J J J fun w0 S0=>av<|aP (r:=af) (x:=d3) au (fun _=>aJ _) J fun b=>aq<|av<|zo J (bB (y:=d3) au gW aJ (J))<|am au J ai J (ht J) (ht J)<|aY 0 J<|aq<|aj ?_;cases so h;exact eP J au J J J

theorem IZ(b:Bool){R:ac}(h:pn b=some R):aR aU 256 [hJ b] (tD af R):=by
 refine aR.of Tryz.func256 J J J fun w0 S0=>av<|aP (r:=af) (x:=d3) au (fun _=>aJ _) J fun b1=>aq<|av<|zo J (bB (y:=PK) au gW aJ (⟨_,_,_,_,_,J,jV,J,hI,J⟩))<|aP (r:=af) (x:=d3) au (fun _=>aJ _) J fun b2=>am au J ai J (ht J) (ht J)<|aq ?_;refine i6 (Z:=fun v=>uY v=some R) (Of:=fun v=>[bx af 46 b1 d3,bx af 46 b2 v]) (Gf:=fun v=>[(2,tV (aS b1 0)),(3,tV (aS b2 0))]) (fun v h=>?_) (fun K=>?_)
 ·skip
  refine av<|zo J (bE au J J bw (.tail _ (.head _)) (ht J))<|am au J ai J (ht J) (ht J)<|aY 2 J<|aq<|aj<|aZ ?_;cases so h;exact eP J au J J J
 ·skip
  refine av<|aE J<|aq<|ce h J (fun h=>?_) (fun h=>?_)
  ·refine aA<|zo J (je 1 eE J J J)<|am uq J lL J (ht J) hI<|aQ<|bI ?_;exact ci (K (ac.mk PK.Kind (1:Int) PK.U PK.S) h) (bD J)
  ·refine bA<|bI ?_;exact ci (K PK h) (bD J)

theorem OH(l:(List ac)){R:Int}(h:pJ l=some R):aR aU 363 [cq (af) l] (bM R):=by
 refine aR.of Tryz.func363 J J J fun w0 S0=>av<|zo J (bW)<|aq<|ah<|av<|aE J<|zo J (jw i7 J)<|zo J (bJ hI)<|aq<|aC<|bp (k:=6) J fun hN=>bQ ?_;refine ba (fK (Z:=fun ls i=>(l.drop i=ls)∧jC ls=some R) (Of:=fun _ i=>[]) (Gf:=fun _ i=>[(6,cq (af) l),(7,ky l),(8,bM (i:Int))]) (fun i h=>?_) (fun e tl ih i h=>?_) l 0 ⟨J,h⟩) (bD J)
 ·obtain⟨hx,h⟩:=h
  refine aG<|av<|zo J (fY J J)<|aq<|ah<|bL (ht J) (dO hx)<|bG ?_;refine ak (ak (aV ?_));refine ax<|av<|zo rfl (bW)<|aq<|aj ?_;cases so h;exact aH J J
 ·obtain⟨hx,h⟩:=h
  refine aG<|av<|zo J (fY J J)<|aq<|ah<|bK (ht J) (dL hx)<|df<|ah<|aC<|av<|zo J (ne i7 au J J J (dA hx))<|zo J (bh au J J)<|aP (r:=af) (x:=d3) au (fun _=>aJ _) J fun b=>am au J ai J (ht J) (ht J)<|aY 4 J<|aq<|av<|zo J (bh au J J) ?_;refine bo h fun r q_r h=>zo J (ap Lw (Bu _ q_r) ⟨(ht J),aL⟩)<|bg J<|aq<|av<|aE J<|zo J (sx J)<|aq<|ce h J (fun h=>?_) (fun h=>?_)
  ·refine av<|aE J<|bg J<|aq<|aj ?_;refine aB (ae (ae (aB (ae ?_))));cases so h;exact aH J J
  ·refine bA<|aw<|ax<|aA<|zo rfl (nf (dd hx hN) rfl)<|aE rfl<|aQ ?_;exact bn (ba (ih (i+1) ⟨dc hx,h⟩) (bD J))

theorem O4(p:Int){R:Bool}(h:nJ p=some R):aR aU 153 [bM p] (hJ R):=by
 refine aR.of Tryz.func153 J J J fun w0 S0=>av<|zo J (jU)<|aq<|av<|aE J<|aE J<|zo J (c9 (ht J) (ht J))<|bg J<|aq<|aj ?_;cases so h;exact aH J J

theorem Sj(p:Int)(y:Int){R:Int}(h:ja p y=some R):aR aU 88 [bM p,bM y] (bM R):=by
 refine aR.of Tryz.func88 J J J fun w0 S0=>av<|zo J (bW)<|aq<|av<|aE J<|bo h fun r q_r h=>zo J (ap XB (O4 _ q_r) ⟨(ht J),aL⟩)<|bg J<|aq<|av<|aE J<|bo h fun r1 q_r1 h=>zo J (ap XB (O4 _ q_r1) ⟨(ht J),aL⟩)<|bg J<|aq<|ah<|ah ?_;refine aA<|aE J<|aq<|ce h J (fun h=>?_) (fun h=>?_)
 ·refine ah<|av<|aE J<|aq<|ce h J (fun h=>?_) (fun h=>?_)
  ·refine av<|zo J (bW)<|aq<|aj ?_;refine ae (ae ?_);cases so h;exact aH J J
  ·refine df<|av<|zo J (bW)<|aq<|aj<|ae ?_;cases so h;exact aH J J
 ·refine df<|ah<|av<|aE J<|aq<|ce h J (fun h=>?_) (fun h=>?_)
  ·refine av<|zo J (bW)<|aq<|aj<|ae ?_;cases so h;exact aH J J
  ·refine df<|ah<|av<|aE J<|aE J<|zo J (fY J J)<|aq<|ce h J (fun h=>?_) (fun h=>?_)
   ·refine av<|zo J (bW)<|aq<|aj<|ae ?_;cases so h;exact aH J J
   ·refine df<|ah<|av<|aE J<|aE J<|zo J (iz (ht J) (ht J))<|aq<|ce h J (fun h=>?_) (fun h=>?_)
    ·refine av<|zo J (bW)<|aq<|aj<|ae ?_;cases so h;exact aH J J
    ·refine df<|av<|zo J (bW)<|aq<|aj ?_;cases so h;exact aH J J

theorem I2(vals:(List Int)){R:Int}(h:m6 vals=some R):aR aU 176 [mH vals] (bM R):=by
 refine aR.of Tryz.func176 J J J fun w0 S0=>av<|zo J (bW)<|aq<|av<|zo J (bW)<|aq<|ah<|av<|aE J<|zo J (jw iv J)<|zo J (bJ hI)<|aq<|aC<|bp (k:=6) J fun hN=>bQ ?_;refine ba (fK (Z:=fun ls i=>(vals.drop i=ls)∧gx ls=some R) (Of:=fun _ i=>[]) (Gf:=fun _ i=>[(3,bM 0),(6,mH vals),(7,ky vals),(8,bM (i:Int))]) (fun i h=>?_) (fun e tl ih i h=>?_) vals 0 ⟨J,h⟩) (bD J)
 ·obtain⟨hx,h⟩:=h
  refine aG<|av<|zo J (fY J J)<|aq<|ah<|bL (ht J) (dO hx)<|bG ?_;refine ak (ak (aV ?_));refine ax<|av<|aE rfl<|bg rfl<|aq<|aj ?_;cases so h;exact aH J J
 ·obtain⟨hx,h⟩:=h
  refine aG<|av<|zo J (fY J J)<|aq<|ah<|bK (ht J) (dL hx)<|df<|ah<|aC<|av<|zo J (ne iv cg J J J (dA hx))<|zo J (bh cg J J)<|bg J<|aq<|av<|aE J<|aE J<|zo J (c9 (ht J) (ht J)) ?_;refine aq<|ce h J (fun h=>?_) (fun h=>?_)
  ·refine av<|aE J<|bg J<|aq<|aj ?_;refine aB (ae (ae (aB (ae ?_))));cases so h;exact aH J J
  ·refine bA<|aw<|ax<|aA<|zo rfl (nf (dd hx hN) rfl)<|aE rfl<|aQ ?_;exact bn (ba (ih (i+1) ⟨dc hx,h⟩) (bD J))

theorem OP(p:Int){R:Bool}(h:lh p=some R):aR aU 310 [bM p] (hJ R):=by
 refine aR.of Tryz.func310 J J J fun w0 S0=>av<|zo J (jU)<|aq<|av<|aE J<|aE J<|zo J (c9 (ht J) (ht J))<|bg J<|aq<|aj ?_;cases so h;exact aH J J

theorem OX(p:Int)(y:Int){R:Int}(h:gU p y=some R):aR aU 243 [bM p,bM y] (bM R):=by
 refine aR.of Tryz.func243 J J J fun w0 S0=>av<|zo J (bW)<|aq<|av<|aE J<|bo h fun r q_r h=>zo J (ap Xn (OP _ q_r) ⟨(ht J),aL⟩)<|bg J<|aq<|av<|aE J<|bo h fun r1 q_r1 h=>zo J (ap Xn (OP _ q_r1) ⟨(ht J),aL⟩)<|bg J<|aq<|ah<|ah ?_;refine aA<|aE J<|aq<|ce h J (fun h=>?_) (fun h=>?_)
 ·refine ah<|av<|aE J<|aq<|ce h J (fun h=>?_) (fun h=>?_)
  ·refine av<|zo J (bW)<|aq<|aj ?_;refine ae (ae ?_);cases so h;exact aH J J
  ·refine df<|av<|zo J (bW)<|aq<|aj<|ae ?_;cases so h;exact aH J J
 ·refine df<|ah<|av<|aE J<|aq<|ce h J (fun h=>?_) (fun h=>?_)
  ·refine av<|zo J (bW)<|aq<|aj<|ae ?_;cases so h;exact aH J J
  ·refine df<|ah<|av<|aE J<|aE J<|zo J (fY J J)<|aq<|ce h J (fun h=>?_) (fun h=>?_)
   ·refine av<|zo J (bW)<|aq<|aj<|ae ?_;cases so h;exact aH J J
   ·refine df<|ah<|av<|aE J<|aE J<|zo J (iz (ht J) (ht J))<|aq<|ce h J (fun h=>?_) (fun h=>?_)
    ·refine av<|zo J (bW)<|aq<|aj<|ae ?_;cases so h;exact aH J J
    ·refine df<|av<|zo J (bW)<|aq<|aj ?_;cases so h;exact aH J J

theorem UG(a1:xc)(b:xc){R:Int}(h:jp a1 b=some R):aR aU 382 [tD rS a1,tD rS b] (bM R):=by
 refine aR.of Tryz.func382 J J J fun w0 S0=>av<|zo J (bW)<|aq<|av<|aE J<|aE J<|zo J (Uh Tryz.func386 (by kernel_rfl) (by kernel_rfl) (by kernel_rfl) (by kernel_rfl) (ht J) (ht J))<|bg J<|aq<|aj ?_;cases so h;exact aH J J

theorem UH(a1:xc)(b:xc){R:Int}(h:o9 a1 b=some R):aR aU 376 [tD rS a1,tD rS b] (bM R):=by
 refine aR.of Tryz.func376 J J J fun w0 S0=>av<|zo J (bW)<|aq<|av<|aE J<|aE J<|bo h fun r q_r h=>zo J (ap aaH (UG _ _ q_r) ⟨(ht J),(ht J),aL⟩)<|bg J<|aq<|aj ?_;cases so h;exact aH J J

theorem UJ(a1:ac)(b:ac){R:Int}(h:lG a1 b=some R):aR aU 364 [tD af a1,tD af b] (bM R):=by
 refine aR.of Tryz.func364 J J J fun w0 S0=>av<|zo J (gi J)<|zo J (gi J)<|zo J (bW)<|aq<|ah<|av<|zo J (bh au J J)<|bo h fun r q_r h=>zo J (ap Po (DY _ q_r) ⟨(ht J),aL⟩)<|zo J (cx (ht J))<|aE J<|bo h fun t q_t h=>dD J J (fun hg=>bh au J J) ?_
 obtain⟨r1,h1t,h0t⟩:=og q_t
 have q_r1g:=fun hb=>(h1t hb).1
 refine dD J J (fun hg=>ap Po (DY _ (q_r1g hg)) ⟨(bm J hg),aL⟩)<|dD J J (fun hg=>cx (bm J hg))<|zo J (eO (ht J) (fun hb=>(bm J (qo hb))) (fun hb=>(h1t hb).2) h0t)<|aq<|ce h J (fun h=>?_) (fun h=>?_)
 ·refine av<|zo J (bW)<|aq<|aj<|ae ?_;cases so h;exact aH J J
 ·refine df<|ah<|bo h fun r2 q_r2 h=>bo h fun r3 q_r3 h=>bo h fun r4 q_r4 h=>bo h fun r5 q_r5 h=>?_
  refine cD (ts:=[_,_,_,_,_,_,_,_,_,_,_,_,_,_,_,_,_,_]) mixed J J
   ⟨dB 2 J J J (bX cz br J J),
   ⟨bT 13 0 J J J (bh cg J J),
   ⟨dB 3 J J J (bX cz br J J),
   ⟨bT 15 2 J J J (bh cg J J),
   ⟨cK 14 1 16 3 J J J J (ap aaD (Sj _ _ q_r2) ⟨(ht J),(ht J),aL⟩),
   ⟨dB 2 J J J (bX eE bY J J),
   ⟨bT 18 5 J J J (bh uq J J),
   ⟨dB 3 J J J (bX eE bY J J),
   ⟨bT 20 7 J J J (bh uq J J),
   ⟨cK 19 6 21 8 J J J J (ap Xw (OX _ _ q_r3) ⟨(ht J),(ht J),aL⟩),
   ⟨dB 2 J J J (bX jG dy J J),
   ⟨bT 23 10 J J J (bh B6 J J),
   ⟨dB 3 J J J (bX jG dy J J),
   ⟨bT 25 12 J J J (bh B6 J J),
   ⟨cK 24 11 26 13 J J J J (ap aaJ (UH _ _ q_r4) ⟨(ht J),(ht J),aL⟩),
   ⟨GI 17 4 22 9 27 14 J J J J J (bf (r:=cj) (ys:=[r2,r3,r4]) (xs:=[.tmp 17,.tmp 22,.tmp 27]) iv cg J J J J J ⟨(ht J),(ht J),(ht J),aL⟩),
   ⟨bT 28 15 J J J (ap S6 (I2 _ q_r5) ⟨(ht J),aL⟩),
   ⟨bT 29 16 J J J (rN J),
   aL⟩⟩⟩⟩⟩⟩⟩⟩⟩⟩⟩⟩⟩⟩⟩⟩⟩⟩ ?_
  refine ax<|aj ?_;cases so h;exact aH J J

theorem OM(a1:ac)(b:ac)(is1:(Int→Option Bool)){R:ac×Int}(h:qS a1 b is1=some R):aR aU 324 [tD af a1,tD af b,(ei aU JB mI (fun(x:Int)=>is1 x))] (tT [tD af R.1,bM R.2]):=by
 refine aR.of Tryz.func324 J J J fun w0 S0=>av<|zo J (gi J)<|zo J (gi J)<|aP (r:=af) (x:=d3) au (fun _=>aJ _) J fun b1=>zo J (bW)<|aq<|ah<|av<|zo J (bh au J J)<|zo J (bh au J J)<|zo J (bf (r:=af) (ys:=[a1,b]) (xs:=[.tmp 10,.tmp 11]) i7 au J J J J J ⟨(ht J),(ht J),aL⟩)<|bo h fun r q_r h=>zo J (ap Xg (OH _ q_r) ⟨(ht J),aL⟩)<|bg J<|aq<|av<|aE J<|zo J (sx J) ?_;refine aq<|ce h J (fun h=>?_) (fun h=>?_)
 ·refine av<|zo J (bB (y:=d3) au gW aJ (J))<|aE J<|am au J ai J (ht J) (ht J)<|bg J<|aq<|aj<|ae<|aF 6 J ?_;cases so h;exact be J J ⟨aN au J J J,aK J,aL⟩
 ·refine df<|av<|zo J (bX cz br J J)<|zo J (bh cg J J)<|zo J (hM J)<|aE J<|dD J J (fun hg=>bX cz br J J)<|dD J J (fun hg=>bj cg J J (bm J hg))<|dD J J (fun hg=>cd (bm J hg) hI)<|zo J (uo J J)<|bg J<|aq<|ah<|aC<|av<|zo J (bX cz br J J)<|zo J (bh cg J J)<|zo J (hM J)<|aE J<|dD J J (fun hg=>bX cz br J J) ?_;refine dD J J (fun hg=>bj cg J J (bm J hg))<|dD J J (fun hg=>cd (bm J hg) hI)<|zo J (uo J J)<|aE J<|dD J J (fun hg=>cX J)<|dD J J (fun hg=>cx (bm J hg))<|dD J J (fun hg=>bJ (bm J hg))<|cG J J J J (fun hg=>bX cz br J J)<|cG J J J J (fun hg=>bj cg J J (bm J hg))<|cG J J J J (fun hg=>bX cz br J J)<|cG J J J J (fun hg=>bj cg J J (bm J hg))<|cG J J J J (fun hg=>c9 (bm J hg) (bm J hg))<|dD J J (fun hg=>jo (bm J hg) (fun hb=>(bm J (qD hg hb))))<|zo J (uo J J)<|bg J<|aq<|ce h J (fun h=>?_) (fun h=>?_)
  ·refine av<|zo J (bB (y:=d3) au gW aJ (J))<|am au J ai J (ht J) (ht J)<|zo J (bW)<|aq<|aj ?_;refine aB (ae ?_);refine aF 6 J ?_;cases so h;exact be J J ⟨aN au J J J,aK J,aL⟩
  ·refine av<|aE J<|bg J<|aq<|ce h J (fun h=>?_) (fun h=>?_)
   ·refine av<|bo h fun r1 q_r1 h=>zo J (ap S4 (I1 q_r1) trivial)<|am au J ai J (ht J) (ht J)<|zo J (bW)<|aq<|aj ?_;refine aB (ae ?_);refine aF 6 J ?_;cases so h;exact be J J ⟨aN au J J J,aK J,aL⟩
   ·refine bA<|aw<|ax<|av<|aE rfl<|zo rfl (bh au rfl rfl)<|zo rfl (bh au rfl rfl)<|bo h fun r2 q_r2 h=>zo J (ap aaM (UJ _ _ q_r2) ⟨(ht J),(ht J),aL⟩)<|bo h fun r3 q_r3 h=>zo J (io (args:=(fun(x:Int)=>[tD cj x])) (res:=HQ) (f:=(fun(x:Int)=>is1 x)) (x:=((r2):Int)) (ht J) q_r3 ⟨(ht J),aL⟩)<|bo h fun r4 q_r4 h=>zo J (ap SZ (IZ _ q_r4) ⟨(ht J),aL⟩)<|am au J ai J (ht J) (ht J)<|zo J (bW)<|aq<|aj<|aF 6 J ?_;cases so h;exact be J J ⟨aN au J J J,aK J,aL⟩

theorem UZ(c:Int){R:Bool}(h:AU c=some R):aR aU 325 [bM c] (hJ R):=by
 refine aR.of Tryz.func325 J J J fun w0 S0=>av<|zo J (jU)<|aq<|av<|aE J<|zo J (dJ (ht J) hI)<|bg J<|aq<|aj ?_;cases so h;exact aH J J

theorem IY(a1:ac)(b:ac){R:ac×Int}(h:nT a1 b=some R):aR aU 262 [tD af a1,tD af b] (tT [tD af R.1,bM R.2]):=by
 refine aR.of Tryz.func262 J J J fun w0 S0=>av<|zo J (gi J)<|zo J (gi J)<|aP (r:=af) (x:=d3) au (fun _=>aJ _) J fun b1=>zo J (bW)<|aq<|av<|zo J (bh au J J)<|zo J (bh au J J)<|bo h fun r q_r h=>zo J (ap Xk (OM _ _ _ q_r) ⟨(ht J),(ht J),(zJ aa3 fun x y h=>UZ _ h),aL⟩)<|zo J (dX J J)<|zo J (dX J J)<|am au J ai J (ht J) (ht J)<|aY 4 J<|bg J<|aq<|aj ?_;cases so h;exact be J J ⟨aN au J J J,aK J,aL⟩

theorem UY(do1:(ac→Option (ac×Int)))(a1:ac)(x:ac){R:ac×Int}(h:mW do1 a1 x=some R):aR aU 326 [tD af a1,tD af x,bN (rT ((ei aU AR tA (fun(x:ac)=>do1 x)))) ()] (tT [tD af R.1,bM R.2]):=by
 refine aR.of Tryz.func326 J J J fun w0 S0=>av<|zo J (gi J)<|zo J (gi J)<|aP (r:=af) (x:=d3) au (fun _=>aJ _) J fun b=>zo J (bW)<|aq<|av<|zo J (vD ZP (ht J))<|zo J (bh au J J)<|bo h fun r q_r h=>zo J (io (args:=AR) (res:=Dr) (f:=(fun(x:ac)=>do1 x)) (x:=((a1):ac)) (ht J) q_r ⟨(ht J),aL⟩)<|zo J (dX J J)<|zo J (dX J J)<|am au J ai J (ht J) (ht J)<|aY 5 J<|bg J<|aq<|aj ?_;cases so h;exact be J J ⟨aN au J J J,aK J,aL⟩

theorem OW(do1:(ac→Option (ac×Int))){R:(ac→ac→Option (ac×Int))}(h:Aq do1=some R):aR aU 263 [(ei aU AR tA (fun(x:ac)=>do1 x))] ((ei aU qH tA (fun(x:ac×ac)=>R x.1 x.2))):=by
 refine aR.of Tryz.func263 J J J fun w0 S0=>av<|zo J (DL (ht J))<|zo J (aT hV)<|aq<|av<|zo J ((show bZ _ _ _ _ ((ei aU qH tA (fun(x:ac×ac)=>(mW do1) x.1 x.2)))from i8 (cts:=[bN (rT ((ei aU AR tA (fun(x:ac)=>do1 x)))) ()]) (caps:=[.tmp 1]) aa2 ⟨(ht J),aL⟩ (fun x y h=>UY _ _ _ h)))<|bg J<|aq<|aj ?_;cases so h;exact aH J J

theorem Bt(n:Int){R:ac}(h:oA n=some R):aR aU 130 [bM n] (tD af R):=by
 refine aR.of Tryz.func130 J J J fun w0 S0=>av<|aP (r:=af) (x:=d3) au (fun _=>aJ _) J fun b=>aq<|av<|aE J<|zo J (bB (y:=(⟨(2:Int),n,(0:Int),[]⟩:ac)) au gW aJ (⟨_,_,_,_,_,J,jV,J,hI,⟨_,_,_,_,_,J,lL,J,(ht J),J⟩⟩))<|am au J ai J (ht J) (ht J)<|aY 2 J<|aq<|aj ?_;cases so h;exact eP J au J J J

theorem DV(kind:Int)(l:(List ac)){R:Int}(h:pV kind l=some R):aR aU 288 [bM kind,cq (af) l] (bM R):=by
 refine aR.of Tryz.func288 J J J fun w0 S0=>av<|zo J (bW)<|aq<|av<|zo J (bW)<|aq<|ah<|av<|aE J<|zo J (jw i7 J)<|zo J (bJ hI)<|aq<|aC<|bp (k:=8) J fun hN=>bQ ?_;refine ba (ox (Z:=fun ls i e=>(l.drop i=ls)∧kw kind ls e=some R) (Of:=fun _ i e=>[]) (Gf:=fun _ i e=>[(0,bM kind),(5,bM e),(8,cq (af) l),(9,ky l),(10,bM (i:Int))]) (fun i e h=>?_) (fun e1 tl ih i e h=>?_) l 0 (0:Int) ⟨J,h⟩) (bD J)
 ·obtain⟨hx,h⟩:=h
  refine aG<|av<|zo J (fY J J)<|aq<|ah<|bL (ht J) (dO hx)<|bG ?_;refine ak (ak (aV ?_));refine ax<|av<|aE rfl<|bg rfl<|aq<|aj ?_;cases so h;exact aH J J
 ·obtain⟨hx,h⟩:=h
  refine aG<|av<|zo J (fY J J)<|aq<|ah<|bK (ht J) (dL hx)<|df<|ah<|aC<|av<|zo J (ne i7 au J J J (dA hx))<|zo J (bh au J J)<|aP (r:=af) (x:=d3) au (fun _=>aJ _) J fun b=>am au J ai J (ht J) (ht J)<|aY 7 J<|aq<|ah<|av ?_;refine zo J (bh au J J)<|bo h fun r q_r h=>zo J (ap Lw (Bu _ q_r) ⟨(ht J),aL⟩)<|zo J (sx J)<|aq<|ce h J (fun h=>?_) (fun h=>?_)
  ·refine av<|zo J (bW)<|aq<|aj ?_;refine ae (aB (ae (ae (aB (ae ?_)))));cases so h;exact aH J J
  ·refine df<|av<|zo J (bX cz br J J)<|zo J (bh cg J J)<|zo J (sx J)<|aE J<|co J J (fun hg=>bX cz br J J)<|co J J (fun hg=>bj cg J J (bm J hg))<|co J J (fun hg=>cX J)<|co J J (fun hg=>c9 (bm J hg) (bm J hg))<|zo J (pH J J)<|aq<|ce h J (fun h=>?_) (fun h=>?_)
   ·refine aA<|zo J (bW)<|aQ<|aw<|ax<|aA<|zo rfl (nf (dd hx hN) rfl)<|aE rfl<|aQ ?_;exact bn (ba (ih (i+1) (2:Int) ⟨dc hx,h⟩) (bD J))
   ·refine bA<|aw<|ax<|aA<|zo rfl (nf (dd hx hN) rfl)<|aE rfl<|aQ ?_;exact bn (ba (ih (i+1) e ⟨dc hx,h⟩) (bD J))

theorem DQ(a1:ac)(b:ac)(to1:(Int→Int→Option (Int×Bool))){R:ac×Int}(h:sq a1 b to1=some R):aR aU 330 [tD af a1,tD af b,(ei aU (fun(x:Int×Int)=>[bM x.1,bM x.2]) (fun(x:Int×Bool)=>tT [bM x.1,hJ x.2]) (fun(x:Int×Int)=>to1 x.1 x.2))] (tT [tD af R.1,bM R.2]):=by
 refine aR.of Tryz.func330 J J J fun w0 S0=>av<|zo J (gi J)<|zo J (gi J)<|aP (r:=af) (x:=d3) au (fun _=>aJ _) J fun b1=>zo J (bW)<|aq<|ah<|av<|zo J (bh au J J)<|zo J (bh au J J)<|zo J (bf (r:=af) (ys:=[a1,b]) (xs:=[.tmp 11,.tmp 12]) i7 au J J J J J ⟨(ht J),(ht J),aL⟩)<|bo h fun r q_r h=>zo J (ap Pk (DV _ _ q_r) ⟨hI,(ht J),aL⟩)<|bg J<|aq<|av<|aE J<|zo J (sx J) ?_;refine aq<|ce h J (fun h=>?_) (fun h=>?_)
 ·refine av<|zo J (bB (y:=d3) au gW aJ (J))<|aE J<|am au J ai J (ht J) (ht J)<|bg J<|aq<|aj<|ae<|aF 6 J ?_;cases so h;exact be J J ⟨aN au J J J,aK J,aL⟩
 ·refine df<|ah<|av<|zo J (bX cz br J J)<|zo J (bh cg J J)<|zo J (hM J)<|aE J<|dD J J (fun hg=>bX cz br J J)<|dD J J (fun hg=>bj cg J J (bm J hg))<|dD J J (fun hg=>cd (bm J hg) hI)<|zo J (uo J J)<|aq<|ce h J (fun h=>?_) (fun h=>?_)
  ·refine av<|bo h fun r1 q_r1 h=>zo J (ap S4 (I1 q_r1) trivial)<|am au J ai J (ht J) (ht J)<|zo J (bW)<|aq<|aj<|ae<|aF 6 J ?_;cases so h;exact be J J ⟨aN au J J J,aK J,aL⟩
  ·refine df<|av<|aE J<|zo J (bX eE bY J J)<|zo J (bh uq J J)<|zo J (bX eE bY J J)<|zo J (bh uq J J)<|bo h fun r2 q_r2 h=>zo J (io (args:=(fun(x:Int×Int)=>[tD cj x.1,tD cj x.2])) (res:=(fun(x:Int×Bool)=>tT [tD cj x.1,tD rB x.2])) (f:=(fun(x:Int×Int)=>to1 x.1 x.2)) (x:=((a1.N,b.N):Int×Int)) (ht J) q_r2 ⟨(ht J),(ht J),aL⟩)<|aE J<|zo J (dX J J)<|zo J (dX J J)<|bg J<|bg J<|aq<|ah<|av<|aE J<|zo J (cx (ht J))<|aQ ?_;refine ax<|ce h rfl (fun h=>?_) (fun h=>?_)
   ·refine av<|zo J (bB (y:=d3) au gW aJ (J))<|am au J ai J (ht J) (ht J)<|zo J (bW)<|aq<|aj<|ae<|aF 6 J ?_;cases so h;exact be J J ⟨aN au J J J,aK J,aL⟩
   ·refine df<|av<|aE J<|bo h fun r3 q_r3 h=>zo J (ap Lv (Bt _ q_r3) ⟨(ht J),aL⟩)<|am au J ai J (ht J) (ht J)<|zo J (bW)<|aq<|aj<|aF 6 J ?_;cases so h;exact be J J ⟨aN au J J J,aK J,aL⟩

end Go.Proofs.YtfhhakidodmdfaaGreatDoor

