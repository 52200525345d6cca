/- di of this claim: P9. -/
import Derived.Test.YtfhhakidodmdfaaGreatDoorJcT
import Derived.Test.YtfhhakidodmdfaaGreatDoorJcP8
set_option linter.all false
namespace Go.Proofs.YtfhhakidodmdfaaGreatDoor
open Go
set_option maxRecDepth 100000

theorem VO(s1:(List ac))(s2:(List ac))(cmp:(ac→ac→Option Int)){R:Int}(h:cI s1 s2 cmp=some R):aR aU 160 [cq (af) s1,cq (af) s2,(ei aU qH ze (fun(x:ac×ac)=>cmp x.1 x.2))] (bM R):=by
 refine aR.of Tryz.func160 J J J fun w0 S0=>av<|zo J (bW)<|aq<|ah<|av<|aE J<|zo J (jw iw J)<|zo J (bJ hI)<|aq<|aC<|bp (k:=11) J fun hN=>bQ ?_;refine ba (fK (Z:=fun ls i=>(s1.drop i=ls)∧bR s1 s2 cmp ls i=some R) (Of:=fun _ i=>[]) (Gf:=fun _ i=>[(0,cq (af) s1),(1,cq (af) s2),(2,(ei aU qH ze (fun(x:ac×ac)=>cmp x.1 x.2))),(11,cq (af) s1),(12,ky s1),(13,bM (i:Int))]) (fun i h=>?_) (fun e tl ih i h=>?_) s1 0 ⟨J,h⟩) (bD J)
 ·obtain⟨hx,h⟩:=h
  refine aG<|av<|zo J (fY J J)<|aq<|ah<|bL (ht J) (dO hx)<|bG ?_;refine ak (ak (aV ?_));refine ax<|ah<|av<|aE rfl<|zo rfl (jw iw rfl)<|aE rfl<|zo rfl (jw iw rfl)<|zo rfl (fY rfl rfl)<|aq<|ce h rfl (fun h=>?_) (fun h=>?_)
  ·refine av<|zo J (bW)<|aq<|aj<|ae ?_;cases so h;exact aH J J
  ·refine df<|av<|zo J (bW)<|aq<|aj ?_;cases so h;exact aH J J
 ·obtain⟨hx,h⟩:=h
  refine aG<|av<|zo J (fY J J)<|aq<|ah<|bK (ht J) (dL hx)<|df<|ah<|aC<|av<|aE J<|zo J (ne iw au J J J (dA hx))<|zo J (bh au J J)<|aP (r:=af) (x:=d3) au (fun _=>aJ _) J fun b=>bg J<|am au J ai J (ht J) (ht J)<|aY 8 J<|aq<|ah ?_;refine av<|aE J<|aE J<|zo J (jw iw J)<|zo J (gh (ht J) (ht J))<|aq<|ce h J (fun h=>?_) (fun h=>?_)
  ·refine av<|zo J (bW)<|aq<|aj ?_;refine ae (aB (ae (ae (aB (ae ?_)))));cases so h;exact aH J J
  ·refine df<|av<|aE J<|aE J<|bo h fun e1 q_e1 h=>zo J (ne iw au J J J q_e1)<|zo J (bh au J J)<|aP (r:=af) (x:=d3) au (fun _=>aJ _) J fun b1=>am au J ai J (ht J) (ht J)<|aY 9 J<|aq<|av<|aE J<|zo J (bh au J J)<|zo J (bh au J J)<|bo h fun r q_r h=>zo J (io (args:=qH) (res:=TK) (f:=(fun(x:ac×ac)=>cmp x.1 x.2)) (x:=((e,e1):ac×ac)) (ht J) q_r ⟨(ht J),(ht J),aL⟩)<|bg J<|aq ?_;refine av<|aE J<|zo J (sx J)<|aq<|ce h J (fun h=>?_) (fun h=>?_)
   ·refine av<|aE J<|bg J<|aq<|aj ?_;refine aB (ae (ae (aB (ae ?_))));cases so h;exact aH J J
   ·refine bA<|aw<|ax<|aA<|zo rfl (nf (dd hx hN) rfl)<|aE rfl<|aQ ?_;exact bn (ba (ih (i+1) ⟨dc hx,h⟩) (bD J))

theorem OO(p:Int){R:Bool}(h:oJ p=some R):aR aU 311 [tD ni p] (hJ R):=by
 refine aR.of Tryz.func311 J J J fun w0 S0=>av<|zo J (jU)<|aq<|av<|aE J<|aE J<|zo J (c9 (ht J) (ht J))<|bg J<|aq<|aj ?_;cases so h;exact aH J J

theorem Vp(p:Int)(y:Int){R:Int}(h:m7 p y=some R):aR aU 244 [tD ni p,tD ni y] (bM R):=by
 refine aR.of Tryz.func244 J J J fun w0 S0=>av<|zo J (bW)<|aq<|av<|aE J<|bo h fun r q_r h=>zo J (ap Xm (OO _ q_r) ⟨(ht J),aL⟩)<|bg J<|aq<|av<|aE J<|bo h fun r1 q_r1 h=>zo J (ap Xm (OO _ q_r1) ⟨(ht J),aL⟩)<|bg J<|aq<|ah<|ah ?_;refine aA<|aE J<|aq<|ce h J (fun h=>?_) (fun h=>?_)
 ·refine ah<|av<|aE J<|aq<|ce h J (fun h=>?_) (fun h=>?_)
  ·refine av<|zo J (bW)<|aq<|aj ?_;refine ae (ae ?_);cases so h;exact aH J J
  ·refine df<|av<|zo J (bW)<|aq<|aj<|ae ?_;cases so h;exact aH J J
 ·refine df<|ah<|av<|aE J<|aq<|ce h J (fun h=>?_) (fun h=>?_)
  ·refine av<|zo J (bW)<|aq<|aj<|ae ?_;cases so h;exact aH J J
  ·refine df<|ah<|av<|aE J<|aE J<|zo J (fY J J)<|aq<|ce h J (fun h=>?_) (fun h=>?_)
   ·refine av<|zo J (bW)<|aq<|aj<|ae ?_;cases so h;exact aH J J
   ·refine df<|ah<|av<|aE J<|aE J<|zo J (iz (ht J) (ht J))<|aq<|ce h J (fun h=>?_) (fun h=>?_)
    ·refine av<|zo J (bW)<|aq<|aj<|ae ?_;cases so h;exact aH J J
    ·refine df<|av<|zo J (bW)<|aq<|aj ?_;cases so h;exact aH J J

theorem ON(p:xc){R:Bool}(h:oK p=some R):aR aU 312 [tD rS p] (hJ R):=by
 refine aR.of Tryz.func312 J J J fun w0 S0=>av<|zo J (jU)<|aq<|av<|aE J<|aE J<|zo J (Od (ht J) (ht J))<|bg J<|aq<|aj ?_;cases so h;exact aH J J

theorem Vo(p:xc)(y:xc){R:Int}(h:m8 p y=some R):aR aU 245 [tD rS p,tD rS y] (bM R):=by
 refine aR.of Tryz.func245 J J J fun w0 S0=>av<|zo J (bW)<|aq<|av<|aE J<|bo h fun r q_r h=>zo J (ap Xl (ON _ q_r) ⟨(ht J),aL⟩)<|bg J<|aq<|av<|aE J<|bo h fun r1 q_r1 h=>zo J (ap Xl (ON _ q_r1) ⟨(ht J),aL⟩)<|bg J<|aq<|ah<|ah ?_;refine aA<|aE J<|aq<|ce h J (fun h=>?_) (fun h=>?_)
 ·refine ah<|av<|aE J<|aq<|ce h J (fun h=>?_) (fun h=>?_)
  ·refine av<|zo J (bW)<|aq<|aj ?_;refine ae (ae ?_);cases so h;exact aH J J
  ·refine df<|av<|zo J (bW)<|aq<|aj<|ae ?_;cases so h;exact aH J J
 ·refine df<|ah<|av<|aE J<|aq<|ce h J (fun h=>?_) (fun h=>?_)
  ·refine av<|zo J (bW)<|aq<|aj<|ae ?_;cases so h;exact aH J J
  ·refine df<|ah<|av<|aE J<|aE J<|zo J (Oh (ht J) (ht J))<|aq<|ce h J (fun h=>?_) (fun h=>?_)
   ·refine av<|zo J (bW)<|aq<|aj<|ae ?_;cases so h;exact aH J J
   ·refine df<|ah<|av<|aE J<|aE J<|zo J (Ug (ht J) (ht J))<|aq<|ce h J (fun h=>?_) (fun h=>?_)
    ·refine av<|zo J (bW)<|aq<|aj<|ae ?_;cases so h;exact aH J J
    ·refine df<|av<|zo J (bW)<|aq<|aj ?_;cases so h;exact aH J J

theorem VN(a1:ac)(b:ac){R:Int}(h:pq a1 b=some R):aR aU 161 [tD af a1,tD af b] (bM R):=by
 refine aR.of Tryz.func161 J J J fun w0 S0=>av<|zo J (gi J)<|zo J (gi J)<|zo J (bW)<|aq<|ah<|bo h fun r q_r h=>bo h fun r1 q_r1 h=>bo h fun r2 q_r2 h=>bo h fun r3 q_r3 h=>bo h fun r4 q_r4 h=>?_
 refine cD (ts:=[_,_,_,_,_,_,_,_,_,_,_,_,_,_,_,_,_,_,_,_,_,_,_]) mixed J J
  ⟨dB 2 J J J (bX cz br J J),
  ⟨bT 5 0 J J J (bh cg J J),
  ⟨dB 3 J J J (bX cz br J J),
  ⟨bT 7 2 J J J (bh cg J J),
  ⟨cK 6 1 8 3 J J J J (ap aaD (Sj _ _ q_r) ⟨(ht J),(ht J),aL⟩),
  ⟨dB 2 J J J (bX eE bY J J),
  ⟨bT 10 5 J J J (bh uq J J),
  ⟨dB 3 J J J (bX eE bY J J),
  ⟨bT 12 7 J J J (bh uq J J),
  ⟨cK 11 6 13 8 J J J J (ap Xw (OX _ _ q_r1) ⟨(ht J),(ht J),aL⟩),
  ⟨dB 2 J J J (bX pD hY J J),
  ⟨bT 15 10 J J J (bh fU J J),
  ⟨dB 3 J J J (bX pD hY J J),
  ⟨bT 17 12 J J J (bh fU J J),
  ⟨cK 16 11 18 13 J J J J (ap abv (Vp _ _ q_r2) ⟨(ht J),(ht J),aL⟩),
  ⟨dB 2 J J J (bX jG dy J J),
  ⟨bT 20 15 J J J (bh B6 J J),
  ⟨dB 3 J J J (bX jG dy J J),
  ⟨bT 22 17 J J J (bh B6 J J),
  ⟨cK 21 16 23 18 J J J J (ap abu (Vo _ _ q_r3) ⟨(ht J),(ht J),aL⟩),
  ⟨⟨[⟨9,_,some 4⟩,⟨14,_,some 9⟩,⟨19,_,some 14⟩,⟨24,_,some 19⟩],_,J,⟨J,J,J,J,aL⟩,J,J,aD J (bf (r:=cj) (ys:=[r,r1,r2,r3]) (xs:=[.tmp 9,.tmp 14,.tmp 19,.tmp 24]) iv cg J J J J J ⟨(ht J),(ht J),(ht J),(ht J),aL⟩)⟩,
  ⟨bT 25 20 J J J (ap S6 (I2 _ q_r4) ⟨(ht J),aL⟩),
  ⟨bT 26 21 J J J (rN J),
  aL⟩⟩⟩⟩⟩⟩⟩⟩⟩⟩⟩⟩⟩⟩⟩⟩⟩⟩⟩⟩⟩⟩⟩ ?_
 refine ax<|aj ?_;cases so h;exact aH J J

theorem IP(a1:(List ac))(b:(List ac)){R:Int}(h:pL a1 b=some R):aR aU 95 [cq (af) a1,cq (af) b] (bM R):=by
 refine aR.of Tryz.func95 J J J fun w0 S0=>av<|zo J (bW)<|aq<|av<|aE J<|aE J<|bo h fun r q_r h=>zo J (ap aca (VO _ _ _ q_r) ⟨(ht J),(ht J),(zJ ab9 fun x y h=>VN _ _ h),aL⟩)<|bg J<|aq<|aj ?_;cases so h;exact aH J J

theorem So(a1:(List ac))(b:(List ac)){R:Int}(h:pN a1 b=some R):aR aU 38 [cq (af) a1,cq (af) b] (bM R):=by
 refine aR.of Tryz.func38 J J J fun w0 S0=>av<|zo J (bW)<|aq<|ah<|av<|aE J<|bo h fun r q_r h=>zo J (ap Wl (IQ _ q_r) ⟨(ht J),aL⟩)<|zo J (cx (ht J))<|aE J<|bo h fun t q_t h=>dD J J (fun hg=>cX J) ?_
 obtain⟨r1,h1t,h0t⟩:=og q_t
 have q_r1g:=fun hb=>(h1t hb).1
 refine dD J J (fun hg=>ap Wl (IQ _ (q_r1g hg)) ⟨(bm J hg),aL⟩)<|dD J J (fun hg=>cx (bm J hg))<|zo J (eO (ht J) (fun hb=>(bm J (qo hb))) (fun hb=>(h1t hb).2) h0t)<|aq<|ce h J (fun h=>?_) (fun h=>?_)
 ·refine av<|zo J (bW)<|aq<|aj<|ae ?_;cases so h;exact aH J J
 ·refine df<|av<|aE J<|aE J<|bo h fun r2 q_r2 h=>zo J (ap Wk (IP _ _ q_r2) ⟨(ht J),(ht J),aL⟩)<|bg J<|aq<|aj ?_;cases so h;exact aH J J

theorem I5(a1:ac)(b:ac){R:Int}(h:iC a1 b=some R):aR aU 136 [tD af a1,tD af b] (bM R):=by
 refine aR.of Tryz.func136 J J J fun w0 S0=>av<|zo J (gi J)<|zo J (gi J)<|zo J (bW)<|aq<|av<|zo J (bh au J J)<|zo J (bf (r:=af) (ys:=[a1]) (xs:=[.tmp 5]) iw au J J J J J ⟨(ht J),aL⟩)<|zo J (bh au J J)<|zo J (bf (r:=af) (ys:=[b]) (xs:=[.tmp 7]) iw au J J J J J ⟨(ht J),aL⟩)<|bo h fun r q_r h=>zo J (ap aaI (So _ _ q_r) ⟨(ht J),(ht J),aL⟩)<|bg J<|aq<|aj ?_;cases so h;exact aH J J

theorem VY(p:(List ac))(cmp:(ac→ac→Option Int)){R:ac}(h:fj p cmp=some R):aR aU 137 [cq (af) p,(ei aU qH ze (fun(x:ac×ac)=>cmp x.1 x.2))] (tD af R):=by
 refine aR.of Tryz.func137 J J J fun w0 S0=>av<|aP (r:=af) (x:=d3) au (fun _=>aJ _) J fun b=>aq ?_;refine vW (Z:=gC p cmp=some R) (Of:=[bx af 46 b d3]) (Gf:=[(0,cq (af) p),(1,(ei aU qH ze (fun(x:ac×ac)=>cmp x.1 x.2))),(4,tV (aS b 0))]) (fun h=>?_) (fun K=>?_)
 ·skip
  refine av<|aE J<|bo h fun e q_e h=>zo J (bF i7 au J (ht J) hI q_e)<|zo J (bh au J J)<|aP (r:=af) (x:=d3) au (fun _=>aJ _) J fun b1=>am au J ai J (ht J) (ht J)<|aq<|ah<|av<|zo J (bW)<|aq<|aC<|bp (k:=0) J fun hN=>bQ<|iq ?_;refine ba (ox (Z:=fun ls i m=>(p.drop i=ls)∧cR cmp ls m=some R) (Of:=fun _ i m=>[bx af 46 b d3,bx af 46 b1 m]) (Gf:=fun _ i m=>[(0,cq (af) p),(1,(ei aU qH ze (fun(x:ac×ac)=>cmp x.1 x.2))),(4,tV (aS b 0)),(5,tV (aS b1 0)),(6,bM (i:Int))]) (fun i m h=>?_) (fun e1 tl ih i m h=>?_) (p.drop (1)) 1 e ⟨J,h⟩) (bD J)
  ·obtain⟨hx,h⟩:=h
   refine aG<|ah<|av<|aE J<|aE J<|zo J (jw i7 J)<|zo J (fY J J)<|aq<|bL (ht J) (dO hx)<|bG ?_;refine ak (ak (aV ?_));refine ax<|av<|zo rfl (bE au rfl rfl bw (.tail _ (.head _)) (ht rfl))<|am au rfl ai rfl (ht rfl) (ht rfl)<|aY 4 rfl<|aq<|aj<|aZ ?_;cases so h;exact eP J au J J J
  ·obtain⟨hx,h⟩:=h
   refine aG<|ah<|av<|aE J<|aE J<|zo J (jw i7 J)<|zo J (fY J J)<|aq<|bK (ht J) (dL hx)<|df<|ah<|aC<|ah<|bo h fun r q_r h=>?_
   refine cD (ts:=[_,_,_,_,_,_,_,_]) mixed J J
    ⟨dB 1 J J J (cX J),
    ⟨dB 0 J J J (cX J),
    ⟨dB 6 J J J (cX J),
    ⟨cK 21 1 22 2 J J J J (ne i7 au J J J (dA hx)),
    ⟨bT 23 3 J J J (bh au J J),
    ⟨dB 5 J J J (bE au J J bw (.tail _ (.head _)) (ht J)),
    ⟨GI 20 0 24 4 25 5 J J J J J (io (args:=qH) (res:=TK) (f:=(fun(x:ac×ac)=>cmp x.1 x.2)) (x:=((e1,m):ac×ac)) (ht J) q_r ⟨(ht J),(ht J),aL⟩),
    ⟨bT 26 6 J J J (iz (ht J) hI),
    aL⟩⟩⟩⟩⟩⟩⟩⟩ ?_
   refine ax<|ce h rfl (fun h=>?_) (fun h=>?_)
   ·refine aA<|aE J<|aE J<|zo J (ne i7 au J J J (dA hx))<|zo J (bh au J J)<|bq<|am au J ai J (ht J) (ht J)<|aQ<|aw<|ax<|aA<|aE rfl<|zo rfl (nf (dd hx hN) rfl)<|bg rfl<|aQ<|bI ?_;exact bn (ba (ih (i+1) e1 ⟨dc hx,h⟩) (bD J))
   ·refine bA<|aw<|ax<|aA<|aE rfl<|zo rfl (nf (dd hx hN) rfl)<|bg rfl<|aQ ?_;exact bn (ba (ih (i+1) m ⟨dc hx,h⟩) (bD J))
 ·skip
  refine av<|aE J<|zo J (jw i7 J)<|zo J (dJ (ht J) hI)<|aq<|ce h J (fun h=>?_) (fun h=>?_)
  ·refine aA ?_;exact(nn h).elim
  ·refine bA ?_;exact ci (K h) (bD J)

theorem Sl(a1:gv)(rows:(List (List ac))){R:ac×Int}(h:kN a1 rows=some R):aR aU 76 [tD eH a1,cq (dg) rows] (tT [tD af R.1,bM R.2]):=by
 refine aR.of Tryz.func76 J J J fun w0 S0=>av<|zo J (gi J)<|aP (r:=af) (x:=d3) au (fun _=>aJ _) J fun b=>zo J (bW)<|aq<|ah<|av<|zo J (bX mT iP J J)<|zo J (bh cg J J)<|zo J (hM J)<|aq<|ce h J (fun h=>?_) (fun h=>?_)
 ·refine av<|aE J<|zo J (jw jN J)<|bo h fun r q_r h=>zo J (ap Lv (Bt _ q_r) ⟨(ht J),aL⟩)<|am au J ai J (ht J) (ht J)<|zo J (bW)<|aq<|aj<|ae<|aF 4 J ?_;cases so h;exact be J J ⟨aN au J J J,aK J,aL⟩
 ·refine df<|av<|zo J (bh uZ J J)<|aE J<|bo h fun r1 q_r1 h=>zo J (ap acp (V3 _ _ q_r1) ⟨(ht J),(ht J),aL⟩)<|aE J<|zo J (dX J J)<|zo J (dX J J)<|bg J<|bg J<|aq<|ah<|av<|aE J<|zo J (hM J)<|aq<|ce h J (fun h=>?_) (fun h=>?_)
  ·refine av<|zo J (bB (y:=d3) au gW aJ (J))<|aE J<|am au J ai J (ht J) (ht J)<|bg J<|aq<|aj<|ae<|aF 4 J ?_;cases so h;exact be J J ⟨aN au J J J,aK J,aL⟩
  ·refine df<|av<|zo J (aT (show aO _ _ _ ((ei aU AR mI (fun(x:ac)=>m4 x)))from(zJ aco fun x y h=>V2 _ h)))<|aq<|ah<|aC<|av<|zo J (bX mT iP J J)<|zo J (bh cg J J)<|zo J (hM J)<|aE J<|bo h fun t q_t h=>co J J (fun hg=>cX J)<|co J J (fun hg=>cX J) ?_
   obtain⟨r2,h1t,h0t⟩:=og q_t
   have q_r2g:=fun hb=>(h1t hb).1
   refine co J J (fun hg=>ap acn (V1 _ _ (q_r2g hg)) ⟨(bm J hg),(bm J hg),aL⟩)<|zo J (cH (ht J) (fun hb=>(bm J hb)) (fun hb=>(h1t hb).2) h0t)<|bg J<|aq<|ce h J (fun h=>?_) (fun h=>?_)
   ·refine av<|zo J (bB (y:=d3) au gW aJ (J))<|am au J ai J (ht J) (ht J)<|zo J (bW)<|aq<|aj ?_;refine aB (ae ?_);refine aF 4 J ?_;cases so h;exact be J J ⟨aN au J J J,aK J,aL⟩
   ·refine av<|aE J<|zo J (sx J)<|bg J<|aq<|ce h J (fun h=>?_) (fun h=>?_)
    ·refine av<|zo J (bB (y:=d3) au gW aJ (J))<|aE J<|am au J ai J (ht J) (ht J)<|bg J<|aq<|aj ?_;refine aB (ae ?_);refine aF 4 J ?_;cases so h;exact be J J ⟨aN au J J J,aK J,aL⟩
    ·refine av<|zo J (bX mT iP J J)<|zo J (bh cg J J)<|zo J (hM J)<|bg J<|aq<|ce h J (fun h=>?_) (fun h=>?_)
     ·refine av<|aE J<|zo J (jw i7 J)<|bo h fun r3 q_r3 h=>zo J (ap Lv (Bt _ q_r3) ⟨(ht J),aL⟩)<|am au J ai J (ht J) (ht J)<|zo J (bW)<|aq<|aj ?_;refine aB (ae ?_);refine aF 4 J ?_;cases so h;exact be J J ⟨aN au J J J,aK J,aL⟩
     ·refine av<|zo J (bX mT iP J J)<|zo J (bh cg J J)<|zo J (hM J)<|bg J<|aq<|ce h J (fun h=>?_) (fun h=>?_)
      ·refine av<|aE J<|bo h fun r4 q_r4 h=>zo J (ap acm (V0 _ q_r4) ⟨(ht J),aL⟩)<|zo J (dX J J)<|zo J (dX J J)<|am au J ai J (ht J) (ht J)<|bg J<|aq<|aj ?_;refine aB (ae ?_);refine aF 4 J ?_;cases so h;exact be J J ⟨aN au J J J,aK J,aL⟩
      ·refine av<|aE J<|zo J (jw i7 J)<|zo J (hM J)<|bg J<|aq<|ce h J (fun h=>?_) (fun h=>?_)
       ·refine av<|zo J (bB (y:=d3) au gW aJ (J))<|am au J ai J (ht J) (ht J)<|zo J (bW)<|aq<|aj ?_;refine aB (ae ?_);refine aF 4 J ?_;cases so h;exact be J J ⟨aN au J J J,aK J,aL⟩
       ·refine av<|zo J (bX mT iP J J)<|zo J (bh cg J J)<|zo J (hM J)<|bg J<|aq<|ce h J (fun h=>?_) (fun h=>?_)
        ·refine av<|aE J<|bo h fun r5 q_r5 h=>zo J (ap acl (VZ _ _ q_r5) ⟨(ht J),(zJ Ta fun x y h=>I5 _ _ h),aL⟩)<|am au J ai J (ht J) (ht J)<|zo J (bW)<|aq<|aj ?_;refine aB (ae ?_);refine aF 4 J ?_;cases so h;exact be J J ⟨aN au J J J,aK J,aL⟩
        ·refine bA<|aw<|ax<|av<|aE rfl<|bo h fun r6 q_r6 h=>zo J (ap ack (VY _ _ q_r6) ⟨(ht J),(zJ Ta fun x y h=>I5 _ _ h),aL⟩)<|am au J ai J (ht J) (ht J)<|zo J (bW)<|aq<|aj<|aF 4 J ?_;cases so h;exact be J J ⟨aN au J J J,aK J,aL⟩

theorem Nl(l:(List (List (List ac)))){R:Int}(h:vw l=some R):aR aU 97 [cq (ee) l] (bM R):=by
 refine aR.of Tryz.func97 J J J fun w0 S0=>av<|zo J (bW)<|aq<|av<|zo J (bW)<|aq<|ah<|av<|aE J<|zo J (jw qP J)<|zo J (bJ hI)<|aq<|aC<|bp (k:=8) J fun hN=>bQ ?_;refine ba (ox (Z:=fun ls i n=>(l.drop i=ls)∧lu ls n=some R) (Of:=fun _ i n=>[]) (Gf:=fun _ i n=>[(3,bM n),(8,cq (ee) l),(9,ky l),(10,bM (i:Int))]) (fun i n h=>?_) (fun e tl ih i n h=>?_) l 0 (0:Int) ⟨J,h⟩) (bD J)
 ·obtain⟨hx,h⟩:=h
  refine aG<|av<|zo J (fY J J)<|aq<|ah<|bL (ht J) (dO hx)<|bG ?_;refine ak (ak (aV ?_));refine ax<|ah<|av<|aE rfl<|zo rfl (iz (ht rfl) hI)<|aq<|ce h rfl (fun h=>?_) (fun h=>?_)
  ·refine av<|zo J (bW)<|aq<|aj<|ae ?_;cases so h;exact aH J J
  ·refine df<|av<|zo J (bW)<|aq<|aj ?_;cases so h;exact aH J J
 ·obtain⟨hx,h⟩:=h
  refine aG<|av<|zo J (fY J J)<|aq<|ah<|bK (ht J) (dL hx)<|df<|ah<|aC<|av<|zo J (ne qP iy J J J (dA hx))<|zo J (bh iy J J)<|bg J<|aq<|ah<|av<|aE J<|zo J (jw jN J) ?_;refine zo J (bJ hI)<|aq<|aC<|bp (k:=14) J fun hN1=>bQ ?_;refine ba (fK (Z:=fun ls1 i1=>(e.drop i1=ls1)∧qi (lu tl) e n ls1=some R) (Of:=fun _ i1=>[]) (Gf:=fun _ i1=>[(3,bM n),(5,cq (dg) e),(8,cq (ee) l),(9,ky l),(10,bM (i:Int)),(14,cq (dg) e),(15,ky e),(16,bM (i1:Int))]) (fun i1 h=>?_) (fun e1 tl1 ih1 i1 h=>?_) e 0 ⟨J,h⟩) (bD J)
  ·obtain⟨hx1,h⟩:=h
   refine aG<|av<|zo J (fY J J)<|aq<|ah<|bL (ht J) (dO hx1)<|bG ?_;refine ak (ak (aV ?_));refine ax<|aA<|aE rfl<|aE rfl<|zo rfl (jw jN rfl)<|zo rfl (Og (ht rfl) (ht rfl))<|bg rfl<|aQ<|aw<|ax<|aA<|zo rfl (nf (dd hx hN) rfl)<|aE rfl<|aQ ?_;exact bn (ba (ih (i+1) (max n (e.length:Int)) ⟨dc hx,h⟩) (bD J))
  ·obtain⟨hx1,h⟩:=h
   refine aG<|av<|zo J (fY J J)<|aq<|ah<|bK (ht J) (dL hx1)<|df<|ah<|aC<|av<|zo J (ne jN eg J J J (dA hx1))<|zo J (bh eg J J)<|bg J<|aq<|av<|aE J<|bo h fun r q_r h=>zo J (ap Wl (IQ _ q_r) ⟨(ht J),aL⟩) ?_;refine zo J (cx (ht J))<|aq<|ce h J (fun h=>?_) (fun h=>?_)
   ·refine av<|zo J (bW)<|aq<|aj ?_;refine aB (ae (ae (aB (ae (aB (ae (ae (aB (ae ?_)))))))));cases so h;exact aH J J
   ·refine bA<|aw<|ax<|aA<|zo rfl (nf (dd hx1 hN1) rfl)<|aE rfl<|aQ ?_;exact bn (ba (ih1 (i1+1) ⟨dc hx1,h⟩) (bD J))

theorem Vn(c:Int){R:Bool}(h:uA c=some R):aR aU 257 [bM c] (hJ R):=by
 refine aR.of Tryz.func257 J J J fun w0 S0=>av<|zo J (jU)<|aq<|av<|aE J<|zo J (dJ (ht J) hI)<|bg J<|aq<|aj ?_;cases so h;exact aH J J

theorem U1(r:(List ac))(c:Int){R:Bool}(h:yE r c=some R):aR aU 322 [bM c,bN dg r] (hJ R):=by
 refine aR.of Tryz.func322 J J J fun w0 S0=>av<|zo J (jU)<|aq<|av<|aE J<|zo J (dJ (ht J) hI)<|aE J<|dD J J (fun hg=>cX J)<|dD J J (fun hg=>bh eg J J)<|dD J J (fun hg=>dK iw (bm J hg))<|dD J J (fun hg=>gh (bm J hg) (bm J hg))<|zo J (uo J J)<|bg J<|aq<|aj ?_;cases so h;exact aH J J

theorem Vm(r:(List ac))(columns:(List Int)){R:Bool}(h:DF r columns=some R):aR aU 259 [cq (af) r,mH columns] (hJ R):=by
 refine aR.of Tryz.func259 J J J fun w0 S0=>av<|zo J (gi J)<|zo J (jU)<|aq<|av<|zo J ((show bZ _ _ _ _ ((ei aU JB mI (fun(x:Int)=>(yE r) x)))from i8 (cts:=[bN dg r]) (caps:=[.tmp 2]) aa5 ⟨(ht J),aL⟩ (fun x y h=>U1 _ _ h)))<|bg J<|aq<|av<|aE J<|zo J (jw iv J)<|zo J (jZ (ht J) hI)<|aE J<|bo h fun t q_t h=>co J J (fun hg=>cX J)<|co J J (fun hg=>cX J) ?_
 obtain⟨r1,h1t,h0t⟩:=og q_t
 have q_r1g:=fun hb=>(h1t hb).1
 refine co J J (fun hg=>ap Pm (DW _ _ (q_r1g hg)) ⟨(bm J hg),(bm J hg),aL⟩)<|co J J (fun hg=>cx (bm J hg))<|zo J (cH (ht J) (fun hb=>(bm J hb)) (fun hb=>(h1t hb).2) h0t)<|bg J<|aq<|aj ?_;cases so h;exact aH J J

theorem VK(l:(List (List ac)))(columns:(List Int)){R:Int}(h:yF l columns=some R):aR aU 173 [cq (dg) l,mH columns] (bM R):=by
 refine aR.of Tryz.func173 J J J fun w0 S0=>av<|zo J (bW)<|aq<|ah<|av<|aE J<|zo J (bf (r:=ee) (ys:=[l]) (xs:=[.tmp 9]) qP iy J J J J J ⟨(ht J),aL⟩)<|bo h fun r q_r h=>zo J (ap Zp (Nl _ q_r) ⟨(ht J),aL⟩)<|bg J<|aq<|av<|aE J<|zo J (sx J)<|aq<|ce h J (fun h=>?_) (fun h=>?_)
 ·refine av<|aE J<|bg J<|aq<|aj<|ae ?_;cases so h;exact aH J J
 ·refine df<|av<|zo J (aT (show aO _ _ _ ((ei aU JB mI (fun(x:Int)=>uA x)))from(zJ abt fun x y h=>Vn _ h)))<|aq<|ah<|av<|aE J<|zo J (jw iv J)<|zo J (iz (ht J) hI)<|aE J<|bo h fun t q_t h=>dD J J (fun hg=>cX J)<|dD J J (fun hg=>cX J) ?_
  obtain⟨r1,h1t,h0t⟩:=og q_t
  have q_r1g:=fun hb=>(h1t hb).1
  refine dD J J (fun hg=>ap Pm (DW _ _ (q_r1g hg)) ⟨(bm J hg),(bm J hg),aL⟩)<|zo J (eO (ht J) (fun hb=>(bm J (qo hb))) (fun hb=>(h1t hb).2) h0t)<|aq<|ce h J (fun h=>?_) (fun h=>?_)
  ·refine av<|zo J (bW)<|aq<|aj<|ae ?_;cases so h;exact aH J J
  ·refine df<|ah<|av<|aE J<|zo J (jw jN J)<|zo J (bJ hI)<|aq<|aC<|bp (k:=23) J fun hN=>bQ ?_;refine ba (fK (Z:=fun ls i=>(l.drop i=ls)∧qj columns ls=some R) (Of:=fun _ i=>[]) (Gf:=fun _ i=>[(1,mH columns),(23,cq (dg) l),(24,ky l),(25,bM (i:Int))]) (fun i h=>?_) (fun e tl ih i h=>?_) l 0 ⟨J,h⟩) (bD J)
   ·obtain⟨hx,h⟩:=h
    refine aG<|av<|zo J (fY J J)<|aq<|ah<|bL (ht J) (dO hx)<|bG ?_;refine ak (ak (aV ?_));refine ax<|av<|zo rfl (bW)<|aq<|aj ?_;cases so h;exact aH J J
   ·obtain⟨hx,h⟩:=h
    refine aG<|av<|zo J (fY J J)<|aq<|ah<|bK (ht J) (dL hx)<|df<|ah<|aC<|av<|zo J (ne jN eg J J J (dA hx))<|zo J (bh eg J J)<|bg J<|aq<|av<|aE J<|aE J<|bo h fun r2 q_r2 h=>?_;refine zo J (ap abs (Vm _ _ q_r2) ⟨(ht J),(ht J),aL⟩)<|zo J (cx (ht J))<|aq<|ce h J (fun h=>?_) (fun h=>?_)
    ·refine av<|zo J (bW)<|aq<|aj ?_;refine aB (ae (ae (aB (ae ?_))));cases so h;exact aH J J
    ·refine bA<|aw<|ax<|aA<|zo rfl (nf (dd hx hN) rfl)<|aE rfl<|aQ ?_;exact bn (ba (ih (i+1) ⟨dc hx,h⟩) (bD J))

theorem Fk(s:(List ac)){R:(List ac)}(h:cN s=some R):gA aU 106 [cq (af) s] false af 46 R:=by
 refine gA.of Tryz.func106 J J J fun w0 S0=>av<|ca false af 46<|zo J (aT tg)<|aq<|ah<|av<|aE J<|uf iw (ht J) J fun isnil hisnil=>aq<|pg (ht J) (fun hc=>?_) (fun hc=>?_)
 ·have hx:=hisnil hc
  have h:some F2=some R:=by simpa [cN,app,hx] using h
  refine av<|ca false af 46<|zo J (aT tg)<|aq<|aj<|ae ?_;cases so h;exact gK J J
 ·refine df<|av<|kG (r:=af) (ys:=F2) (xs:=[]) iw au J J J J J trivial J fun l c=>aE J<|bo h fun x q_x h=>cV au J J J J iw J J (ht J) (ht J) q_x fun l1 c1=>bg J<|aq<|aj ?_;cases so h;exact gK J J
end Go.Proofs.YtfhhakidodmdfaaGreatDoor

