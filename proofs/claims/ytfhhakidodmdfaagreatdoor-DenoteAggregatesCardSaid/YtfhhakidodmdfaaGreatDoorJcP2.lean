/- di of this claim: P2. -/
import Derived.Test.YtfhhakidodmdfaaGreatDoorJcT
import Derived.Test.YtfhhakidodmdfaaGreatDoorJcP1
set_option linter.all false
namespace Go.Proofs.YtfhhakidodmdfaaGreatDoor
open Go
set_option maxRecDepth 100000

theorem OR(e:bS)(kinds:(List Int)){R:Bool}(h:sd e kinds=some R):aR aU 282 [tD ck e,mH kinds] (hJ R):=by
 refine aR.of Tryz.func282 J J J fun w0 S0=>av<|zo J (gi J)<|zo J (jU)<|aq<|av<|zo J (bh k5 J J)<|aE J<|bo h fun r q_r h=>zo J (ap SW (IW _ _ q_r) ⟨(ht J),(ht J),aL⟩)<|aE J<|zo J (dX J J)<|zo J (dX J J)<|bg J<|bg J<|aq<|av<|aE J<|zo J (hM J) ?_;refine aE J<|co J J (fun hg=>cX J)<|co J J (fun hg=>cd (bm J hg) hI)<|co J J (fun hg=>bJ (bm J hg))<|fg J J J J (fun hg=>cX J)<|fg J J J J (fun hg=>cd (bm J hg) hI)<|co J J (fun hg=>pT (bm J hg) (fun hb=>(bm J (qD hg (qo hb)))))<|zo J (pH J J)<|bg J<|aq<|aj ?_;cases so h;exact aH J J

theorem Y9(b:Nat)(ix:OI)(c:aI)(n:ay){R:(List Int)×Bool}(h:hX c n=some R):dl aU 203 [tV (aS b 0),tD aW n] (dN b c ix) (fun _:OI=>tT [mH R.1,hJ R.2]) (fun _=>(dN b c ix)):=by
 refine dl.of Tryz.func203 J J J fun w0 S0=>?_;refine(show CG _ _ _ [bx (rH bz [(1,bc (ix.h 0).1 (ix.h 0).2 c.kinds.length),(2,bc (ix.h 1).1 (ix.h 1).2 c.first.length)]) 115 b c,ez nQ 39 (ix.h 0).1 (ix.h 0).2 c.kinds,ez cj 3 (ix.h 1).1 (ix.h 1).2 c.first] _ from ?_);refine av<|zo J (gi J)<|zo J (aT (show aO _ _ _ xB from kJ))<|zo J (jU)<|aq<|ah<|bo h fun e q_e h=>bo h fun e1 q_e1 h=>bo h fun r q_r h=>?_
 refine cD (ts:=[_,_,_,_,_,_,_,_,_,_,_,_,_,_,_,_,_,_,_]) mixed J J
  ⟨dB 0 J J J (cX J),
  ⟨bT 7 0 J J J (dQ (ht J)),
  ⟨bT 8 1 J J J (je 1 nN J J J),
  ⟨bT 9 2 J J J (dx tF J (.head _) (.tail _ (.head _)) (ht J)),
  ⟨dB 3 J J J (bX kq d9 J J),
  ⟨bT 11 4 J J J (bh cg J J),
  ⟨cK 10 3 12 5 J J J J (bF wa eQ J (lJ (ht J)) (ht J) q_e),
  ⟨bT 13 6 J J J (bh eQ J J),
  ⟨dB 0 J J J (cX J),
  ⟨bT 15 8 J J J (dQ (ht J)),
  ⟨bT 16 9 J J J (je 1 nN J J J),
  ⟨bT 17 10 J J J (dx tF J (.head _) (.tail _ (.head _)) (ht J)),
  ⟨dB 3 J J J (bX sG kV J J),
  ⟨bT 19 12 J J J (bh cg J J),
  ⟨cK 18 11 20 13 J J J J (bF wa eQ J (lJ (ht J)) (ht J) q_e1),
  ⟨bT 21 14 J J J (bh eQ J J),
  ⟨cK 14 7 22 15 J J J J (bf (r:=xA) (ys:=[e,e1]) (xs:=[.tmp 14,.tmp 22]) wa eQ J J J J J ⟨(ht J),(ht J),aL⟩),
  ⟨bT 23 16 J J J (ap abf (Vb _ q_r) ⟨(ht J),aL⟩),
  ⟨bT 24 17 J J J (rN J),
  aL⟩⟩⟩⟩⟩⟩⟩⟩⟩⟩⟩⟩⟩⟩⟩⟩⟩⟩⟩ ?_
 refine ax<|av<|aE rfl<|zo rfl (bX wC pz rfl rfl)<|zo rfl (bh k5 rfl rfl)<|aE rfl<|bo h fun r1 q_r1 h=>zo J (ap Xp (OR _ _ q_r1) ⟨(ht J),(ht J),aL⟩)<|bg J<|bg J<|aq<|aj<|aM<|aM<|aM ?_;cases so h;exact eN (ts:=[mH r,hJ r1]) (rvs:=[.tmp 4,.tmp 5]) J J ⟨aK J,aK J,aL⟩ pj J J

theorem Y8(b:Nat)(ix:OI)(c:aI)(n:ay){R:(List Int)×Bool}(h:gq c n=some R):dl aU 204 [tV (aS b 0),tD aW n] (dN b c ix) (fun _:OI=>tT [mH R.1,hJ R.2]) (fun _=>(dN b c ix)):=by
 refine dl.of Tryz.func204 J J J fun w0 S0=>?_;refine(show CG _ _ _ [bx (rH bz [(1,bc (ix.h 0).1 (ix.h 0).2 c.kinds.length),(2,bc (ix.h 1).1 (ix.h 1).2 c.first.length)]) 115 b c,ez nQ 39 (ix.h 0).1 (ix.h 0).2 c.kinds,ez cj 3 (ix.h 1).1 (ix.h 1).2 c.first] _ from ?_);refine av<|zo J (gi J)<|zo J (aT (show aO _ _ _ xB from kJ))<|zo J (jU)<|aq<|ah<|bo h fun e q_e h=>bo h fun r q_r h=>?_
 refine cD (ts:=[_,_,_,_,_,_,_,_,_,_,_,_,_,_,_,_,_,_,_,_,_]) mixed J J
  ⟨dB 0 J J J (cX J),
  ⟨bT 6 0 J J J (dQ (ht J)),
  ⟨bT 7 1 J J J (je 1 nN J J J),
  ⟨bT 8 2 J J J (dx tF J (.head _) (.tail _ (.head _)) (ht J)),
  ⟨dB 3 J J J (bX kq d9 J J),
  ⟨bT 10 4 J J J (bh cg J J),
  ⟨cK 9 3 11 5 J J J J (bF wa eQ J (lJ (ht J)) (ht J) q_e),
  ⟨bT 12 6 J J J (bh eQ J J),
  ⟨dB 3 J J J (bX wC pz J J),
  ⟨bT 14 8 J J J (bh k5 J J),
  ⟨dB 0 J J J (cX J),
  ⟨bT 16 10 J J J (dQ (ht J)),
  ⟨bT 17 11 J J J (je 1 nN J J J),
  ⟨bT 18 12 J J J (dx tF J (.head _) (.tail _ (.head _)) (ht J)),
  ⟨dB 3 J J J (bX kq d9 J J),
  ⟨bT 20 14 J J J (bh cg J J),
  ⟨cK 19 13 21 15 J J J J (bF wa eQ J (lJ (ht J)) (ht J) q_e),
  ⟨bT 22 16 J J J (bh eQ J J),
  ⟨cK 15 9 23 17 J J J J (ap Xp (OR _ _ q_r) ⟨(ht J),(ht J),aL⟩),
  ⟨bT 13 7 J J J (rN J),
  ⟨bT 24 18 J J J (rN J),
  aL⟩⟩⟩⟩⟩⟩⟩⟩⟩⟩⟩⟩⟩⟩⟩⟩⟩⟩⟩⟩⟩ ?_
 refine ax<|aj<|aM<|aM<|aM ?_;cases so h;exact eN (ts:=[mH e,hJ r]) (rvs:=[.tmp 4,.tmp 5]) J J ⟨aK J,aK J,aL⟩ pj J J

theorem UM(kinds:(List Int))(c:Int){R:Bool}(h:qp kinds c=some R):aR aU 344 [bM c,bN nQ kinds] (hJ R):=by
 refine aR.of Tryz.func344 J J J fun w0 S0=>av<|zo J (jU)<|aq<|av<|aE J<|zo J (dJ (ht J) hI)<|aE J<|dD J J (fun hg=>cX J)<|dD J J (fun hg=>bh eQ J J)<|dD J J (fun hg=>dK iv (bm J hg))<|dD J J (fun hg=>gh (bm J hg) (bm J hg))<|zo J (uo J J)<|bg J<|aq<|aj ?_;cases so h;exact aH J J

theorem Va(l:(List Int))(kinds:(List Int)){R:Bool}(h:sY l kinds=some R):aR aU 283 [mH l,mH kinds] (hJ R):=by
 refine aR.of Tryz.func283 J J J fun w0 S0=>av<|zo J (gi J)<|zo J (jU)<|aq<|av<|aE J<|zo J ((show bZ _ _ _ _ ((ei aU JB mI (fun(x:Int)=>(qp kinds) x)))from i8 (cts:=[bN nQ kinds]) (caps:=[.tmp 3]) aaP ⟨(ht J),aL⟩ (fun x y h=>UM _ _ h)))<|bo h fun r q_r h=>zo J (ap Pm (DW _ _ q_r) ⟨(ht J),(ht J),aL⟩)<|zo J (cx (ht J))<|bg J<|aq<|aj ?_;cases so h;exact aH J J

theorem U9(a1:gv)(kinds:(List Int)){R:Int×Bool}(h:yO a1 kinds=some R):aR aU 284 [tD eH a1,mH kinds] (tT [bM R.1,hJ R.2]):=by
 refine aR.of Tryz.func284 J J J fun w0 S0=>av<|zo J (gi J)<|zo J (bW)<|zo J (jU)<|aq<|ah<|av<|zo J (bX mT iP J J)<|zo J (bh cg J J)<|zo J (hM J)<|aq<|ce h J (fun h=>?_) (fun h=>?_)
 ·refine ah ?_
  refine cD (ts:=[_,_,_,_,_,_,_]) mixed J J
   ⟨dB 2 J J J (bX ua oh J J),
   ⟨bT 11 0 J J J (bX ku fQ J J),
   ⟨bT 12 1 J J J (bh sQ J J),
   ⟨bT 13 2 J J J (jw p6 J),
   ⟨bT 14 3 J J J (hM J),
   ⟨NX J J (bW),
   ⟨bT 15 4 J J J (rN J),
   aL⟩⟩⟩⟩⟩⟩⟩ ?_
  refine ax<|aj<|ae ?_;cases so h;exact cW J J J
 ·refine df<|av<|zo J (bX ua oh J J)<|zo J (bh k5 J J)<|aE J<|bo h fun r q_r h=>zo J (ap SW (IW _ _ q_r) ⟨(ht J),(ht J),aL⟩)<|aE J<|zo J (dX J J)<|zo J (dX J J)<|bg J<|bg J<|aq<|ah<|av<|zo J (bX mT iP J J)<|zo J (bh cg J J)<|aq<|aC ?_;refine av<|zo J (hM J)<|bg J<|aq<|ce h J (fun h=>?_) (fun h=>?_)
  ·refine av<|aE J<|zo J (hM J)<|zo J (bW)<|bg J<|aq<|aj ?_;refine aB (ae ?_);cases so h;exact cW J J J
  ·refine av<|zo J (hM J)<|bg J<|aq<|ce h J (fun h=>?_) (fun h=>?_)
   ·refine av<|aE J<|zo J (hM J)<|aE J<|co J J (fun hg=>cX J)<|co J J (fun hg=>cd (bm J hg) hI)<|co J J (fun hg=>bJ (bm J hg))<|fg J J J J (fun hg=>cX J)<|fg J J J J (fun hg=>cd (bm J hg) hI)<|co J J (fun hg=>pT (bm J hg) (fun hb=>(bm J (qD hg (qo hb)))))<|zo J (pH J J)<|zo J (bW)<|bg J<|aq<|aj ?_;refine aB (ae ?_);cases so h;exact cW J J J
   ·refine i6 (Z:=fun x=>s0 r x=some R) (Of:=fun x=>[]) (Gf:=fun x=>[(6,bM r.1),(7,bM r.2),(41,hJ x)]) (fun x h=>?_) (fun K=>?_)
    ·skip
     refine ce h J (fun h=>?_) (fun h=>?_)
     ·refine av<|aE J<|aE J<|zo J (hM J)<|bg J<|bg J<|aq<|aj ?_;refine aB (ae ?_);cases so h;exact cW J J J
     ·refine bA<|aw<|ax<|av<|zo rfl (bW)<|zo rfl (jU)<|aq<|aj ?_;cases so h;exact cW J J J
    ·skip
     refine av<|zo J (hM J)<|bg J<|aq<|ce h J (fun h=>?_) (fun h=>?_)
     ·refine bA ?_;exact ci (K (a1.Tag==(4:Int)) h) (bD J)
     ·refine aA<|zo J (hM J)<|bg J<|aQ ?_;exact ci (K (a1.Tag==(5:Int)) h) (bD J)

theorem Y7(b:Nat)(ix:OI)(c:aI)(n:ay){R:(List Int)×Bool}(h:gR c n=some R):dl aU 205 [tV (aS b 0),tD aW n] (dN b c ix) (fun _:OI=>tT [mH R.1,hJ R.2]) (fun _=>(dN b c ix)):=by
 refine dl.of Tryz.func205 J J J fun w0 S0=>?_;refine(show CG _ _ _ [bx (rH bz [(1,bc (ix.h 0).1 (ix.h 0).2 c.kinds.length),(2,bc (ix.h 1).1 (ix.h 1).2 c.first.length)]) 115 b c,ez nQ 39 (ix.h 0).1 (ix.h 0).2 c.kinds,ez cj 3 (ix.h 1).1 (ix.h 1).2 c.first] _ from ?_);refine av<|zo J (gi J)<|zo J (aT (show aO _ _ _ xB from kJ))<|zo J (jU)<|aq<|ah<|bo h fun e q_e h=>?_
 refine cD (ts:=[_,_,_,_,_,_,_,_,_]) mixed J J
  ⟨dB 0 J J J (cX J),
  ⟨bT 15 0 J J J (dQ (ht J)),
  ⟨bT 16 1 J J J (je 1 nN J J J),
  ⟨bT 17 2 J J J (dx tF J (.head _) (.tail _ (.head _)) (ht J)),
  ⟨dB 3 J J J (bX kq d9 J J),
  ⟨bT 19 4 J J J (bh cg J J),
  ⟨cK 18 3 20 5 J J J J (bF wa eQ J (lJ (ht J)) (ht J) q_e),
  ⟨bT 21 6 J J J (bh eQ J J),
  ⟨bT 22 7 J J J (rN J),
  aL⟩⟩⟩⟩⟩⟩⟩⟩⟩ ?_
 refine ax<|av<|zo rfl (bX vc oe rfl rfl)<|zo rfl (bh eQ rfl rfl)<|zo rfl (jw iv rfl)<|zo rfl (jZ (ht rfl) hI)<|aE rfl<|co rfl rfl (fun hg=>bX t8 rh J J)<|co J J (fun hg=>bj Em J J (bm J hg))<|co J J (fun hg=>dK AI (bm J hg))<|co J J (fun hg=>jZ (bm J hg) hI)<|zo J (pH J J)<|aE J<|co J J (fun hg=>bX vc oe J J)<|co J J (fun hg=>bj eQ J J (bm J hg))<|co J J (fun hg=>dK iv (bm J hg))<|co J J (fun hg=>bX t8 rh J J)<|co J J (fun hg=>bj Em J J (bm J hg))<|co J J (fun hg=>dK AI (bm J hg))<|co J J (fun hg=>fV (bm J hg) (bm J hg))<|co J J (fun hg=>iz (bm J hg) hI)<|zo J (pH J J)<|aE J ?_;refine bo h fun t q_t h=>co J J (fun hg=>bX vc oe J J)<|co J J (fun hg=>bj eQ J J (bm J hg))<|co J J (fun hg=>cX J) ?_
 obtain⟨r,h1t,h0t⟩:=og q_t
 have q_rg:=fun hb=>(h1t hb).1
 refine co J J (fun hg=>ap abe (Va _ _ (q_rg hg)) ⟨(bm J hg),(bm J hg),aL⟩)<|zo J (cH (ht J) (fun hb=>(bm J hb)) (fun hb=>(h1t hb).2) h0t)<|bg J<|aq<|ah<|av<|aE J<|zo J (cx (ht J))<|aq<|ce h J (fun h=>?_) (fun h=>?_)
 ·refine av<|zo J (aT (show aO _ _ _ xB from kJ))<|zo J (jU)<|aq<|aj<|ae<|aM<|aM<|aM ?_;cases so h;exact eN (ts:=[mH ([]),hJ false]) (rvs:=[.tmp 4,.tmp 5]) J J ⟨aK J,aK J,aL⟩ pj J J
 ·refine df<|av<|ca false cj 3<|zo J (aT tg)<|aq<|ah<|av<|zo J (bX vc oe J J)<|zo J (bh eQ J J)<|zo J (jw iv J)<|zo J (bJ hI)<|aq<|aC<|bp (k:=52) J fun hN=>bQ ?_;refine ba (kX (Z:=fun ls i out l c1=>(n.Keys.drop i=ls)∧gG n e t ls out=some R) (Of:=fun _ i out l c1=>[fL cj 3 l c1 out,bx (rH bz [(1,bc (ix.h 0).1 (ix.h 0).2 c.kinds.length),(2,bc (ix.h 1).1 (ix.h 1).2 c.first.length)]) 115 b c,ez nQ 39 (ix.h 0).1 (ix.h 0).2 c.kinds,ez cj 3 (ix.h 1).1 (ix.h 1).2 c.first]) (Gf:=fun _ i out l c1=>[(3,bN aW n),(6,mH e),(7,hJ t),(8,sw l c1 out),(52,mH n.Keys),(53,ky n.Keys),(54,bM (i:Int))]) (fun i out l c1 h=>?_) (fun e1 tl ih i out l c1 h=>?_) n.Keys 0 vn none 0 ⟨J,h⟩) (bD J)
  ·obtain⟨hx,h⟩:=h
   refine aG<|av<|zo J (fY J J)<|aq<|ah<|bL (ht J) (dO hx)<|bG ?_;refine ak (ak (aV ?_));refine ax<|ah<|av<|zo rfl (bX t8 rh rfl rfl)<|zo rfl (bh Em rfl rfl)<|zo rfl (jw AI rfl)<|zo rfl (bJ hI)<|aq<|aC<|bp (k:=67) J fun hN1=>bQ ?_;refine ba (su (Z:=fun ls1 i1 out1 l1 c2 ok=>(n.Aggs.drop i1=ls1)∧fx e ls1 out1 ok=some R) (Of:=fun _ i1 out1 l1 c2 ok=>[fL cj 3 l1 c2 out1,bx (rH bz [(1,bc (ix.h 0).1 (ix.h 0).2 c.kinds.length),(2,bc (ix.h 1).1 (ix.h 1).2 c.first.length)]) 115 b c,ez nQ 39 (ix.h 0).1 (ix.h 0).2 c.kinds,ez cj 3 (ix.h 1).1 (ix.h 1).2 c.first]) (Gf:=fun _ i1 out1 l1 c2 ok=>[(6,mH e),(7,hJ ok),(8,sw l1 c2 out1),(67,cq (eH) n.Aggs),(68,ky n.Aggs),(69,bM (i1:Int))]) (fun i1 out1 l1 c2 ok h=>?_) (fun e2 tl1 ih1 i1 out1 l1 c2 ok h=>?_) n.Aggs 0 out l c1 t ⟨J,h⟩) (bD J)
   ·obtain⟨hx1,h⟩:=h
    refine aG<|av<|zo J (fY J J)<|aq<|ah<|bL (ht J) (dO hx1)<|bG ?_;refine ak (ak (aV ?_));refine ax<|av<|aE rfl<|aE rfl<|bg rfl<|bg rfl<|aq<|aj<|jS<|cP 8 rfl<|cP 88 rfl<|cP 4 rfl<|jT 4 rfl<|aZ<|aM<|aM<|aM ?_;cases so h;exact eN (ts:=[mH out1,hJ ok]) (rvs:=[.tmp 4,.tmp 5]) J J ⟨aK J,aK J,aL⟩ pj J J
   ·obtain⟨hx1,h⟩:=h
    refine aG<|av<|zo J (fY J J)<|aq<|ah<|bK (ht J) (dL hx1)<|df<|ah<|aC<|av<|zo J (ne AI uZ J J J (dA hx1))<|zo J (bh uZ J J)<|aP (r:=eH) (x:=(⟨(0:Int),B2⟩:gv)) uZ (fun _=>HO _) J fun b1=>am uZ J ai J (ht J) (ht J)<|aY 12 J<|aq<|av<|zo J (bh uZ J J) ?_;refine aE J<|bo h fun r1 q_r1 h=>zo J (ap abd (U9 _ _ q_r1) ⟨(ht J),(ht J),aL⟩)<|aE J<|zo J (dX J J)<|zo J (dX J J)<|bg J<|bg J<|aq<|aA<|aE J<|aE J<|zo J (bf (r:=cj) (ys:=[r1.1]) (xs:=[.tmp 80]) iv cg J J J J J ⟨(ht J),aL⟩)<|bo h fun out2 q_out2 h=>cV cg J J J J iv J J (ht J) (ht J) q_out2 fun l2 c3=>aE J<|aE J<|co J J (fun hg=>cX J)<|zo J (pH J J)<|bg J<|bg J<|aQ<|aw ?_;refine ax<|aA<|zo rfl (nf (dd hx1 hN1) rfl)<|aE rfl<|aQ ?_;exact bn (ba (ih1 (i1+1) out2 l2 c3 (ok&&r1.2) ⟨dc hx1,h⟩) (bD J))
  ·obtain⟨hx,h⟩:=h
   refine aG<|av<|zo J (fY J J)<|aq<|ah<|bK (ht J) (dL hx)<|df<|ah<|aC<|av<|zo J (ne iv cg J J J (dA hx))<|zo J (bh cg J J)<|bg J<|aq<|aA<|aE J<|aE J<|aE J<|bo h fun e3 q_e3 h=>?_;refine zo J (ne iv cg J J J q_e3)<|zo J (bh cg J J)<|zo J (bf (r:=cj) (ys:=[e3]) (xs:=[.tmp 62]) iv cg J J J J J ⟨(ht J),aL⟩)<|bo h fun out3 q_out3 h=>cV cg J J J J iv J J (ht J) (ht J) q_out3 fun l3 c4=>bg J<|aQ<|aw<|ax<|aA<|zo rfl (nf (dd hx hN) rfl)<|aE rfl<|aQ ?_;exact bn (ba (ih (i+1) out3 l3 c4 ⟨dc hx,h⟩) (bD J))

theorem Y6(b:Nat)(ix:OI)(c:aI)(n:ay){R:(List Int)×Bool}(h:fW c n=some R):dl aU 206 [tV (aS b 0),tD aW n] (dN b c ix) (fun _:OI=>tT [mH R.1,hJ R.2]) (fun _=>(dN b c ix)):=by
 refine dl.of Tryz.func206 J J J fun w0 S0=>?_;refine(show CG _ _ _ [bx (rH bz [(1,bc (ix.h 0).1 (ix.h 0).2 c.kinds.length),(2,bc (ix.h 1).1 (ix.h 1).2 c.first.length)]) 115 b c,ez nQ 39 (ix.h 0).1 (ix.h 0).2 c.kinds,ez cj 3 (ix.h 1).1 (ix.h 1).2 c.first] _ from ?_);refine av<|zo J (gi J)<|zo J (aT (show aO _ _ _ xB from kJ))<|zo J (jU)<|aq<|av<|zo J (bX t7 py J J)<|zo J (bh Dt J J)<|zo J (jw BX J)<|zo J (gh (ht J) hI)<|aE J<|co J J (fun hg=>bX t7 py J J)<|co J J (fun hg=>bj Dt J J (bm J hg))<|co J J (fun hg=>dK BX (bm J hg))<|co J J (fun hg=>jZ (bm J hg) hI)<|zo J (pH J J)<|bg J<|aq<|av ?_;refine ca false cj 3<|zo J (aT tg)<|aq<|ah<|av<|zo J (bX t7 py J J)<|zo J (bh Dt J J)<|zo J (jw BX J)<|zo J (bJ hI)<|aq<|aC<|bp (k:=23) J fun hN=>bQ ?_;refine ba (su (Z:=fun ls i out l c1 ok=>(n.Items.drop i=ls)∧fP c n ls out ok=some R) (Of:=fun _ i out l c1 ok=>[fL cj 3 l c1 out,bx (rH bz [(1,bc (ix.h 0).1 (ix.h 0).2 c.kinds.length),(2,bc (ix.h 1).1 (ix.h 1).2 c.first.length)]) 115 b c,ez nQ 39 (ix.h 0).1 (ix.h 0).2 c.kinds,ez cj 3 (ix.h 1).1 (ix.h 1).2 c.first]) (Gf:=fun _ i out l c1 ok=>[(0,tV (aS b 0)),(3,bN aW n),(6,hJ ok),(7,sw l c1 out),(23,cq (ck) n.Items),(24,ky n.Items),(25,bM (i:Int))]) (fun i out l c1 ok h=>?_) (fun e tl ih i out l c1 ok h=>?_) n.Items 0 vn none 0 ((decide ((1:Int)≤(n.Items.length:Int)))&&(decide ((n.Items.length:Int)≤(16:Int)))) ⟨J,h⟩) (bD J)
 ·obtain⟨hx,h⟩:=h
  refine aG<|av<|zo J (fY J J)<|aq<|ah<|bL (ht J) (dO hx)<|bG ?_;refine ak (ak (aV ?_));refine ax<|av<|aE rfl<|aE rfl<|bg rfl<|bg rfl<|aq<|aj<|jS<|cP 7 rfl<|cP 52 rfl<|cP 4 rfl<|jT 4 rfl<|aZ<|aM<|aM<|aM ?_;cases so h;exact eN (ts:=[mH out,hJ ok]) (rvs:=[.tmp 4,.tmp 5]) J J ⟨aK J,aK J,aL⟩ pj J J
 ·obtain⟨hx,h⟩:=h
  refine aG<|av<|zo J (fY J J)<|aq<|ah<|bK (ht J) (dL hx)<|df<|ah<|aC<|av<|zo J (ne BX k5 J J J (dA hx))<|zo J (bh k5 J J)<|aP (r:=ck) (x:=B2) k5 (fun _=>uv _) J fun b1=>am k5 J ai J (ht J) (ht J)<|aY 9 J<|aq<|ah<|bo h fun e1 q_e1 h=>bo h fun r q_r h=>?_
  refine cD (ts:=[_,_,_,_,_,_,_,_,_,_,_,_,_,_,_]) mixed J J
   ⟨dB 9 J J J (bh k5 J J),
   ⟨dB 0 J J J (cX J),
   ⟨bT 31 1 J J J (dQ (ht J)),
   ⟨bT 32 2 J J J (je 1 nN J J J),
   ⟨bT 33 3 J J J (dx tF J (.tail _ (.head _)) (.tail _ (.tail _ (.head _))) (ht J)),
   ⟨dB 3 J J J (bX kq d9 J J),
   ⟨bT 35 5 J J J (bh cg J J),
   ⟨cK 34 4 36 6 J J J J (bF wa eQ J (lJ (ht J)) (ht J) q_e1),
   ⟨bT 37 7 J J J (bh eQ J J),
   ⟨cK 30 0 38 8 J J J J (ap SW (IW _ _ q_r) ⟨(ht J),(ht J),aL⟩),
   ⟨bT 39 9 J J J (cX J),
   ⟨bT 29 10 J J J (dX J J),
   ⟨bT 29 10 J J J (dX J J),
   ⟨bT 40 11 J J J (rN J),
   ⟨bT 41 12 J J J (rN J),
   aL⟩⟩⟩⟩⟩⟩⟩⟩⟩⟩⟩⟩⟩⟩⟩ ?_
  refine ax<|aA<|aE rfl<|aE rfl<|zo rfl (bf (r:=cj) (ys:=[r.1]) (xs:=[.tmp 43]) iv cg J J J J J ⟨(ht J),aL⟩)<|bo h fun out1 q_out1 h=>cV cg J J J J iv J J (ht J) (ht J) q_out1 fun l1 c2=>aE J<|aE J<|co J J (fun hg=>cX J)<|co J J (fun hg=>cd (bm J hg) hI)<|zo J (pH J J)<|bg J<|bg J<|aQ<|aw<|ax<|aA<|zo rfl (nf (dd hx hN) rfl)<|aE rfl<|aQ ?_;exact bn (ba (ih (i+1) out1 l1 c2 (ok&&(r.2==(0:Int))) ⟨dc hx,h⟩) (bD J))

theorem Y5(b:Nat)(ix:OI)(c:aI)(n:ay){R:(List Int)×Bool}(h:fy c n=some R):dl aU 207 [tV (aS b 0),tD aW n] (dN b c ix) (fun _:OI=>tT [mH R.1,hJ R.2]) (fun _=>(dN b c ix)):=by
 refine dl.of Tryz.func207 J J J fun w0 S0=>?_;refine(show CG _ _ _ [bx (rH bz [(1,bc (ix.h 0).1 (ix.h 0).2 c.kinds.length),(2,bc (ix.h 1).1 (ix.h 1).2 c.first.length)]) 115 b c,ez nQ 39 (ix.h 0).1 (ix.h 0).2 c.kinds,ez cj 3 (ix.h 1).1 (ix.h 1).2 c.first] _ from ?_);refine av<|zo J (gi J)<|zo J (aT (show aO _ _ _ xB from kJ))<|zo J (jU)<|aq<|ah<|bo h fun e q_e h=>?_
 refine cD (ts:=[_,_,_,_,_,_,_,_,_,_]) mixed J J
  ⟨dB 0 J J J (cX J),
  ⟨bT 6 0 J J J (dQ (ht J)),
  ⟨bT 7 1 J J J (je 1 nN J J J),
  ⟨bT 8 2 J J J (dx tF J (.head _) (.tail _ (.head _)) (ht J)),
  ⟨dB 3 J J J (bX kq d9 J J),
  ⟨bT 10 4 J J J (bh cg J J),
  ⟨cK 9 3 11 5 J J J J (bF wa eQ J (lJ (ht J)) (ht J) q_e),
  ⟨bT 12 6 J J J (bh eQ J J),
  ⟨bT 13 7 J J J (rN J),
  ⟨NX J J (jU),
  aL⟩⟩⟩⟩⟩⟩⟩⟩⟩⟩ ?_
 refine ax<|aj<|aM<|aM<|aM ?_;cases so h;exact eN (ts:=[mH e,hJ true]) (rvs:=[.tmp 4,.tmp 5]) J J ⟨aK J,aK J,aL⟩ pj J J

theorem Y4(b:Nat)(ix:OI)(c:aI)(n:ay){R:(List Int)×Bool}(h:gO c n=some R):dl aU 208 [tV (aS b 0),tD aW n] (dN b c ix) (fun _:OI=>tT [mH R.1,hJ R.2]) (fun _=>(dN b c ix)):=by
 refine dl.of Tryz.func208 J J J fun w0 S0=>?_;refine(show CG _ _ _ [bx (rH bz [(1,bc (ix.h 0).1 (ix.h 0).2 c.kinds.length),(2,bc (ix.h 1).1 (ix.h 1).2 c.first.length)]) 115 b c,ez nQ 39 (ix.h 0).1 (ix.h 0).2 c.kinds,ez cj 3 (ix.h 1).1 (ix.h 1).2 c.first] _ from ?_);refine av<|zo J (gi J)<|zo J (aT (show aO _ _ _ xB from kJ))<|zo J (jU)<|aq<|ah<|bo h fun e q_e h=>bo h fun e1 q_e1 h=>?_
 refine cD (ts:=[_,_,_,_,_,_,_,_,_,_,_,_,_,_,_,_,_,_]) mixed J J
  ⟨dB 0 J J J (cX J),
  ⟨bT 12 0 J J J (dQ (ht J)),
  ⟨bT 13 1 J J J (je 1 nN J J J),
  ⟨bT 14 2 J J J (dx tF J (.head _) (.tail _ (.head _)) (ht J)),
  ⟨dB 3 J J J (bX kq d9 J J),
  ⟨bT 16 4 J J J (bh cg J J),
  ⟨cK 15 3 17 5 J J J J (bF wa eQ J (lJ (ht J)) (ht J) q_e),
  ⟨bT 18 6 J J J (bh eQ J J),
  ⟨dB 0 J J J (cX J),
  ⟨bT 20 8 J J J (dQ (ht J)),
  ⟨bT 21 9 J J J (je 1 nN J J J),
  ⟨bT 22 10 J J J (dx tF J (.head _) (.tail _ (.head _)) (ht J)),
  ⟨dB 3 J J J (bX sG kV J J),
  ⟨bT 24 12 J J J (bh cg J J),
  ⟨cK 23 11 25 13 J J J J (bF wa eQ J (lJ (ht J)) (ht J) q_e1),
  ⟨bT 26 14 J J J (bh eQ J J),
  ⟨bT 19 7 J J J (rN J),
  ⟨bT 27 15 J J J (rN J),
  aL⟩⟩⟩⟩⟩⟩⟩⟩⟩⟩⟩⟩⟩⟩⟩⟩⟩⟩ ?_
 refine ax<|ah<|av<|aE rfl<|zo rfl (jw iv rfl)<|aE rfl<|zo rfl (jw iv rfl)<|zo rfl (c9 (ht rfl) (ht rfl))<|aq<|ce h rfl (fun h=>?_) (fun h=>?_)
 ·refine av<|zo J (aT (show aO _ _ _ xB from kJ))<|zo J (jU)<|aq<|aj<|ae<|aM<|aM<|aM ?_;cases so h;exact eN (ts:=[mH ([]),hJ false]) (rvs:=[.tmp 4,.tmp 5]) J J ⟨aK J,aK J,aL⟩ pj J J
 ·refine df<|av<|aE J<|bo h fun r q_r h=>jh SS (IS _ q_r) ⟨(ht J),aL⟩ J fun l c1=>bg J<|aq<|av<|zo J (jU)<|aq<|ah<|av<|aE J<|zo J (jw iv J)<|zo J (bJ hI)<|aq<|aC ?_;refine bp (k:=35) J fun hN=>bQ ?_;refine ba (vS (Z:=fun ls i out ok=>(e1.drop i=ls)∧dR ls i out ok=some R) (Of:=fun _ i out ok=>[fL cj 3 l c1 out,bx (rH bz [(1,bc (ix.h 0).1 (ix.h 0).2 c.kinds.length),(2,bc (ix.h 1).1 (ix.h 1).2 c.first.length)]) 115 b c,ez nQ 39 (ix.h 0).1 (ix.h 0).2 c.kinds,ez cj 3 (ix.h 1).1 (ix.h 1).2 c.first]) (Gf:=fun _ i out ok=>[(8,sw l c1 out),(9,hJ ok),(35,mH e1),(36,ky e1),(37,bM (i:Int))]) (fun i out ok h=>?_) (fun e2 tl ih i out ok h=>?_) e1 0 r true ⟨J,h⟩) (bD J)
  ·obtain⟨hx,h⟩:=h
   refine aG<|av<|zo J (fY J J)<|aq<|ah<|bL (ht J) (dO hx)<|bG ?_;refine ak (ak (aV ?_));refine ax<|av<|aE rfl<|aE rfl<|bg rfl<|bg rfl<|aq<|aj<|jS<|cP 8 rfl<|cP 65 rfl<|cP 4 rfl<|jT 4 rfl<|aZ<|aM<|aM<|aM ?_;cases so h;exact eN (ts:=[mH out,hJ ok]) (rvs:=[.tmp 4,.tmp 5]) J J ⟨aK J,aK J,aL⟩ pj J J
  ·obtain⟨hx,h⟩:=h
   refine aG<|av<|zo J (fY J J)<|aq<|ah<|bK (ht J) (dL hx)<|df<|ah<|aC<|av<|aE J<|zo J (ne iv cg J J J (dA hx))<|zo J (bh cg J J)<|bg J<|bg J<|aq ?_;refine i6 (Z:=fun out1=>iM (dR tl) i e2 ok out1=some R) (Of:=fun out1=>[fL cj 3 l c1 out1,bx (rH bz [(1,bc (ix.h 0).1 (ix.h 0).2 c.kinds.length),(2,bc (ix.h 1).1 (ix.h 1).2 c.first.length)]) 115 b c,ez nQ 39 (ix.h 0).1 (ix.h 0).2 c.kinds,ez cj 3 (ix.h 1).1 (ix.h 1).2 c.first]) (Gf:=fun out1=>[(8,sw l c1 out1),(9,hJ ok),(10,bM (i:Int)),(11,bM e2),(35,mH e1),(36,ky e1),(37,bM (i:Int))]) (fun out1 h=>?_) (fun K=>?_)
   ·skip
    refine aA<|aE J<|aE J<|bo h fun t q_t h=>co J J (fun hg=>cX J)<|co J J (fun hg=>cX J) ?_
    obtain⟨e3,h1t,h0t⟩:=og q_t
    have q_e3g:=fun hb=>(h1t hb).1
    refine co J J (fun hg=>cB iv cg (.head _) (bm J hg) (bm J hg) (q_e3g hg))<|co J J (fun hg=>fJ (r:=cj) (i:=(i:Int)) (foff:=0) cg J J bw J (.head _) (q_e3g hg) (bm J hg))<|co J J (fun hg=>cX J)<|co J J (fun hg=>cd (bm J hg) (bm J hg))<|co J J (fun hg=>bJ (bm J hg))<|fg J J J J (fun hg=>cX J)<|fg J J J J (fun hg=>cd (bm J hg) hI)<|co J J (fun hg=>pT (bm J hg) (fun hb=>(bm J (qD hg (qo hb)))))<|zo J (cH (ht J) (fun hb=>(bm J hb)) (fun hb=>(h1t hb).2) h0t)<|bg J<|aQ<|aw<|ax<|aA<|zo rfl (nf (dd hx hN) rfl)<|aE rfl<|aQ ?_;exact bn (ba (ih (i+1) out1 t ⟨dc hx,h⟩) (bD J))
   ·skip
    refine av<|aE J<|aE J<|bo h fun e4 q_e4 h=>zo J (cB iv cg (.head _) (ht J) (ht J) q_e4)<|zo J (fJ (r:=cj) (i:=(i:Int)) (foff:=0) cg J J bw J (.head _) q_e4 (ht J))<|zo J (hM J)<|aq<|ce h J (fun h=>?_) (fun h=>?_)
    ·refine aA<|aE J<|aE J<|aE J<|zo J (cB iv cg (.head _) (ht J) (ht J) q_e4)<|bo h fun st q_st h=>tq cg J ai J q_e4 (so q_st) (ht J) (ht J)<|iZ (mM (so q_st)) 8 J<|iZ (mM (so q_st)) 42 J<|iZ (mM (so q_st)) 47 J<|aQ ?_;exact ci (K st h) (bD J)
    ·refine bA ?_;exact ci (K out h) (bD J)

theorem Vr(s:(List ig))(f:(ig→Option Bool)){R:Int}(h:iE s f=some R):aR aU 229 [cq (hT) s,(ei aU Q4 mI (fun(x:ig)=>f x))] (bM R):=by
 refine aR.of Tryz.func229 J J J fun w0 S0=>av<|zo J (bW)<|aq<|ah<|av<|aE J<|zo J (jw AM J)<|zo J (bJ hI)<|aq<|aC<|bp (k:=6) J fun hN=>bQ ?_;refine ba (fK (Z:=fun ls i=>(s.drop i=ls)∧dV f ls i=some R) (Of:=fun _ i=>[]) (Gf:=fun _ i=>[(0,cq (hT) s),(1,(ei aU Q4 mI (fun(x:ig)=>f x))),(7,ky s),(8,bM (i:Int))]) (fun i h=>?_) (fun e tl ih i h=>?_) s 0 ⟨J,h⟩) (bD J)
 ·obtain⟨hx,h⟩:=h
  refine aG<|av<|zo J (fY J J)<|aq<|ah<|bL (ht J) (dO hx)<|bG ?_;refine ak (ak (aV ?_));refine ax<|av<|zo rfl (bW)<|aq<|aj ?_;cases so h;exact aH J J
 ·obtain⟨hx,h⟩:=h
  refine aG<|av<|zo J (fY J J)<|aq<|ah<|bK (ht J) (dL hx)<|df<|ah<|aC<|av<|aE J<|bg J<|aq<|av<|aE J<|aE J<|aE J<|zo J (ne AM JM J J J (dA hx)) ?_;refine zo J (bh JM J J)<|bo h fun r q_r h=>zo J (io (args:=Q4) (res:=HQ) (f:=(fun(x:ig)=>f x)) (x:=((e):ig)) (ht J) q_r ⟨(ht J),aL⟩)<|aq<|ce h J (fun h=>?_) (fun h=>?_)
  ·refine av<|aE J<|bg J<|aq<|aj ?_;refine aB (ae (ae (aB (ae ?_))));cases so h;exact aH J J
  ·refine bA<|aw<|ax<|aA<|zo rfl (nf (dd hx hN) rfl)<|aE rfl<|aQ ?_;exact bn (ba (ih (i+1) ⟨dc hx,h⟩) (bD J))

theorem VU(s:(List ig))(f:(ig→Option Bool)){R:Bool}(h:eZ s f=some R):aR aU 149 [cq (hT) s,(ei aU Q4 mI (fun(x:ig)=>f x))] (hJ R):=by
 refine aR.of Tryz.func149 J J J fun w0 S0=>av<|zo J (jU)<|aq<|av<|aE J<|aE J<|bo h fun r q_r h=>zo J (ap abx (Vr _ _ q_r) ⟨(ht J),(ht J),aL⟩)<|zo J (gh (ht J) hI)<|bg J<|aq<|aj ?_;cases so h;exact aH J J

end Go.Proofs.YtfhhakidodmdfaaGreatDoor

