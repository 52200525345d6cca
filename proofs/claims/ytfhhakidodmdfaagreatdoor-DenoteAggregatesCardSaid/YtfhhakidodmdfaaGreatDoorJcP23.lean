/- di of this claim: P23. -/
import Derived.Test.YtfhhakidodmdfaaGreatDoorJcT
import Derived.Test.YtfhhakidodmdfaaGreatDoorJcP22
set_option linter.all false
namespace Go.Proofs.YtfhhakidodmdfaaGreatDoor
open Go
set_option maxRecDepth 100000

theorem VT(s:(List (List ac)))(f:((List ac)→Option Bool)){R:Int}(h:iD s f=some R):aR aU 151 [cq (dg) s,(ei aU TL mI (fun(x:(List ac))=>f x))] (bM R):=by
 refine aR.of Tryz.func151 J J J fun w0 S0=>av<|zo J (bW)<|aq<|ah<|av<|aE J<|zo J (jw jN J)<|zo J (bJ hI)<|aq<|aC<|bp (k:=6) J fun hN=>bQ ?_;refine ba (fK (Z:=fun ls i=>(s.drop i=ls)∧dU f ls i=some R) (Of:=fun _ i=>[]) (Gf:=fun _ i=>[(0,cq (dg) s),(1,(ei aU TL mI (fun(x:(List ac))=>f x))),(7,ky s),(8,bM (i:Int))]) (fun i h=>?_) (fun e tl ih i h=>?_) s 0 ⟨J,h⟩) (bD J)
 ·obtain⟨hx,h⟩:=h
  refine aG<|av<|zo J (fY J J)<|aq<|ah<|bL (ht J) (dO hx)<|bG ?_;refine ak (ak (aV ?_));refine ax<|av<|zo rfl (bW)<|aq<|aj ?_;cases so h;exact aH J J
 ·obtain⟨hx,h⟩:=h
  refine aG<|av<|zo J (fY J J)<|aq<|ah<|bK (ht J) (dL hx)<|df<|ah<|aC<|av<|aE J<|bg J<|aq<|av<|aE J<|aE J<|aE J<|zo J (ne jN eg J J J (dA hx)) ?_;refine zo J (bh eg J J)<|bo h fun r q_r h=>zo J (io (args:=(fun(x:(List ac))=>[tD dg x])) (res:=HQ) (f:=(fun(x:(List ac))=>f x)) (x:=((e):(List ac))) (ht J) q_r ⟨(ht J),aL⟩)<|aq<|ce h J (fun h=>?_) (fun h=>?_)
  ·refine av<|aE J<|bg J<|aq<|aj ?_;refine aB (ae (ae (aB (ae ?_))));cases so h;exact aH J J
  ·refine bA<|aw<|ax<|aA<|zo rfl (nf (dd hx hN) rfl)<|aE rfl<|aQ ?_;exact bn (ba (ih (i+1) ⟨dc hx,h⟩) (bD J))

theorem YI(s:(List (List ac)))(f:((List ac)→Option Bool)){R:Bool}(h:eY s f=some R):aR aU 85 [cq (dg) s,(ei aU TL mI (fun(x:(List ac))=>f x))] (hJ R):=by
 refine aR.of Tryz.func85 J J J fun w0 S0=>av<|zo J (jU)<|aq<|av<|aE J<|aE J<|bo h fun r q_r h=>zo J (ap acf (VT _ _ q_r) ⟨(ht J),(ht J),aL⟩)<|zo J (gh (ht J) hI)<|bg J<|aq<|aj ?_;cases so h;exact aH J J

theorem V5(r:(List ac)){R:Int}(h:yG r=some R):aR aU 128 [cq (af) r] (bM R):=by
 refine aR.of Tryz.func128 J J J fun w0 S0=>av<|zo J (bW)<|aq<|ah<|av<|aE J<|bo h fun r1 q_r1 h=>zo J (ap Wl (IQ _ q_r1) ⟨(ht J),aL⟩)<|zo J (cx (ht J))<|aq<|ce h J (fun h=>?_) (fun h=>?_)
 ·refine av<|zo J (bW)<|aq<|aj<|ae ?_;cases so h;exact aH J J
 ·refine df<|av<|zo J (bW)<|aq<|aj ?_;cases so h;exact aH J J

theorem V6(r:(List ac)){R:Bool}(h:mq r=some R):aR aU 127 [cq (af) r] (hJ R):=by
 refine aR.of Tryz.func127 J J J fun w0 S0=>av<|zo J (jU)<|aq<|av<|aE J<|bo h fun r1 q_r1 h=>zo J (ap acr (V5 _ q_r1) ⟨(ht J),aL⟩)<|zo J (sx J)<|bg J<|aq<|aj ?_;cases so h;exact aH J J

theorem YN(rows:(List (List ac))){R:Bool}(h:qz rows=some R):aR aU 74 [cq (dg) rows] (hJ R):=by
 refine aR.of Tryz.func74 J J J fun w0 S0=>av<|zo J (jU)<|aq<|av<|zo J (aT (show aO _ _ _ ((ei aU TL mI (fun(x:(List ac))=>mq x)))from(zJ acs fun x y h=>V6 _ h)))<|aq<|av<|aE J<|zo J (jw jN J)<|zo J (jZ (ht J) hI)<|aE J<|bo h fun t q_t h=>co J J (fun hg=>cX J)<|co J J (fun hg=>cX J) ?_
 obtain⟨r,h1t,h0t⟩:=og q_t
 have q_rg:=fun hb=>(h1t hb).1
 refine co J J (fun hg=>ap ac8 (YI _ _ (q_rg hg)) ⟨(bm J hg),(bm J hg),aL⟩)<|co J J (fun hg=>cx (bm J hg))<|zo J (cH (ht J) (fun hb=>(bm J hb)) (fun hb=>(h1t hb).2) h0t)<|bg J<|aq<|aj ?_;cases so h;exact aH J J

theorem YY(a1:gv)(rows:(List (List ac))){R:ac×Int}(h:ro a1 rows=some R):aR aU 26 [tD eH a1,cq (dg) rows] (tT [tD af R.1,bM R.2]):=by
 refine aR.of Tryz.func26 J J J fun w0 S0=>av<|zo J (gi J)<|aP (r:=af) (x:=d3) au (fun _=>aJ _) J fun b=>zo J (bW)<|aq<|av<|zo J (bX mT iP J J)<|zo J (bh cg J J)<|zo J (gh (ht J) hI)<|aE J<|co J J (fun hg=>bX mT iP J J)<|co J J (fun hg=>bj cg J J (bm J hg))<|co J J (fun hg=>jZ (bm J hg) hI)<|zo J (pH J J)<|aE J<|bo h fun t q_t h=>co J J (fun hg=>cX J) ?_
 obtain⟨r,h1t,h0t⟩:=og q_t
 have q_rg:=fun hb=>(h1t hb).1
 refine co J J (fun hg=>ap adc (YN _ (q_rg hg)) ⟨(bm J hg),aL⟩)<|zo J (cH (ht J) (fun hb=>(bm J hb)) (fun hb=>(h1t hb).2) h0t)<|bg J<|aq ?_;refine i6 (Z:=fun ok=>ke a1 rows ok=some R) (Of:=fun ok=>[bx af 46 b d3]) (Gf:=fun ok=>[(1,cq (dg) rows),(2,bN eH a1),(4,tV (aS b 0)),(6,hJ ok)]) (fun ok h=>?_) (fun K=>?_)
 ·skip
  refine ah<|av<|aE J<|zo J (cx (ht J))<|aq<|ce h J (fun h=>?_) (fun h=>?_)
  ·refine av<|zo J (bB (y:=d3) au gW aJ (J))<|am au J ai J (ht J) (ht J)<|zo J (bW)<|aq<|aj<|ae<|aF 4 J ?_;cases so h;exact be J J ⟨aN au J J J,aK J,aL⟩
  ·refine df<|av<|zo J (bh uZ J J)<|aE J<|bo h fun r1 q_r1 h=>zo J (ap aaF (Sl _ _ q_r1) ⟨(ht J),(ht J),aL⟩)<|zo J (dX J J)<|zo J (dX J J)<|am au J ai J (ht J) (ht J)<|bg J<|aq<|aj<|aF 4 J ?_;cases so h;exact be J J ⟨aN au J J J,aK J,aL⟩
 ·skip
  refine av<|zo J (bX mT iP J J)<|zo J (bh cg J J)<|zo J (hM J)<|aq<|ce h J (fun h=>?_) (fun h=>?_)
  ·refine aA<|aE J<|aE J<|co J J (fun hg=>bX ua oh J J)<|co J J (fun hg=>oD ku J fQ J (bm J hg))<|co J J (fun hg=>bj sQ J J (bm J hg))<|co J J (fun hg=>dK p6 (bm J hg))<|co J J (fun hg=>cd (bm J hg) hI)<|zo J (pH J J)<|bg J<|aQ ?_;exact ci (K (t&&((a1.Arg.Nodes.length:Int)==(0:Int))) h) (bD J)
  ·refine aA<|aE J<|aE J<|bo h fun t1 q_t1 h=>co J J (fun hg=>bX ua oh J J)<|co J J (fun hg=>bj k5 J J (bm J hg)) ?_
   obtain⟨r2,h1t1,h0t1⟩:=og q_t1
   have q_r2g:=fun hb=>(h1t1 hb).1
   refine co J J (fun hg=>ap Wm (IR _ (q_r2g hg)) ⟨(bm J hg),aL⟩)<|co J J (fun hg=>cd (bm J hg) hI)<|zo J (cH (ht J) (fun hb=>(bm J hb)) (fun hb=>(h1t1 hb).2) h0t1)<|bg J<|aQ ?_;exact ci (K t1 h) (bD J)

theorem aak(a1:gv)(rows:(List (List ac))){R:Bool}(h:kp a1 rows=some R):aR aU 5 [tD eH a1,cq (dg) rows] (hJ R):=by
 refine aR.of Tryz.func5 J J J fun w0 S0=>av<|zo J (gi J)<|zo J (jU)<|aq<|ah<|av<|bo h fun r q_r h=>zo J (ap adB (Zf q_r) trivial)<|zo J (cx (ht J))<|aq<|ce h J (fun h=>?_) (fun h=>?_)
 ·refine av<|zo J (jU)<|aq<|aj<|ae ?_;cases so h;exact aH J J
 ·refine df<|ah<|av<|aE J<|bo h fun r1 q_r1 h=>zo J (ap adw (Y0 _ _ q_r1) ⟨(ht J),hI,aL⟩)<|aE J<|bo h fun t q_t h=>dD J J (fun hg=>bX ua oh J J)<|dD J J (fun hg=>bj k5 J J (bm J hg)) ?_
  obtain⟨r2,h1t,h0t⟩:=og q_t
  have q_r2g:=fun hb=>(h1t hb).1
  refine dD J J (fun hg=>ap adv (YZ _ (q_r2g hg)) ⟨(bm J hg),aL⟩)<|zo J (eO (ht J) (fun hb=>(bm J (qo hb))) (fun hb=>(h1t hb).2) h0t)<|aq<|ce h J (fun h=>?_) (fun h=>?_)
  ·refine av<|zo J (jU)<|aq<|aj<|ae ?_;cases so h;exact aH J J
  ·refine df<|av<|zo J (bh uZ J J)<|aE J<|bo h fun r3 q_r3 h=>zo J (ap adu (YY _ _ q_r3) ⟨(ht J),(ht J),aL⟩)<|aE J<|zo J (dX J J)<|zo J (dX J J)<|aP (r:=af) (x:=d3) au (fun _=>aJ _) J fun b=>am au J ai J (ht J) (ht J)<|aY 5 J<|bg J<|aq<|av<|zo J (bX mT iP J J)<|zo J (bh cg J J)<|zo J (gh (ht J) hI)<|aE J<|co J J (fun hg=>bX mT iP J J) ?_;refine co J J (fun hg=>bj cg J J (bm J hg))<|co J J (fun hg=>jZ (bm J hg) hI)<|zo J (pH J J)<|aE J<|bo h fun t1 q_t1 h=>co J J (fun hg=>cX J) ?_
   obtain⟨r4,h1t1,h0t1⟩:=og q_t1
   have q_r4g:=fun hb=>(h1t1 hb).1
   refine co J J (fun hg=>ap ady (Zc _ (q_r4g hg)) ⟨(bm J hg),aL⟩)<|co J J (fun hg=>cd (bm J hg) hI)<|zo J (cH (ht J) (fun hb=>(bm J hb)) (fun hb=>(h1t1 hb).2) h0t1)<|bg J<|aq ?_;refine i6 (Z:=fun ok=>gM a1 rows r3 ok=some R) (Of:=fun ok=>[]) (Gf:=fun ok=>[(1,cq (dg) rows),(2,bN eH a1),(5,bN af r3.1),(6,bM r3.2),(7,hJ ok)]) (fun ok h=>?_) (fun K=>?_)
   ·skip
    refine ah<|av<|aE J<|zo J (cx (ht J))<|aq<|ce h J (fun h=>?_) (fun h=>?_)
    ·refine av<|zo J (bh au J J)<|zo J (bB (y:=d3) au gW aJ (J))<|zo J (pc Cr (ht J) (ht J))<|aE J<|co J J (fun hg=>cX J)<|co J J (fun hg=>cd (bm J hg) hI)<|zo J (pH J J)<|bg J<|aq<|aj<|ae ?_;cases so h;exact aH J J
    ·refine df<|av<|zo J (bh uZ J J)<|aE J<|bo h fun r5 q_r5 h=>zo J (ap adt (YW _ _ q_r5) ⟨(ht J),(ht J),aL⟩)<|aE J<|zo J (dX J J)<|zo J (dX J J)<|aP (r:=af) (x:=d3) au (fun _=>aJ _) J fun b1=>am au J ai J (ht J) (ht J)<|aY 8 J<|bg J<|aq<|av<|aE J<|aE J<|zo J (cd (ht J) (ht J))<|aE J<|co J J (fun hg=>bh au J J) ?_;refine co J J (fun hg=>bh au J J)<|co J J (fun hg=>pc Cr (bm J hg) (bm J hg))<|zo J (pH J J)<|bg J<|aq<|aj ?_;cases so h;exact aH J J
   ·skip
    refine av<|zo J (bX mT iP J J)<|zo J (bh cg J J)<|zo J (hM J)<|aq<|ce h J (fun h=>?_) (fun h=>?_)
    ·refine aA<|aE J<|aE J<|co J J (fun hg=>bX ua oh J J)<|co J J (fun hg=>oD ku J fQ J (bm J hg))<|co J J (fun hg=>bj sQ J J (bm J hg))<|co J J (fun hg=>dK p6 (bm J hg))<|co J J (fun hg=>cd (bm J hg) hI)<|zo J (pH J J)<|bg J<|aQ ?_;exact ci (K (t1&&((a1.Arg.Nodes.length:Int)==(0:Int))) h) (bD J)
    ·refine aA<|aE J<|aE J<|bo h fun t2 q_t2 h=>co J J (fun hg=>bX ua oh J J)<|co J J (fun hg=>bj k5 J J (bm J hg)) ?_
     obtain⟨r6,h1t2,h0t2⟩:=og q_t2
     have q_r6g:=fun hb=>(h1t2 hb).1
     refine co J J (fun hg=>ap abm (Sr _ (q_r6g hg)) ⟨(bm J hg),aL⟩)<|zo J (cH (ht J) (fun hb=>(bm J hb)) (fun hb=>(h1t2 hb).2) h0t2)<|bg J<|aQ ?_;exact ci (K t2 h) (bD J)

end Go.Proofs.YtfhhakidodmdfaaGreatDoor

