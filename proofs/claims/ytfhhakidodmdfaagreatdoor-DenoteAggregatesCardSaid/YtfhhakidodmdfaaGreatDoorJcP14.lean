/- di of this claim: P14. -/
import Derived.Test.YtfhhakidodmdfaaGreatDoorJcT
import Derived.Test.YtfhhakidodmdfaaGreatDoorJcP13
set_option linter.all false
namespace Go.Proofs.YtfhhakidodmdfaaGreatDoor
open Go
set_option maxRecDepth 100000

theorem YV(r:(List ac)){R:Bool}(h:uD r=some R):aR aU 31 [cq (af) r] (hJ R):=by
 refine aR.of Tryz.func31 J J J fun w0 S0=>av<|zo J (jU)<|aq<|ah<|av<|aE J<|zo J (jw iw J)<|zo J (iz (ht J) hI)<|aq<|ce h J (fun h=>?_) (fun h=>?_)
 ·refine av<|zo J (jU)<|aq<|aj<|ae ?_;cases so h;exact aH J J
 ·refine df<|ah<|av<|zo J (bW)<|aq<|aC<|bp (k:=0) J fun hN=>bQ ?_;refine ba (fK (Z:=fun ls i=>(r.drop i=ls)∧nZ ls=some R) (Of:=fun _ i=>[]) (Gf:=fun _ i=>[(0,cq (af) r),(3,bM (i:Int))]) (fun i h=>?_) (fun e tl ih i h=>?_) r 0 ⟨J,h⟩) (bD J)
  ·obtain⟨hx,h⟩:=h
   refine aG<|ah<|av<|aE J<|aE J<|zo J (jw iw J)<|zo J (fY J J)<|aq<|bL (ht J) (dO hx)<|bG ?_;refine ak (ak (aV ?_));refine ax<|av<|zo rfl (jU)<|aq<|aj ?_;cases so h;exact aH J J
  ·obtain⟨hx,h⟩:=h
   refine aG<|ah<|av<|aE J<|aE J<|zo J (jw iw J)<|zo J (fY J J)<|aq<|bK (ht J) (dL hx)<|df<|ah<|aC<|av<|aE J<|aE J<|zo J (ne iw au J J J (dA hx))<|zo J (bh au J J)<|bo h fun r1 q_r1 h=>zo J (ap Cz (rm _ q_r1) ⟨(ht J),aL⟩)<|zo J (cx (ht J)) ?_;refine aq<|ce h J (fun h=>?_) (fun h=>?_)
   ·refine av<|zo J (jU)<|aq<|aj ?_;refine aB (ae (ae (aB (ae ?_))));cases so h;exact aH J J
   ·refine bA<|aw<|ax<|aA<|aE rfl<|zo rfl (nf (dd hx hN) rfl)<|bg rfl<|aQ ?_;exact bn (ba (ih (i+1) ⟨dc hx,h⟩) (bD J))

theorem Zc(l:(List (List ac))){R:Int}(h:uE l=some R):aR aU 17 [cq (dg) l] (bM R):=by
 refine aR.of Tryz.func17 J J J fun w0 S0=>av<|zo J (bW)<|aq<|ah<|av<|zo J (bW)<|aq<|aC<|bp (k:=0) J fun hN=>bQ ?_;refine ba (fK (Z:=fun ls i=>(l.drop i=ls)∧mg l ls=some R) (Of:=fun _ i=>[]) (Gf:=fun _ i=>[(0,cq (dg) l),(3,bM (i:Int))]) (fun i h=>?_) (fun e tl ih i h=>?_) l 0 ⟨J,h⟩) (bD J)
 ·obtain⟨hx,h⟩:=h
  refine aG<|ah<|av<|aE J<|aE J<|zo J (jw jN J)<|zo J (fY J J)<|aq<|bL (ht J) (dO hx)<|bG ?_;refine ak (ak (aV ?_));refine ax<|ah<|av<|aE rfl<|zo rfl (jw jN rfl)<|zo rfl (iz (ht rfl) hI)<|aq<|ce h rfl (fun h=>?_) (fun h=>?_)
  ·refine av<|zo J (bW)<|aq<|aj<|ae ?_;cases so h;exact aH J J
  ·refine df<|av<|zo J (bW)<|aq<|aj ?_;cases so h;exact aH J J
 ·obtain⟨hx,h⟩:=h
  refine aG<|ah<|av<|aE J<|aE J<|zo J (jw jN J)<|zo J (fY J J)<|aq<|bK (ht J) (dL hx)<|df<|ah<|aC<|av<|aE J<|aE J<|zo J (ne jN eg J J J (dA hx))<|zo J (bh eg J J)<|bo h fun r q_r h=>zo J (ap ads (YV _ q_r) ⟨(ht J),aL⟩)<|zo J (cx (ht J)) ?_;refine aq<|ce h J (fun h=>?_) (fun h=>?_)
  ·refine av<|zo J (bW)<|aq<|aj ?_;refine aB (ae (ae (aB (ae ?_))));cases so h;exact aH J J
  ·refine bA<|aw<|ax<|aA<|aE rfl<|zo rfl (nf (dd hx hN) rfl)<|bg rfl<|aQ ?_;exact bn (ba (ih (i+1) ⟨dc hx,h⟩) (bD J))

theorem D0(less:Bool){R:Int}(h:pu less=some R):aR aU 112 [hJ less] (bM R):=by
 refine aR.of Tryz.func112 J J J fun w0 S0=>av<|zo J (bW)<|aq<|ah<|av<|aE J<|aq<|ce h J (fun h=>?_) (fun h=>?_)
 ·refine av<|zo J (bW)<|aq<|aj<|ae ?_;cases so h;exact aH J J
 ·refine df<|av<|zo J (bW)<|aq<|aj ?_;cases so h;exact aH J J

theorem Sk(a1:ac)(b:ac){R:Int}(h:nY a1 b=some R):aR aU 81 [tD af a1,tD af b] (bM R):=by
 refine aR.of Tryz.func81 J J J fun w0 S0=>av<|zo J (gi J)<|zo J (gi J)<|zo J (bW)<|aq<|ah<|av<|zo J (bX cz br J J)<|zo J (bh cg J J)<|zo J (bX cz br J J)<|zo J (bh cg J J)<|zo J (c9 (ht J) (ht J))<|aq<|ce h J (fun h=>?_) (fun h=>?_)
 ·refine av<|zo J (bX cz br J J)<|zo J (bh cg J J)<|zo J (bX cz br J J)<|zo J (bh cg J J)<|zo J (fY J J)<|bo h fun r q_r h=>zo J (ap Pq (D0 _ q_r) ⟨(ht J),aL⟩)<|bg J<|aq<|aj<|ae ?_;cases so h;exact aH J J
 ·refine df<|ah<|av<|zo J (bX eE bY J J)<|zo J (bh uq J J)<|zo J (bX eE bY J J)<|zo J (bh uq J J)<|zo J (c9 (ht J) (ht J))<|aq<|ce h J (fun h=>?_) (fun h=>?_)
  ·refine av<|zo J (bX eE bY J J)<|zo J (bh uq J J)<|zo J (bX eE bY J J)<|zo J (bh uq J J)<|zo J (fY J J)<|bo h fun r1 q_r1 h=>zo J (ap Pq (D0 _ q_r1) ⟨(ht J),aL⟩)<|bg J<|aq<|aj<|ae ?_;cases so h;exact aH J J
  ·refine df<|ah<|av<|zo J (bX pD hY J J)<|zo J (bh fU J J)<|zo J (bX pD hY J J)<|zo J (bh fU J J)<|zo J (c9 (ht J) (ht J))<|aq<|ce h J (fun h=>?_) (fun h=>?_)
   ·refine av<|zo J (bX pD hY J J)<|zo J (bh fU J J)<|zo J (bX pD hY J J)<|zo J (bh fU J J)<|zo J (fY J J)<|bo h fun r2 q_r2 h=>zo J (ap Pq (D0 _ q_r2) ⟨(ht J),aL⟩)<|bg J<|aq<|aj<|ae ?_;cases so h;exact aH J J
   ·refine df<|ah<|av<|zo J (bX jG dy J J)<|zo J (bh B6 J J)<|zo J (bX jG dy J J)<|zo J (bh B6 J J)<|zo J (Od (ht J) (ht J))<|aq<|ce h J (fun h=>?_) (fun h=>?_)
    ·refine av<|zo J (bX jG dy J J)<|zo J (bh B6 J J)<|zo J (bX jG dy J J)<|zo J (bh B6 J J)<|zo J (Oh (ht J) (ht J))<|bo h fun r3 q_r3 h=>zo J (ap Pq (D0 _ q_r3) ⟨(ht J),aL⟩)<|bg J<|aq<|aj<|ae ?_;cases so h;exact aH J J
    ·refine df<|av<|zo J (bW)<|aq<|aj ?_;cases so h;exact aH J J

theorem Vv(tag:Int){R:Int}(h:xP tag=some R):aR aU 219 [bM tag] (bM R):=by
 refine aR.of Tryz.func219 J J J fun w0 S0=>av<|zo J (bW)<|aq<|ah<|aC<|av<|aE J<|zo J (dJ (ht J) hI)<|aE J<|dD J J (fun hg=>cX J)<|dD J J (fun hg=>iz (bm J hg) hI)<|zo J (uo J J)<|bg J<|aq<|ce h J (fun h=>?_) (fun h=>?_)
 ·refine av<|zo J (bW)<|aq<|aj ?_;refine aB (ae ?_);cases so h;exact aH J J
 ·refine av<|aE J<|zo J (jZ (ht J) hI)<|bg J<|aq<|ce h J (fun h=>?_) (fun h=>?_)
  ·refine av<|zo J (bW)<|aq<|aj ?_;refine aB (ae ?_);cases so h;exact aH J J
  ·refine av<|aE J<|zo J (jZ (ht J) hI)<|bg J<|aq<|ce h J (fun h=>?_) (fun h=>?_)
   ·refine av<|zo J (bW)<|aq<|aj ?_;refine aB (ae ?_);cases so h;exact aH J J
   ·refine bA<|aw<|ax<|av<|zo rfl (bW)<|aq<|aj ?_;cases so h;exact aH J J

theorem VX(tag:Int){R:Int}(h:uC tag=some R):aR aU 138 [bM tag] (bM R):=by
 refine aR.of Tryz.func138 J J J fun w0 S0=>av<|zo J (bW)<|aq<|ah<|av<|aE J<|zo J (hM J)<|aE J<|dD J J (fun hg=>cX J)<|dD J J (fun hg=>gh (bm J hg) hI)<|dD J J (fun hg=>bJ (bm J hg))<|cG J J J J (fun hg=>cX J)<|cG J J J J (fun hg=>jZ (bm J hg) hI)<|dD J J (fun hg=>jo (bm J hg) (fun hb=>(bm J (qD hg hb))))<|zo J (uo J J)<|aq<|ce h J (fun h=>?_) (fun h=>?_)
 ·refine av<|zo J (bW)<|aq<|aj<|ae ?_;cases so h;exact aH J J
 ·refine df<|av<|aE J<|bo h fun r q_r h=>zo J (ap abB (Vv _ q_r) ⟨(ht J),aL⟩)<|bg J<|aq<|aj ?_;cases so h;exact aH J J

theorem yT(v:ac){R:Bool}(h:lw v=some R):aR aU 140 [tD af v] (hJ R):=by
 refine aR.of Tryz.func140 J J J fun w0 S0=>av<|zo J (gi J)<|zo J (jU)<|aq<|av<|zo J (bh au J J)<|bo h fun r q_r h=>zo J (ap Cz (rm _ q_r) ⟨(ht J),aL⟩)<|aE J<|co J J (fun hg=>bX cz br J J)<|co J J (fun hg=>bj cg J J (bm J hg))<|co J J (fun hg=>c9 (bm J hg) hI)<|zo J (pH J J)<|bg J<|aq<|aj ?_;cases so h;exact aH J J

theorem VW(n:bC){R:Bool}(h:lv n=some R):aR aU 139 [tD bO n] (hJ R):=by
 refine aR.of Tryz.func139 J J J fun w0 S0=>av<|zo J (gi J)<|zo J (jU)<|aq<|ah<|av<|zo J (bX mS fz J J)<|zo J (bh cg J J)<|aq<|aC<|av<|zo J (hM J)<|bg J<|aq<|ce h J (fun h=>?_) (fun h=>?_)
 ·refine av<|zo J (bX vb lP J J)<|zo J (bh au J J)<|bo h fun r q_r h=>zo J (ap Ho (yT _ q_r) ⟨(ht J),aL⟩)<|aE J<|co J J (fun hg=>bX qw iO J J)<|co J J (fun hg=>bj cg J J (bm J hg))<|co J J (fun hg=>cd (bm J hg) hI)<|zo J (pH J J)<|bg J<|aq<|aj ?_;refine aB (ae ?_);cases so h;exact aH J J
 ·refine av<|zo J (hM J)<|bg J<|aq<|ce h J (fun h=>?_) (fun h=>?_)
  ·refine av<|zo J (bX vb lP J J)<|zo J (bh au J J)<|zo J (bB (y:=d3) au gW aJ (J))<|zo J (pc Cr (ht J) (ht J))<|aE J<|co J J (fun hg=>bX qw iO J J)<|co J J (fun hg=>bj cg J J (bm J hg))<|co J J (fun hg=>gh (bm J hg) hI)<|zo J (pH J J)<|aE J<|co J J (fun hg=>bX qw iO J J)<|co J J (fun hg=>bj cg J J (bm J hg))<|co J J (fun hg=>dJ (bm J hg) hI)<|zo J (pH J J)<|bg J<|aq<|aj ?_;refine aB (ae ?_);cases so h;exact aH J J
  ·refine bA<|aw<|ax<|av<|zo rfl (bX vb lP rfl rfl)<|zo rfl (bh au rfl rfl)<|zo rfl (bB (y:=d3) au gW aJ (J))<|zo J (pc Cr (ht J) (ht J))<|aE J<|co J J (fun hg=>bX qw iO J J)<|co J J (fun hg=>bj cg J J (bm J hg))<|co J J (fun hg=>cd (bm J hg) hI)<|zo J (pH J J)<|bg J<|aq<|aj ?_;cases so h;exact aH J J

end Go.Proofs.YtfhhakidodmdfaaGreatDoor

