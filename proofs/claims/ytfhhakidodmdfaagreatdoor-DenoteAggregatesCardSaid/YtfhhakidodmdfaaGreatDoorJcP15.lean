/- di of this claim: P15. -/
import Derived.Test.YtfhhakidodmdfaaGreatDoorJcT
import Derived.Test.YtfhhakidodmdfaaGreatDoorJcP14
set_option linter.all false
namespace Go.Proofs.YtfhhakidodmdfaaGreatDoor
open Go
set_option maxRecDepth 100000

theorem UF: ∀(fu:Nat) (e:bS) (place:Int) {R:Int} (h:iI fu e place=some R),aR aU 77 [tD ck e,bM place] (bM R):=by
 intro fu
 induction fu with
 |zero=>intro e place R h;exact(nn h).elim
 |succ fu ih=>
  intro e place R h
  refine aR.of Tryz.func77 J J J fun w0 S0=>av<|zo J (gi J)<|zo J (bW)<|aq<|ah<|av<|aE J<|zo J (dJ (ht J) hI)<|aE J<|dD J J (fun hg=>cX J)<|dD J J (fun hg=>bX ku fQ J J)<|dD J J (fun hg=>bj sQ J J (bm J hg))<|dD J J (fun hg=>dK p6 (bm J hg))<|dD J J (fun hg=>gh (bm J hg) (bm J hg))<|zo J (uo J J)<|aq<|ce h J (fun h=>?_) (fun h=>?_)
  ·refine av<|zo J (bW)<|aq<|aj<|ae ?_;cases so h;exact aH J J
  ·refine df<|av<|zo J (bX ku fQ J J)<|zo J (bh sQ J J)<|aE J<|bo h fun e1 q_e1 h=>zo J (ne p6 lI J J J q_e1)<|zo J (bh lI J J)<|aP (r:=bO) (x:=JC) lI (fun _=>qa _) J fun b=>am lI J ai J (ht J) (ht J)<|aY 5 J<|aq<|av<|zo J (bX mS fz J J)<|zo J (bh cg J J)<|bo h fun r q_r h=>zo J (ap acj (VX _ q_r) ⟨(ht J),aL⟩)<|bg J<|aq ?_;refine ah<|av<|aE J<|zo J (dJ (ht J) hI)<|aE J<|bo h fun t q_t h=>dD J J (fun hg=>bh lI J J) ?_
   obtain⟨r1,h1t,h0t⟩:=og q_t
   have q_r1g:=fun hb=>(h1t hb).1
   refine dD J J (fun hg=>ap aci (VW _ (q_r1g hg)) ⟨(bm J hg),aL⟩)<|dD J J (fun hg=>cx (bm J hg))<|zo J (eO (ht J) (fun hb=>(bm J (qo hb))) (fun hb=>(h1t hb).2) h0t)<|aq<|ce h J (fun h=>?_) (fun h=>?_)
   ·refine av<|zo J (bW)<|aq<|aj<|ae ?_;cases so h;exact aH J J
   ·refine df<|ah<|av<|aE J<|zo J (hM J)<|aq<|ce h J (fun h=>?_) (fun h=>?_)
    ·refine ah<|av<|zo J (bX Fj t6 J J)<|zo J (bh cg J J)<|zo J (sx J)<|aE J<|dD J J (fun hg=>bX Co rk J J)<|dD J J (fun hg=>bj cg J J (bm J hg))<|dD J J (fun hg=>c9 (bm J hg) hI)<|zo J (uo J J)<|aq<|ce h J (fun h=>?_) (fun h=>?_)
     ·refine av<|zo J (bW)<|aq<|aj ?_;refine ae (ae ?_);cases so h;exact aH J J
     ·refine df<|av<|zo J (bW)<|aq<|aj<|ae ?_;cases so h;exact aH J J
    ·refine df<|av<|zo J (bh k5 J J)<|aE J<|zo J (ft (ht J) hI)<|bo h fun r2 q_r2 h=>zo J (ap Zq (ih _ _ q_r2) ⟨(ht J),(ht J),aL⟩)<|bg J<|aq<|ah<|av<|aE J<|zo J (hM J)<|aq<|ce h J (fun h=>?_) (fun h=>?_)
     ·refine av<|zo J (bW)<|aq<|aj<|ae ?_;cases so h;exact aH J J
     ·refine df<|ah<|av<|aE J<|zo J (hM J)<|aq<|ce h J (fun h=>?_) (fun h=>?_)
      ·refine ah<|av<|zo J (bX Fj t6 J J)<|zo J (bh cg J J)<|aE J<|zo J (ft (ht J) hI)<|zo J (c9 (ht J) (ht J))<|aE J<|dD J J (fun hg=>bX Co rk J J)<|dD J J (fun hg=>bj cg J J (bm J hg))<|dD J J (fun hg=>c9 (bm J hg) hI)<|zo J (uo J J)<|aq<|ce h J (fun h=>?_) (fun h=>?_)
       ·refine av<|zo J (bW)<|aq<|aj ?_;refine ae (ae ?_);cases so h;exact aH J J
       ·refine df<|av<|aE J<|zo J (fV (ht J) hI)<|bg J<|aq<|aj<|ae ?_;cases so h;exact aH J J
      ·refine df<|av<|zo J (bh k5 J J)<|aE J<|zo J (ft (ht J) hI)<|aE J<|zo J (ft (ht J) (ht J))<|bo h fun r3 q_r3 h=>zo J (ap Zq (ih _ _ q_r3) ⟨(ht J),(ht J),aL⟩)<|bg J<|aq<|ah<|av<|aE J<|zo J (hM J)<|aE J<|dD J J (fun hg=>bX Co rk J J)<|dD J J (fun hg=>bj cg J J (bm J hg))<|dD J J (fun hg=>cX J)<|dD J J (fun hg=>ft (bm J hg) hI) ?_;refine dD J J (fun hg=>c9 (bm J hg) (bm J hg))<|zo J (uo J J)<|aE J<|dD J J (fun hg=>bX Fj t6 J J)<|dD J J (fun hg=>bj cg J J (bm J hg))<|dD J J (fun hg=>cX J)<|dD J J (fun hg=>ft (bm J hg) hI)<|dD J J (fun hg=>cX J)<|dD J J (fun hg=>ft (bm J hg) (bm J hg))<|dD J J (fun hg=>c9 (bm J hg) (bm J hg))<|zo J (uo J J)<|aq<|ce h J (fun h=>?_) (fun h=>?_)
       ·refine av<|zo J (bW)<|aq<|aj<|ae ?_;cases so h;exact aH J J
       ·refine df<|av<|aE J<|aE J<|zo J (fV (ht J) (ht J))<|zo J (fV (ht J) hI)<|bg J<|aq<|aj ?_;cases so h;exact aH J J
theorem YM(e:bS)(place:Int){R:Int}(h:Aj e place=some R):aR aU 77 [tD ck e,bM place] (bM R):=UF ir e place h

theorem Sr(e:bS){R:Bool}(h:nX e=some R):aR aU 27 [tD ck e] (hJ R):=by
 refine aR.of Tryz.func27 J J J fun w0 S0=>av<|zo J (gi J)<|zo J (jU)<|aq<|ah<|bo h fun t q_t h=>?_
 obtain⟨r,h1t,h0t⟩:=og q_t
 have q_rg:=fun hb=>(h1t hb).1
 refine cD (ts:=[_,_,_,_,_,_,_,_,_,_,_,_,_,_,_,_,_,_,_,_,_,_,_]) mixed J J
  ⟨dB 1 J J J (bX ku fQ J J),
  ⟨bT 3 0 J J J (bh sQ J J),
  ⟨bT 4 1 J J J (jw p6 J),
  ⟨bT 5 2 J J J (gh (ht J) hI),
  ⟨bT 6 3 J J J (cX J),
  ⟨qR 1 7 4 J J J J (dC J J J J (fun hg=>bX ku fQ J J)),
  ⟨kj 8 5 7 4 J J J J (dC J J J J (fun hg=>bj sQ J J (bm J hg))),
  ⟨kj 9 6 7 4 J J J J (dC J J J J (fun hg=>dK p6 (bm J hg))),
  ⟨kj 10 7 7 4 J J J J (dC J J J J (fun hg=>jZ (bm J hg) hI)),
  ⟨cK 7 4 11 8 J J J J (pH J J),
  ⟨bT 12 9 J J J (cX J),
  ⟨qR 1 13 10 J J J J (dC J J J J (fun hg=>bh k5 J J)),
  ⟨qR 1 13 10 J J J J (dC J J J J (fun hg=>bX ku fQ J J)),
  ⟨kj 15 12 13 10 J J J J (dC J J J J (fun hg=>bj sQ J J (bm J hg))),
  ⟨kj 16 13 13 10 J J J J (dC J J J J (fun hg=>dK p6 (bm J hg))),
  ⟨kj 17 14 13 10 J J J J (dC J J J J (fun hg=>ft (bm J hg) hI)),
  ⟨uw 14 11 18 15 13 10 J J J J J (dC J J J J (fun hg=>ap Zq (YM _ _ (q_rg hg)) ⟨(bm J hg),(bm J hg),aL⟩)),
  ⟨qR 1 13 10 J J J J (dC J J J J (fun hg=>bX ku fQ J J)),
  ⟨kj 20 17 13 10 J J J J (dC J J J J (fun hg=>bj sQ J J (bm J hg))),
  ⟨kj 21 18 13 10 J J J J (dC J J J J (fun hg=>dK p6 (bm J hg))),
  ⟨uw 19 16 22 19 13 10 J J J J J (dC J J J J (fun hg=>cd (bm J hg) (bm J hg))),
  ⟨cK 13 10 23 20 J J J J (cH (ht J) (fun hb=>(bm J hb)) (fun hb=>(h1t hb).2) h0t),
  ⟨bT 24 21 J J J (rN J),
  aL⟩⟩⟩⟩⟩⟩⟩⟩⟩⟩⟩⟩⟩⟩⟩⟩⟩⟩⟩⟩⟩⟩⟩ ?_
 refine ax<|aj ?_;cases so h;exact aH J J

end Go.Proofs.YtfhhakidodmdfaaGreatDoor

