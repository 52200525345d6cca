/- cN of this claim: P12. -/
import Derived.Test.YtnmjbolollcokaaGreatDoorRaT
import Derived.Test.YtnmjbolollcokaaGreatDoorRaP11
set_option linter.all false
namespace Go.Proofs.YtnmjbolollcokaaGreatDoor
open Go
set_option maxRecDepth 100000

theorem Jd(a1:(List Int))(b:(List Int)){R:Bool}(h:kU a1 b=some R):bo aX 23 [dE a1,dE b] (eD R):=by
 refine bo.of Tryz.func23 J J J fun w0 S0=>ay<|zo J (eL)<|aw<|ae<|ay<|aG J<|zo J (fV cW J)<|aG J<|zo J (fV cW J)<|zo J (cK (ht J) (ht J))<|aw<|db h J (fun h=>?_) (fun h=>?_)
 ·refine ay<|zo J (eL)<|aw<|ap<|M ?_;cases so h;exact aU J J
 ·refine dB<|ae<|ay<|zo J (dW)<|aw<|ax<|bh (k:=0) J fun hN=>bF ?_;refine aT (dH (Z:=fun ls i=>(a1.drop i=ls)∧gn b ls i=some R) (Of:=fun _ i=>[]) (Gf:=fun _ i=>[(0,dE a1),(1,dE b),(5,bK (i:Int))]) (fun i h=>?_) (fun e tl ih i h=>?_) a1 0 ⟨J,h⟩) (bn J)
  ·obtain⟨hx,h⟩:=h
   refine aA<|ae<|ay<|aG J<|aG J<|zo J (fV cW J)<|zo J (em J J)<|aw<|bz (ht J) (da hx)<|bk ?_;refine ac (ac (aM ?_));refine aq<|ay<|zo rfl (eL)<|aw<|ap ?_;cases so h;exact aU J J
  ·obtain⟨hx,h⟩:=h
   refine aA<|ae<|ay<|aG J<|aG J<|zo J (fV cW J)<|zo J (em J J)<|aw<|bw (ht J) (c9 hx)<|dB<|ae<|ax<|ae<|bG h fun e1 q_e1 h=>?_
   refine ec (ts:=[_,_,_,_,_,_,_,_,_]) mixed J J
    ⟨dT 0 J J J (cn J),
    ⟨dT 5 J J J (cn J),
    ⟨dL 17 0 18 1 J J J J (jA cW bD J J J (cV hx)),
    ⟨cP 19 2 J J J (bq bD J J),
    ⟨dT 1 J J J (cn J),
    ⟨dT 5 J J J (cn J),
    ⟨dL 21 4 22 5 J J J J (jA cW bD J J J q_e1),
    ⟨cP 23 6 J J J (bq bD J J),
    ⟨dL 20 3 24 7 J J J J (cK (ht J) (ht J)),
    aV⟩⟩⟩⟩⟩⟩⟩⟩⟩ ?_
   refine aq<|db h rfl (fun h=>?_) (fun h=>?_)
   ·refine ay<|zo J (eL)<|aw<|ap ?_;refine aH (M (M (aH (M ?_))));cases so h;exact aU J J
   ·refine bE<|an<|aq<|am<|aG rfl<|zo rfl (jY (cG hx hN) rfl)<|bB rfl<|aQ ?_;exact bf (aT (ih (i+1) ⟨cF hx,h⟩) (bn J))

theorem Ku(p:bI)(w1:uu){R:Bool}(h:mq p w1=some R):bo aX 6 [tD br p,tD qk w1] (eD R):=by
 refine bo.of Tryz.func6 J J J fun w0 S0=>ay<|zo J (gP J)<|zo J (gP J)<|zo J (eL)<|aw<|ae<|ay<|bG h fun r q_r h=>zo J (aF cb8 (Kp q_r) trivial)<|zo J (dy (ht J))<|aw<|db h J (fun h=>?_) (fun h=>?_)
 ·refine ay<|zo J (eL)<|aw<|ap<|M ?_;cases so h;exact aU J J
 ·refine dB<|ae<|ay<|zo J (bq fT J J)<|bG h fun r1 q_r1 h=>zo J (aF MY (Jg _ q_r1) ⟨(ht J),aV⟩)<|aw<|db h J (fun h=>?_) (fun h=>?_)
  ·refine ay<|zo J (eL)<|aw<|ap<|M ?_;cases so h;exact aU J J
  ·refine dB<|ay<|zo J (bq fT J J)<|zo J (cc ow gJ J J)<|zo J (bq bD J J)<|bG h fun r2 q_r2 h=>zo J (aF M0 (Jp _ _ q_r2) ⟨(ht J),(ht J),aV⟩)<|aG J<|zo J (jf J J)<|zo J (jf J J)<|bB J<|bB J<|aw<|ay<|zo J (bq fT J J)<|zo J (cc ow gJ J J)<|zo J (bq bD J J)<|zo J (cc ov gI J J)<|zo J (bq bD J J)<|bG h fun r3 q_r3 h=>?_;refine zo J (aF MZ (Jh _ _ _ q_r3) ⟨(ht J),(ht J),(ht J),aV⟩)<|aG J<|zo J (jf J J)<|zo J (jf J J)<|bB J<|bB J<|aw<|ay<|zo J (bq fT J J)<|zo J (cc ov gI J J)<|zo J (bq bD J J)<|bG h fun r4 q_r4 h=>zo J (aF Lp (Fo _ _ q_r4) ⟨(ht J),(ht J),aV⟩)<|aG J<|zo J (jf J J)<|zo J (jf J J)<|bB J<|bB J<|aw<|ay ?_;refine zo J (bq fT J J)<|zo J (cc ow gJ J J)<|zo J (bq bD J J)<|zo J (cc ov gI J J)<|zo J (bq bD J J)<|zo J (cc wt nc J J)<|zo J (bq bD J J)<|bG h fun r5 q_r5 h=>zo J (aF MW (Je _ _ _ _ q_r5) ⟨(ht J),(ht J),(ht J),(ht J),aV⟩)<|aG J<|zo J (jf J J)<|zo J (jf J J)<|bB J<|bB J<|aw<|ay<|zo J (bq fT J J)<|zo J (cc ow gJ J J)<|zo J (bq bD J J)<|zo J (cc ov gI J J)<|zo J (bq bD J J)<|zo J (cc wt nc J J) ?_;refine zo J (bq bD J J)<|bG h fun r6 q_r6 h=>zo J (aF MX (Jf _ _ _ _ q_r6) ⟨(ht J),(ht J),(ht J),(ht J),aV⟩)<|aG J<|zo J (jf J J)<|zo J (jf J J)<|bB J<|bB J<|aw<|ay<|zo J (cc eC dF J J)<|zo J (bq lk J J)<|zo J (fV jX J)<|zo J (dm (ht J) hI)<|aG J<|cb J J (fun hg=>cc eC dF J J)<|cb J J (fun hg=>be lk J J (bc J hg))<|cb J J (fun hg=>bY jX (bc J hg))<|cb J J (fun hg=>io (bc J hg) hI)<|zo J (kG J J)<|bB J<|aQ ?_;refine aq<|ae ?_
   refine ec (ts:=[_,_,_,_,_,_,_,_,_,_,_,_,_,_,_,_,_,_,_,_,_,_,_,_,_,_,_]) mixed J J
    ⟨dT 15 J J J (cn J),
    ⟨cP 77 0 J J J (cn J),
    ⟨nz 3 78 1 J J J J (dg J J J J (fun hg=>cc ow gJ J J)),
    ⟨ie 79 2 78 1 J J J J (dg J J J J (fun hg=>be bD J J (bc J hg))),
    ⟨ie 80 3 78 1 J J J J (dg J J J J (fun hg=>dm (bc J hg) hI)),
    ⟨dL 78 1 81 4 J J J J (kG J J),
    ⟨cP 82 5 J J J (cn J),
    ⟨nz 3 83 6 J J J J (dg J J J J (fun hg=>cc ow gJ J J)),
    ⟨ie 84 7 83 6 J J J J (dg J J J J (fun hg=>be bD J J (bc J hg))),
    ⟨nz 2 83 6 J J J J (dg J J J J (fun hg=>cc eC dF J J)),
    ⟨ie 86 9 83 6 J J J J (dg J J J J (fun hg=>be lk J J (bc J hg))),
    ⟨ie 87 10 83 6 J J J J (dg J J J J (fun hg=>bY jX (bc J hg))),
    ⟨rs 85 8 88 11 83 6 J J J J J (dg J J J J (fun hg=>eg (bc J hg) (bc J hg))),
    ⟨dL 83 6 89 12 J J J J (kG J J),
    ⟨dT 15 J J J (cn J),
    ⟨cP 91 14 J J J (cn J),
    ⟨nz 3 92 15 J J J J (dg J J J J (fun hg=>cc ov gI J J)),
    ⟨ie 93 16 92 15 J J J J (dg J J J J (fun hg=>be bD J J (bc J hg))),
    ⟨ie 94 17 92 15 J J J J (dg J J J J (fun hg=>dm (bc J hg) hI)),
    ⟨dL 92 15 95 18 J J J J (kG J J),
    ⟨cP 96 19 J J J (cn J),
    ⟨nz 3 97 20 J J J J (dg J J J J (fun hg=>cc ov gI J J)),
    ⟨ie 98 21 97 20 J J J J (dg J J J J (fun hg=>be bD J J (bc J hg))),
    ⟨ie 99 22 97 20 J J J J (dg J J J J (fun hg=>io (bc J hg) hI)),
    ⟨dL 97 20 100 23 J J J J (kG J J),
    ⟨cP 90 13 J J J (tK J),
    ⟨cP 101 24 J J J (tK J),
    aV⟩⟩⟩⟩⟩⟩⟩⟩⟩⟩⟩⟩⟩⟩⟩⟩⟩⟩⟩⟩⟩⟩⟩⟩⟩⟩⟩ ?_
   refine aq<|ae<|ay<|aG rfl<|zo rfl (dy (ht rfl))<|aG rfl<|cb rfl rfl (fun hg=>cn J)<|cb J J (fun hg=>cK (bc J hg) hI)<|cb J J (fun hg=>bv (bc J hg))<|cH J J J J (fun hg=>cn J)<|cH J J J J (fun hg=>cK (bc J hg) hI)<|cb J J (fun hg=>lA (bc J hg) (fun hb=>(bc J (nC hg (mj hb)))))<|zo J (kG J J)<|aG J<|bG h fun t q_t h=>cR J J (fun hg=>cn J)<|cR J J (fun hg=>bv (bc J hg)) ?_
   obtain⟨t1,h1t,h0t⟩:=og q_t
   have q_t1g:=fun hb=>(h1t hb).1
   refine dk J J J J (fun hg=>cn J)<|dk J J J J (fun hg=>cK (bc J hg) hI)<|dk J J J J (fun hg=>bv (bc J hg)) ?_
   obtain⟨t2,h1t1,h0t1⟩:=Kd q_t1g
   have q_t2g:=fun hb=>(h1t1 hb).1
   refine cH J J J J (fun hg=>cn J)<|cH J J J J (fun hg=>bq fT J J)<|cH J J J J (fun hg=>cc ow gJ J J)<|cH J J J J (fun hg=>be bD J J (bc J hg)) ?_
   obtain⟨r7,h1t2,h0t2⟩:=Kd q_t2g
   have q_r7g:=fun hb=>(h1t2 hb).1
   refine cH J J J J (fun hg=>aF Lf (Fm _ _ (q_r7g hg)) ⟨(bc J hg),(bc J hg),aV⟩)<|cH J J J J (fun hg=>cK (bc J hg) (bc J hg))<|dk J J J J (fun hg=>dx (bc J hg) (fun hb=>(bc J (nC hg (mj hb)))) (fun hb=>(h1t2 (nC hg hb)).2) (fun hb=>h0t2 hg hb))<|cR J J (fun hg=>dj (bc J hg) (fun hb=>(bc J (nC hg hb))) (fun hb=>(h1t1 (nC hg hb)).2) (fun hb=>h0t1 hg hb))<|zo J (dx (ht J) (fun hb=>(bc J (mj hb))) (fun hb=>(h1t hb).2) h0t)<|aw<|db h J (fun h=>?_) (fun h=>?_)
   ·refine ay<|zo J (eL)<|aw<|ap<|M ?_;cases so h;exact aU J J
   ·refine dB<|ae<|ay<|aG J<|zo J (dy (ht J))<|aG J<|cb J J (fun hg=>cn J)<|cb J J (fun hg=>bY rP (bc J hg))<|cb J J (fun hg=>cK (bc J hg) hI)<|cb J J (fun hg=>bv (bc J hg))<|cH J J J J (fun hg=>cn J)<|cH J J J J (fun hg=>cK (bc J hg) hI)<|cb J J (fun hg=>lA (bc J hg) (fun hb=>(bc J (nC hg (mj hb)))))<|zo J (kG J J)<|aG J<|bG h fun t3 q_t3 h=>cR J J (fun hg=>cn J)<|cR J J (fun hg=>bv (bc J hg)) ?_
    obtain⟨t4,h1t3,h0t3⟩:=og q_t3
    have q_t4g:=fun hb=>(h1t3 hb).1
    refine dk J J J J (fun hg=>cn J)<|dk J J J J (fun hg=>cK (bc J hg) hI)<|dk J J J J (fun hg=>bv (bc J hg)) ?_
    obtain⟨t5,h1t4,h0t4⟩:=Kd q_t4g
    have q_t5g:=fun hb=>(h1t4 hb).1
    refine cH J J J J (fun hg=>cn J)<|cH J J J J (fun hg=>bq fT J J)<|cH J J J J (fun hg=>cc ov gI J J)<|cH J J J J (fun hg=>be bD J J (bc J hg))<|cH J J J J (fun hg=>cr (y:=(⟨kM,kM,kM⟩:aN)) p9 Fa mN (⟨_,_,_,_,_,J,lZ,J,hI,⟨_,_,_,_,_,J,lY,J,hI,⟨_,_,_,_,_,J,lX,J,hI,J⟩⟩⟩)) ?_
    obtain⟨r8,h1t5,h0t5⟩:=Kd q_t5g
    have q_r8g:=fun hb=>(h1t5 hb).1
    refine cH J J J J (fun hg=>aF JF (Fl _ _ _ _ (q_r8g hg)) ⟨(bc J hg),(bc J hg),(bc J hg),hI,aV⟩) ?_
    obtain⟨r9,h1t5⟩:=Gr (fun hb=>(h1t5 hb).2)
    have q_r9g:=fun hb=>(h1t5 hb).1
    refine cH J J J J (fun hg=>aF JG (B9 _ _ (q_r9g hg)) ⟨(bc J hg),(bc J hg),aV⟩)<|cH J J J J (fun hg=>dy (bc J hg))<|dk J J J J (fun hg=>dx (bc J hg) (fun hb=>(bc J (nC hg (mj hb)))) (fun hb=>(h1t5 (nC hg hb)).2) (fun hb=>h0t5 hg hb))<|cR J J (fun hg=>dj (bc J hg) (fun hb=>(bc J (nC hg hb))) (fun hb=>(h1t4 (nC hg hb)).2) (fun hb=>h0t4 hg hb))<|zo J (dx (ht J) (fun hb=>(bc J (mj hb))) (fun hb=>(h1t3 hb).2) h0t3)<|aw<|db h J (fun h=>?_) (fun h=>?_)
    ·refine ay<|zo J (eL)<|aw<|ap<|M ?_;cases so h;exact aU J J
    ·refine dB<|ae<|ay<|aG J<|zo J (dy (ht J))<|aG J<|cR J J (fun hg=>cn J)<|cR J J (fun hg=>dy (bc J hg))<|zo J (oB J J)<|aw<|db h J (fun h=>?_) (fun h=>?_)
     ·refine ay<|aG J<|zo J (fV cW J)<|zo J (jS J)<|aG J<|cb J J (fun hg=>cn J)<|cb J J (fun hg=>bW (bc J hg) hI)<|zo J (kG J J)<|aG J<|cb J J (fun hg=>cn J)<|cb J J (fun hg=>bY rP (bc J hg))<|cb J J (fun hg=>bW (bc J hg) hI)<|zo J (kG J J)<|aG J<|cb J J (fun hg=>cn J)<|cb J J (fun hg=>bW (bc J hg) hI)<|zo J (kG J J)<|aG J<|cb J J (fun hg=>cn J)<|cb J J (fun hg=>bY rP (bc J hg))<|cb J J (fun hg=>bW (bc J hg) hI)<|zo J (kG J J)<|aG J ?_;refine cb J J (fun hg=>cn J)<|cb J J (fun hg=>bW (bc J hg) hI)<|zo J (kG J J)<|bB J<|aw<|ap<|M ?_;cases so h;exact aU J J
     ·refine dB<|ae<|ay<|aG J<|zo J (zQ J)<|aG J<|cR J J (fun hg=>cn J)<|cR J J (fun hg=>cK (bc J hg) hI)<|zo J (oB J J)<|aG J<|cR J J (fun hg=>cn J)<|cR J J (fun hg=>cK (bc J hg) hI)<|zo J (oB J J)<|aG J<|bG h fun t6 q_t6 h=>cR J J (fun hg=>cn J)<|cR J J (fun hg=>bq fT J J)<|cR J J (fun hg=>cc ow gJ J J)<|cR J J (fun hg=>be bD J J (bc J hg))<|cR J J (fun hg=>cc ov gI J J)<|cR J J (fun hg=>be bD J J (bc J hg)) ?_
      obtain⟨r10,h1t6,h0t6⟩:=og q_t6
      have q_r10g:=fun hb=>(h1t6 hb).1
      refine cR J J (fun hg=>aF JE (B8 _ _ _ (q_r10g hg)) ⟨(bc J hg),(bc J hg),(bc J hg),aV⟩) ?_
      obtain⟨r11,h1t6⟩:=Gr (fun hb=>(h1t6 hb).2)
      have q_r11g:=fun hb=>(h1t6 hb).1
      refine cR J J (fun hg=>aF MU (Jd _ _ (q_r11g hg)) ⟨(bc J hg),(bc J hg),aV⟩)<|cR J J (fun hg=>dy (bc J hg))<|zo J (dx (ht J) (fun hb=>(bc J (mj hb))) (fun hb=>(h1t6 hb).2) h0t6)<|aw<|db h J (fun h=>?_) (fun h=>?_)
      ·refine ay<|zo J (eL)<|aw<|ap<|M ?_;cases so h;exact aU J J
      ·refine dB<|ae<|ay<|zo J (cc wt nc J J)<|zo J (bq bD J J)<|zo J (eg (ht J) hI)<|aw<|db h J (fun h=>?_) (fun h=>?_)
       ·refine ay<|aG J<|zo J (fV rP J)<|zo J (jS J)<|aG J<|cb J J (fun hg=>cn J)<|cb J J (fun hg=>bY rP (bc J hg))<|cb J J (fun hg=>bW (bc J hg) hI)<|zo J (kG J J)<|bB J<|aw<|ap<|M ?_;cases so h;exact aU J J
       ·refine dB<|ay<|aG J<|zo J (bq fT J J)<|zo J (cc ov gI J J)<|zo J (bq bD J J)<|zo J (cc wt nc J J)<|zo J (bq bD J J)<|zo J (cr (y:=(⟨kM,kM,w1.Node⟩:aN)) p9 Fa mN (⟨_,_,_,_,_,J,lZ,J,hI,⟨_,_,_,_,_,J,lY,J,hI,⟨_,_,_,_,_,J,lX,J,(ht J),J⟩⟩⟩))<|zo J (cc ow gJ J J)<|zo J (bq bD J J)<|bG h fun r12 q_r12 h=>hY JF (CP _ _ _ _ q_r12) ⟨(ht J),(ht J),(ht J),(ht J),aV⟩ J fun l c=>lK<|oL 227 J<|bG h fun r13 q_r13 h=>zo J (aF JG (B9 _ _ q_r13) ⟨(ht J),(iR (ht J)),aV⟩)<|aG J<|bG h fun t7 q_t7 h=>cb J J (fun hg=>cn J)<|cb J J (fun hg=>bq fT J J)<|cb J J (fun hg=>cc ov gI J J) ?_;refine cb J J (fun hg=>be bD J J (bc J hg))<|cb J J (fun hg=>cc ow gJ J J)<|cb J J (fun hg=>be bD J J (bc J hg))<|cb J J (fun hg=>cc wt nc J J)<|cb J J (fun hg=>be bD J J (bc J hg))<|cb J J (fun hg=>cr (y:=(⟨w1.Frag,w1.Node,kM⟩:aN)) p9 Fa mN (⟨_,_,_,_,_,J,lZ,J,(bc J hg),⟨_,_,_,_,_,J,lY,J,(bc J hg),⟨_,_,_,_,_,J,lX,J,hI,J⟩⟩⟩)) ?_
        obtain⟨r14,h1t7,h0t7⟩:=og q_t7
        have q_r14g:=fun hb=>(h1t7 hb).1
        refine cb J J (fun hg=>aF JF (Fl _ _ _ _ (q_r14g hg)) ⟨(bc J hg),(bc J hg),(bc J hg),hI,aV⟩) ?_
        obtain⟨r15,h1t7⟩:=Gr (fun hb=>(h1t7 hb).2)
        have q_r15g:=fun hb=>(h1t7 hb).1
        refine cb J J (fun hg=>aF JG (B9 _ _ (q_r15g hg)) ⟨(bc J hg),(bc J hg),aV⟩)<|zo J (dj (ht J) (fun hb=>(bc J hb)) (fun hb=>(h1t7 hb).2) h0t7)<|bB J<|aw<|ap<|ba ?_;cases so h;exact aU J J

end Go.Proofs.YtnmjbolollcokaaGreatDoor

