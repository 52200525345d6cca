/- eJ of this claim: P14. -/
import Derived.Test.YtpgjgkdpeagjbaaGreatDoorJaT
import Derived.Test.YtpgjgkdpeagjbaaGreatDoorJaP13
set_option linter.all false
namespace Go.Proofs.YtpgjgkdpeagjbaaGreatDoor
open Go
set_option maxRecDepth 100000

def ach r{R}(h:xb r=some R):bY aU 34 [cr (ae) r] (gM R):=by
 refine co Tryz.func34 J<|Z<|ca<|bB<|aE<|Q J<|ck nD J<|T (dy (Y J) hI)<|bE h J (fun h=>?_) (fun h=>?_)
 ·exact Z<|ca<|cK<|af<|so h▸av J J
 ·refine dZ<|aE<|bh<|bB<|am<|aZ (k:=0) J fun hN=>bA ?_;refine aD (eI (aF:=fun ls i=>(r.drop i=ls)/\qn ls=some R) (Of:=fun _ i=>[]) (Gf:=fun _ i=>[(0,cr (ae) r),(3,bD (i:Int))]) (fun i h=>?_) (fun e tl ih i h=>?_) r 0 ⟨J,h⟩) (bf J)
  ·obtain⟨V,h⟩:=h
   exact pW nD V J<|ap<|Z<|ca<|cK<|so h▸av J J
  ·obtain⟨V,h⟩:=h
   refine pV nD V J<|aA<|am<|ax J<|Q J<|cW nD an J (cD V)<|bS h Er (ta _) (bj J) fun r1 h=>T (dY (Y J)) ?_;refine bE h J (fun h=>?_) (fun h=>?_)
   ·exact Z<|ca<|cK<|bT<|af<|bT<|so h▸av J J
   ·refine bc<|lH V hN J ?_;exact aR (aD (ih (i+1) ⟨cH V,h⟩) (bf J))

def acF l{R}(h:AA l=some R):bY aU 10 [cr (cu) l] (bD R):=by
 refine co Tryz.func10 J<|Z<|bh<|bB<|aE<|bh<|bB<|am<|aZ (k:=0) J fun hN=>bA ?_;refine aD (eI (aF:=fun ls i=>(l.drop i=ls)/\nS l ls=some R) (Of:=fun _ i=>[]) (Gf:=fun _ i=>[(0,cr (cu) l),(3,bD (i:Int))]) (fun i h=>?_) (fun e tl ih i h=>?_) l 0 ⟨J,h⟩) (bf J)
 ·obtain⟨V,h⟩:=h
  refine pW eK V J<|ap<|aE<|Q J<|ck eK J<|T (dy (Y J) hI)<|bB ?_;refine gp h J (fun h=>?_) (fun h=>?_)
  ·exact Z<|cd<|af<|so h▸av J J
  ·exact dZ<|Z<|cd<|so h▸av J J
 ·obtain⟨V,h⟩:=h
  refine pV eK V J<|aA<|am<|ax J<|Q J<|cW eK cP J (cD V)<|bS h agU (ach _) (bj J) fun r h=>T (dY (Y J)) ?_;refine bE h J (fun h=>?_) (fun h=>?_)
  ·exact Z<|cd<|bT<|af<|bT<|so h▸av J J
  ·refine bc<|lH V hN J ?_;exact aR (aD (ih (i+1) ⟨cH V,h⟩) (bf J))

def Iq less{R}(h:nl less=some R):bY aU 59 [gM less] (bD R):=by
 refine co Tryz.func59 J<|Z<|bh<|bB<|aE<|Q J<|bE h J (fun h=>?_) (fun h=>?_)
 ·exact Z<|cd<|af<|so h▸av J J
 ·exact dZ<|Z<|cd<|so h▸av J J

def Mp a1 b{R}(h:mZ a1 b=some R):bY aU 58 [tD ae a1,tD ae b] (bD R):=by
 refine co Tryz.func58 J<|Z<|bO J<|bO J<|bh<|bB<|aE<|bg cY bC cj J<|bg cY bC cj J<|T (d6 (Y J) (Y J))<|bE h J (fun h=>?_) (fun h=>?_)
 ·exact Z<|bg cY bC cj J<|bg cY bC cj J<|kw J<|bS h Wf (Iq _) (bj J) fun r h=>aM J<|af<|so h▸av J J
 ·refine dZ<|aE<|bg fC cE wd J<|bg fC cE wd J<|T (d6 (Y J) (Y J))<|bE h J (fun h=>?_) (fun h=>?_)
  ·exact Z<|bg fC cE wd J<|bg fC cE wd J<|kw J<|bS h Wf (Iq _) (bj J) fun r1 h=>aM J<|af<|so h▸av J J
  ·refine dZ<|aE<|bg rY jo hU J<|bg rY jo hU J<|T (d6 (Y J) (Y J))<|bE h J (fun h=>?_) (fun h=>?_)
   ·exact Z<|bg rY jo hU J<|bg rY jo hU J<|kw J<|bS h Wf (Iq _) (bj J) fun r2 h=>aM J<|af<|so h▸av J J
   ·refine dZ<|aE<|bg k7 eH EL J<|bg k7 eH EL J<|T (RE (Y J) (Y J))<|bE h J (fun h=>?_) (fun h=>?_)
    ·exact Z<|bg k7 eH EL J<|bg k7 eH EL J<|T (RH (Y J) (Y J))<|bS h Wf (Iq _) (bj J) fun r3 h=>aM J<|af<|so h▸av J J
    ·exact dZ<|Z<|cd<|so h▸av J J

def Is a1 b{R}(h:mg a1 b=some R):bY aU 35 [cr (ae) a1,cr (ae) b] (bD R):=by
 refine co Tryz.func35 J<|Z<|bh<|bB<|aE<|bh<|bB<|am<|bA ?_;refine aD (zB (aF:=fun n i=>nT a1 b n i=some R) (Of:=fun i=>[]) (Gf:=fun i=>[(0,cr (ae) a1),(1,cr (ae) b),(5,bD i)]) (fun i h=>nn h) (fun n ih i h=>?_) fm (0:Int) h) (bf J);refine cU<|aE<|Q J<|Q J<|ck nD J<|kw J<|Q J<|aw J (cG J)<|aw J (cG J)<|aw J (jJ nD J)<|aw J (fun H=>du (bG J H) (bG J H))<|dv J<|bE h J (fun h=>?_) (fun h=>?_)
 ·refine dZ<|aA<|am<|aA<|ci h fun e q_e h=>ci h fun e1 q_e1 h=>ci h fun r q_r h=>?_
  refine iQ (ts:=[_,_,_,_,_,_,_,_,_,_]) mixed J J
   ⟨dc J J,
   ⟨dc J J,
   ⟨cM 19 0 20 1 J J J (zW nD an J J J q_e),
   ⟨dh 2 an J J,
   ⟨dc J J,
   ⟨dc J J,
   ⟨cM 23 4 24 5 J J J (zW nD an J J J q_e1),
   ⟨dh 6 an J J,
   ⟨cM 22 3 26 7 J J J (bo ZE (Mp _ _ q_r) ⟨(Y J),(Y J),O⟩),
   ⟨cT 27 8 J J (sE J),
   O⟩⟩⟩⟩⟩⟩⟩⟩⟩⟩ ?_
  refine ap<|ax J<|eN J<|bE h J (fun h=>?_) (fun h=>?_)
  ·exact ax J<|aM J<|bT<|af<|bT<|so h▸av J J
  ·refine bc<|ay<|ap<|au<|Q J<|T (eG (Y J) hI)<|dC J<|aY ?_;exact aR (aD (ih (IntKind.i64.wrap (i+(1:Int))) h) (bf J))
 ·refine d7<|aH<|aH<|cF<|ap<|aE<|Q J<|ck nD J<|Q J<|ck nD J<|T (iK (Y J) (Y J))<|bE h J (fun h=>?_) (fun h=>?_)
  ·exact Z<|cd<|af<|so h▸av J J
  ·exact dZ<|ax J<|ck nD J<|Q J<|ck nD J<|kw J<|bS h Wf (Iq _) (bj J) fun r1 h=>aM J<|so h▸av J J

def VU a1 b{R}(h:wn a1 b=some R):bY aU 11 [cr (cu) a1,cr (cu) b] (gM R):=by
 refine co Tryz.func11 J<|Z<|ca<|bB<|aE<|Q J<|ck eK J<|Q J<|ck eK J<|T (d6 (Y J) (Y J))<|bE h J (fun h=>?_) (fun h=>?_)
 ·exact Z<|ca<|cK<|af<|so h▸av J J
 ·refine dZ<|aE<|bh<|bB<|am<|aZ (k:=0) J fun hN=>bA ?_;refine aD (eI (aF:=fun ls i=>(a1.drop i=ls)/\rj b ls i=some R) (Of:=fun _ i=>[]) (Gf:=fun _ i=>[(0,cr (cu) a1),(1,cr (cu) b),(5,bD (i:Int))]) (fun i h=>?_) (fun e tl ih i h=>?_) a1 0 ⟨J,h⟩) (bf J)
  ·obtain⟨V,h⟩:=h
   exact pW eK V J<|ap<|Z<|ca<|cK<|so h▸av J J
  ·obtain⟨V,h⟩:=h
   refine pV eK V J<|aA<|am<|aA<|ci h fun e1 q_e1 h=>ci h fun r q_r h=>?_
   refine iQ (ts:=[_,_,_,_,_,_,_,_,_,_]) mixed J J
    ⟨dc J J,
    ⟨dc J J,
    ⟨cM 17 0 18 1 J J J (zW eK cP J J J (cD V)),
    ⟨dh 2 cP J J,
    ⟨dc J J,
    ⟨dc J J,
    ⟨cM 21 4 22 5 J J J (zW eK cP J J J q_e1),
    ⟨dh 6 cP J J,
    ⟨cM 20 3 24 7 J J J (bo Wi (Is _ _ q_r) ⟨(Y J),(Y J),O⟩),
    ⟨cT 25 8 J J (zni J),
    O⟩⟩⟩⟩⟩⟩⟩⟩⟩⟩ ?_
   refine ap<|gp h J (fun h=>?_) (fun h=>?_)
   ·exact Z<|ca<|cK<|bT<|af<|bT<|so h▸av J J
   ·refine bc<|lH V hN J ?_;exact aR (aD (ih (i+1) ⟨cH V,h⟩) (bf J))

def Zs op{R}(h:w9 op=some R):bY aU 107 [bD op] (bD R):=by
 refine co Tryz.func107 J<|Z<|bh<|bB<|aE<|Q J<|bB<|am<|Z<|bP J<|aC J<|gp h J (fun h=>?_) (fun h=>?_)
 ·exact Z<|cd<|bT<|so h▸av J J
 ·refine fi (aF:=fun x=>sT op x=some R) (Of:=fun x=>[]) (Gf:=fun x=>[(3,bD op),(6,gM x)]) (fun x h=>?_) (fun h2=>?_)
  ·skip
   refine gp h J (fun h=>?_) (fun h=>?_)
   ·exact Z<|cd<|bT<|so h▸av J J
   ·refine fi (aF:=fun x1=>mD x1=some R) (Of:=fun x1=>[]) (Gf:=fun x1=>[(9,gM x1)]) (fun x1 h=>?_) (fun K1=>?_)
    ·skip
     refine gp h J (fun h=>?_) (fun h=>?_)
     ·exact Z<|cd<|bT<|so h▸av J J
     ·exact bc<|ay<|ap<|Z<|cd<|so h▸av J J
    ·skip
     refine Z<|bP J<|aC J<|gp h J (fun h=>?_) (fun h=>?_)
     ·refine bc ?_;exact ce (K1 (op==(3:Int)) h) (bf J)
     ·refine Z<|bP J<|aC J<|gp h J (fun h=>?_) (fun h=>?_)
      ·refine bc ?_;exact ce (K1 (op==(4:Int)) h) (bf J)
      ·refine Z<|bP J<|aC J<|gp h J (fun h=>?_) (fun h=>?_)
       ·refine bc ?_;exact ce (K1 (op==(5:Int)) h) (bf J)
       ·refine Z<|bP J<|aC J<|gp h J (fun h=>?_) (fun h=>?_)
        ·refine bc ?_;exact ce (K1 (op==(6:Int)) h) (bf J)
        ·refine au<|bP J<|dC J<|aY ?_;exact ce (K1 (op==(8:Int)) h) (bf J)
  ·skip
   refine Z<|bP J<|aC J<|gp h J (fun h=>?_) (fun h=>?_)
   ·refine bc ?_;exact ce (h2 (op==(2:Int)) h) (bf J)
   ·refine au<|bP J<|dC J<|aY ?_;exact ce (h2 (op==(7:Int)) h) (bf J)

def X7: ∀(fu:Nat) (l:cC) (at1:Int) {R:Int} (h:cR fu l at1=some R),bY aU 60 [tD cX l,bD at1] (bD R):=by
 intro fu
 induction fu with
 |zero=>intro l at1 R h;exact(nn h).elim
 |succ fu ih=>
  intro l at1 R h
  refine co Tryz.func60 J<|Z<|bO J<|bh<|bB<|aE<|Q J<|T (du (Y J) hI)<|Q J<|aO J (cG J)<|aO J (cZ mM gi J J)<|aO J (cN wR J J)<|aO J (jJ tm J)<|aO J (fun H=>eF (bG J H) (bG J H))<|fj J<|bE h J (fun h=>?_) (fun h=>?_)
  ·exact Z<|cd<|af<|so h▸av J J
  ·refine dZ<|Z<|bg mM gi wR J<|Q J<|ci h fun e q_e h=>cW tm iE J q_e<|aQ iE mS J fun b=>be iE ah J<|aV 5 J<|bB<|aE<|bg oN gJ cj J<|bS h afL (Zs _) (bj J) fun r h=>bB ?_;refine am<|Z<|bP J<|aC J<|gp h J (fun h=>?_) (fun h=>?_)
   ·refine Z<|bg iO de cj J<|bP J<|Q J<|aw J (cZ mL fW J J)<|aw J (cN cj J J)<|aw J (fV J)<|dv J<|bE h J (fun h=>?_) (fun h=>?_)
    ·exact Z<|cd<|bT<|so h▸av J J
    ·exact bc<|ay<|ap<|Z<|cd<|so h▸av J J
   ·refine Z<|bP J<|aC J<|gp h J (fun h=>?_) (fun h=>?_)
    ·refine Z<|bg iO de cj J<|Q J<|T (dX (Y J) hI)<|T (iK (Y J) (Y J))<|Q J<|aw J (cZ mL fW J J)<|aw J (cN cj J J)<|aw J (fV J)<|dv J<|bE h J (fun h=>?_) (fun h=>?_)
     ·refine Z<|bn ny J<|bg iO de cj J<|bS h We (ih _ _) (bj J) fun r1 h=>aC J<|ax J<|T (dy (Y J) hI)<|bE h J (fun h=>?_) (fun h=>?_)
      ·exact ax J<|T (eG (Y J) hI)<|aM J<|bT<|so h▸av J J
      ·exact bc<|ay<|ap<|Z<|cd<|so h▸av J J
     ·exact bc<|ay<|ap<|Z<|cd<|so h▸av J J
    ·refine Z<|bP J<|aC J<|gp h J (fun h=>?_) (fun h=>?_)
     ·refine Z<|bg mL fW cj J<|Q J<|T (dX (Y J) hI)<|T (iK (Y J) (Y J))<|bE h J (fun h=>?_) (fun h=>?_)
      ·refine Z<|bn ny J<|bg mL fW cj J<|bS h We (ih _ _) (bj J) fun r2 h=>aC J<|ax J<|T (dy (Y J) hI)<|Q J<|aw J (cZ iO de J J)<|aw J (cN cj J J)<|aw J (cZ mL fW J J)<|aw J (cN cj J J)<|aw J (cG J)<|aw J (fun H=>dX (bG J H) (bG J H))<|aw J (fun H=>iK (bG J H) (bG J H))<|dv J<|aY ?_;refine ap<|gp h J (fun h=>?_) (fun h=>?_)
       ·refine Z<|bn ny J<|bg iO de cj J<|bS h We (ih _ _) (bj J) fun r3 h=>aC J<|ax J<|T (dy (Y J) hI)<|bE h J (fun h=>?_) (fun h=>?_)
        ·exact ax J<|Q J<|T (eG (Y J) (Y J))<|T (eG (Y J) hI)<|aM J<|bT<|so h▸av J J
        ·exact bc<|ay<|ap<|Z<|cd<|so h▸av J J
       ·exact bc<|ay<|ap<|Z<|cd<|so h▸av J J
      ·exact bc<|ay<|ap<|Z<|cd<|so h▸av J J
     ·exact bc<|ay<|ap<|Z<|cd<|so h▸av J J
def VK l at1{R}(h:lx l at1=some R):bY aU 60 [tD cX l,bD at1] (bD R):=X7 fm l at1 h

def ab6 n{R}(h:vP n=some R):bY aU 61 [tD aW n] (gM R):=by
 refine co Tryz.func61 J<|Z<|bO J<|ca<|bB<|aE<|bg oN gJ cj J<|eN J<|Q J<|aw J (cZ qX jp J J)<|aw J (cN cj J J)<|aw J (sK J)<|aw J (mJ J)<|dB J J J J (fun H=>ic pU iZ J J)<|dB J J J J (fun H=>cJ eQ J J (bG J H))<|dB J J J J (fun H=>kZ fz (bG J H))<|dB J J J J (fun H=>dy (bG J H) hI)<|aw J (fun H=>nW (bG J H) (fun M=>(bG J (nC H (pQ M)))))<|dv J ?_;refine bE h J (fun h=>?_) (fun h=>?_)
 ·exact Z<|ca<|cK<|af<|so h▸av J J
 ·refine dZ<|aE<|bg oN gJ cj J<|eN J<|Q J<|aw J (cZ Il zl J J)<|aw J (cN zZ J J)<|dv J<|Q J<|aO J (cZ oN gJ J J)<|aO J (cN cj J J)<|aO J (sK J)<|aO J (mJ J)<|cB J J J J (fun H=>ic oN gJ J J)<|cB J J J J (fun H=>cJ cj J J (bG J H))<|cB J J J J (fun H=>d6 (bG J H) hI)<|aO J (fun H=>gG (bG J H) (fun M=>(bG J (nC H M))))<|aO J (mJ J)<|cB J J J J (fun H=>ic rZ kK J J)<|cB J J J J (fun H=>oK la J gj J (bG J H)) ?_;refine cB J J J J (fun H=>cJ uD J J (bG J H))<|cB J J J J (fun H=>kZ qC (bG J H))<|cB J J J J (fun H=>dy (bG J H) hI)<|aO J (fun H=>gG (bG J H) (fun M=>(bG J (nC H M))))<|fj J<|bE h J (fun h=>?_) (fun h=>?_)
  ·exact Z<|ca<|cK<|af<|so h▸av J J
  ·refine dZ<|aE<|bg oN gJ cj J<|eN J<|Q J<|aw J (cZ pT iY J J)<|aw J (cN eQ J J)<|aw J (jJ fz J)<|aw J (fun H=>dy (bG J H) hI)<|aw J (mJ J)<|dB J J J J (fun H=>ic oM kJ J J)<|dB J J J J (fun H=>cJ zY J J (bG J H))<|dB J J J J (fun H=>kZ uz (bG J H))<|dB J J J J (fun H=>dy (bG J H) hI)<|aw J (fun H=>nW (bG J H) (fun M=>(bG J (nC H (pQ M)))))<|dv J<|Q J<|aO J (cZ oN gJ J J)<|aO J (cN cj J J)<|aO J (sK J) ?_;refine aO J (mJ J)<|cB J J J J (fun H=>ic pS kI J J)<|cB J J J J (fun H=>cJ zX J J (bG J H))<|cB J J J J (fun H=>kZ vk (bG J H))<|cB J J J J (fun H=>dy (bG J H) hI)<|aO J (fun H=>gG (bG J H) (fun M=>(bG J (nC H M))))<|fj J<|bE h J (fun h=>?_) (fun h=>?_)
   ·exact Z<|ca<|cK<|af<|so h▸av J J
   ·exact dZ<|Z<|bg oN gJ cj J<|bP J<|Q J<|aO J (cZ pX kh J J)<|aO J (cN Cy J J)<|aO J (jJ xu J)<|aO J (fV J)<|aO J (mJ J)<|cB J J J J (fun H=>ic vE oy J J)<|cB J J J J (fun H=>cJ cj J J (bG J H))<|cB J J J J (fun H=>iK (bG J H) hI)<|aO J (fun H=>gG (bG J H) (fun M=>(bG J (nC H M))))<|fj J<|aM J<|so h▸av J J

def Yd tag{R}(h:Az tag=some R):bY aU 287 [bD tag] (bD R):=by
 refine co Tryz.func287 J<|Z<|bh<|bB<|aA<|am<|ax J<|T (du (Y J) hI)<|Q J<|aO J (cG J)<|aO J (fun H=>dy (bG J H) hI)<|fj J<|aC J<|gp h J (fun h=>?_) (fun h=>?_)
 ·exact Z<|cd<|bT<|so h▸av J J
 ·refine ax J<|T (jm (Y J) hI)<|aC J<|gp h J (fun h=>?_) (fun h=>?_)
  ·exact Z<|cd<|bT<|so h▸av J J
  ·refine ax J<|T (jm (Y J) hI)<|aC J<|gp h J (fun h=>?_) (fun h=>?_)
   ·exact Z<|cd<|bT<|so h▸av J J
   ·exact bc<|ay<|ap<|Z<|cd<|so h▸av J J

def Yk tag{R}(h:xa tag=some R):bY aU 270 [bD tag] (bD R):=by
 refine co Tryz.func270 J<|Z<|bh<|bB<|aE<|Q J<|bP J<|Q J<|aO J (cG J)<|aO J (fun H=>eF (bG J H) hI)<|aO J (mJ J)<|cB J J J J (fun H=>gL J)<|cB J J J J (fun H=>jm (bG J H) hI)<|aO J (fun H=>gG (bG J H) (fun M=>(bG J (nC H M))))<|fj J<|bE h J (fun h=>?_) (fun h=>?_)
 ·exact Z<|cd<|af<|so h▸av J J
 ·exact dZ<|ax J<|bS h aeg (Yd _) (bj J) fun r h=>aM J<|so h▸av J J

def Bs v{R}(h:m4 v=some R):bY aU 170 [tD ae v] (gM R):=by
 exact co Tryz.func170 J<|Z<|bO J<|ca<|bB<|Z<|bn an J<|bS h Er (ta _) (bj J) fun r h=>Q J<|aw J (cZ cY bC J J)<|aw J (cN cj J J)<|aw J (sK J)<|dv J<|aM J<|so h▸av J J

def Yj n{R}(h:mY n=some R):bY aU 271 [tD cx n] (gM R):=by
 refine co Tryz.func271 J<|Z<|bO J<|ca<|bB<|aE<|bg lX fc cj J<|bB<|am<|Z<|bP J<|aC J<|gp h J (fun h=>?_) (fun h=>?_)
 ·exact Z<|bg wB mE an J<|bS h KL (Bs _) (bj J) fun r h=>Q J<|aw J (cZ qW i6 J J)<|aw J (cN cj J J)<|aw J (fV J)<|dv J<|aM J<|bT<|so h▸av J J
 ·refine Z<|bP J<|aC J<|gp h J (fun h=>?_) (fun h=>?_)
  ·exact Z<|bg wB mE an J<|T (bM an jg aL J)<|T (uu Iw (Y J) (Y J))<|Q J<|aw J (cZ qW i6 J J)<|aw J (cN cj J J)<|aw J (fun H=>eF (bG J H) hI)<|dv J<|Q J<|aw J (cZ qW i6 J J)<|aw J (cN cj J J)<|aw J (fun H=>du (bG J H) hI)<|dv J<|aM J<|bT<|so h▸av J J
  ·exact bc<|ay<|ap<|Z<|bg wB mE an J<|T (bM an jg aL J)<|T (uu Iw (Y J) (Y J))<|Q J<|aw J (cZ qW i6 J J)<|aw J (cN cj J J)<|aw J (fV J)<|dv J<|aM J<|so h▸av J J

end Go.Proofs.YtpgjgkdpeagjbaaGreatDoor

