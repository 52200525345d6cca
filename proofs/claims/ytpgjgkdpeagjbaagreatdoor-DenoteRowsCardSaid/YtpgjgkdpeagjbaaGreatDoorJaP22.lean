/- eJ of this claim: P22. -/
import Derived.Test.YtpgjgkdpeagjbaaGreatDoorJaT
import Derived.Test.YtpgjgkdpeagjbaaGreatDoorJaP21
set_option linter.all false
namespace Go.Proofs.YtpgjgkdpeagjbaaGreatDoor
open Go
set_option maxRecDepth 100000

def acs l base{R}(h:CI l base=some R):bY aU 14 [tD cX l,tD fX base] (tT [cr (cu) R.1,bD R.2]):=by
 refine co Tryz.func14 J<|Z<|bO J<|bO J<|dO (cu)<|bh<|bB<|Z<|bQ false ei 32<|T (bp qa)<|bB<|aE<|bh<|bB<|am<|bA ?_;refine aD (zA (aF:=fun n all l1 c i=>jb l base n all i=some R) (Of:=fun all l1 c i=>[ff ei 32 l1 c all]) (Gf:=fun all l1 c i=>[(2,bF cX l),(3,bF fX base),(6,my l1 c all),(7,bD i)]) (fun all l1 c i h=>nn h) (fun n ih all l1 c i h=>?_) fm aa1 none 0 (0:Int) h) (bf J);refine cU<|aE<|Q J<|bg mM gi wR J<|ck tm J<|kw J<|bE h J (fun h=>?_) (fun h=>?_)
 ·refine dZ<|aA<|am<|Z<|bg mM gi wR J<|Q J<|ci h fun e q_e h=>cW tm iE J q_e<|aQ iE mS J fun b=>be iE ah J<|aV 8 J<|bB<|Z<|dO (cu)<|dO (cu)<|bB<|aA ?_;refine au<|bh<|bB ?_;refine fi (aF:=fun a1=>q9 l base (jb l base n) all i e a1=some R) (Of:=fun a1=>[ff ei 32 l1 c all]) (Gf:=fun a1=>[(2,bF cX l),(3,bF fX base),(6,my l1 c all),(7,bD i),(8,bF aW e),(9,cr (cu) a1),(10,cr (cu) ([])),(11,bD 0)]) (fun a1 h=>?_) (fun h2=>?_)
  ·skip
   refine Fs (aF:=fun b1 width=>q8 base (jb l base n) all i e a1 b1 width=some R) (Of:=fun b1 width=>[ff ei 32 l1 c all]) (Gf:=fun b1 width=>[(2,bF cX l),(3,bF fX base),(6,my l1 c all),(7,bD i),(8,bF aW e),(9,cr (cu) a1),(10,cr (cu) b1),(11,bD width)]) (fun b1 width h=>?_) (fun K1=>?_)
   ·skip
    refine Z<|bn iE J<|bn xz J<|Q J<|Q J<|Q J<|bS h agQ (ace _ _ _ _ _) (bj J) fun r h=>Q J<|bv J J<|bv J J<|dC J<|aC J<|aE<|Q J<|eN J<|bE h J (fun h=>?_) (fun h=>?_)
    ·exact ax J<|dO (cu)<|aM J<|af<|bT<|af<|bT<|aG<|so h▸bH J J J
    ·refine dZ<|au<|Q J<|Q J<|T (aI (r:=ei) (ys:=[r.1]) (xs:=[.tmp 66]) lr gb J J J J J ⟨(Y J),O⟩)<|ci h fun all1 q_all1 h=>bW gb J J J J lr J J (Y J) (Y J) q_all1 fun l2 c1=>dC J<|aY<|ay<|ap<|au<|Q J<|T (eG (Y J) hI)<|dC J<|aY ?_;exact aR (aD (ih all1 l2 c1 (IntKind.i64.wrap (i+(1:Int))) h) (bf J))
   ·skip
    refine Z<|bg mL fW cj J<|T (eF (Y J) hI)<|bE h J (fun h=>?_) (fun h=>?_)
    ·refine ax J<|bg mL fW cj J<|ci h fun e1 q_e1 h=>T (cn lr gb (.head _) (Y J) (Y J) q_e1)<|T (eE (r:=ei) (i:=e.B) (foff:=0) gb J J bz J (.head _) q_e1 (Y J))<|aC J<|Z<|bn ny J<|bg mL fW cj J<|bS h ZF (VN _ _) (bj J) fun r1 h=>Q J<|bv J J<|bv J J<|dC J<|dC J<|aY ?_;refine ap<|au<|Q J<|ck fz J<|dC J<|aY ?_;exact ce (K1 e1 (r1.1.length:Int) h) (bf J)
    ·refine bc ?_;exact ce (K1 ([]) (0:Int) h) (bf J)
  ·skip
   refine Z<|bg iO de cj J<|T (eF (Y J) hI)<|bE h J (fun h=>?_) (fun h=>?_)
   ·refine au<|Q J<|bg iO de cj J<|ci h fun e2 q_e2 h=>T (cn lr gb (.head _) (Y J) (Y J) q_e2)<|T (eE (r:=ei) (i:=e.A) (foff:=0) gb J J bz J (.head _) q_e2 (Y J))<|dC J<|aY ?_;exact ce (h2 e2 h) (bf J)
   ·refine bc ?_;exact ce (h2 ([]) h) (bf J)
 ·exact d7<|aH<|aH<|cF<|ap<|ax J<|Q J<|T (fO lr (.head _) (Y J))<|T (dX (Y J) hI)<|ci h fun e3 q_e3 h=>T (cn lr gb (.head _) (Y J) (Y J) q_e3)<|T (eE (r:=ei) (i:=(IntKind.i64.wrap ((all.length:Int)-(1:Int)))) (foff:=0) gb J J bz J (.head _) q_e3 (Y J))<|dC J<|cd<|aG<|so h▸bH J J J

def adP l b{R}(h:qL l b=some R):bY aU 3 [tD cX l,tD fX b] (gM R):=by
 refine co Tryz.func3 J<|Z<|bO J<|bO J<|ca<|bB<|aE<|bS h cb4 adO trivial fun r h=>T (dY (Y J))<|bE h J (fun h=>?_) (fun h=>?_)
 ·exact Z<|ca<|cK<|af<|so h▸av J J
 ·refine dZ<|aE<|bn xz J<|bS h cb5 (adM _) (bj J) fun r1 h=>Q J<|ci h fun t q_t h=>aO J (fun H=>nE ny J J)<|aO J (fun H=>nE xz J J) ?_
  obtain⟨r2,h1t,h0t⟩:=og q_t
  have q_r2g:=fun M=>(h1t M).1
  refine aO J (fun H=>bo cb6 (adL _ _ (q_r2g H)) ⟨(bG J H),(bG J H),O⟩)<|T (eC (Y J) (fun M=>(bG J (pQ M))) (fun M=>(h1t M).2) h0t)<|bE h J (fun h=>?_) (fun h=>?_)
  ·exact Z<|ca<|cK<|af<|so h▸av J J
  ·refine dZ<|Z<|bn xz J<|bS h cb7 (adK _) (bj J) fun r3 h=>aQ xz Dp J fun b1=>be xz ah J<|aV 5 J<|bB<|Z<|bn ny J<|bn xz J<|bS h cb8 (aak _ _) (bj J) fun r4 h=>Q J<|bv J J<|bv J J<|dC J<|dC J<|aY ?_;refine ap<|Z<|bn ny J<|bn xz J<|bS h cb9 (aaj _ _) (bj J) fun r5 h=>aC J<|aE<|bg oO jB q6 J<|ck lr J<|T (cv hI)<|bB<|am<|aZ (k:=33) J fun hN=>bA ?_;refine aD (eI (aF:=fun ls i=>(b.Tables.drop i=ls)/\ga l b r3 r4 r5 ls i=some R) (Of:=fun _ i=>[]) (Gf:=fun _ i=>[(2,bF cX l),(3,bF fX b),(5,bF fX r3),(6,cr (cu) r4.1),(7,bD r4.2),(8,gM r5),(34,kP b.Tables),(35,bD (i:Int))]) (fun i h=>?_) (fun e tl ih i h=>?_) b.Tables 0 ⟨J,h⟩) (bf J)
   ·obtain⟨V,h⟩:=h
    refine eY V J<|ap<|aE<|bn ny J<|bS h ahd (acv _) (bj J) fun r6 h=>T (dY (Y J))<|bE h J (fun h=>?_) (fun h=>?_)
    ·exact ax J<|ck eK J<|bP J<|Q J<|aw J (cG J)<|aw J (fV J)<|dv J<|Q J<|aw J (cG J)<|aw J (nI J)<|dv J<|aM J<|af<|so h▸av J J
    ·refine dZ<|aE<|bn ny J<|bn xz J<|bS h ahc (acu _ _) (bj J) fun r7 h=>T (dY (Y J))<|bE h J (fun h=>?_) (fun h=>?_)
     ·exact ax J<|ck eK J<|bP J<|Q J<|aw J (cG J)<|aw J (fV J)<|dv J<|Q J<|aw J (cG J)<|aw J (nI J)<|dv J<|aM J<|af<|so h▸av J J
     ·refine dZ<|Z<|bn ny J<|bn xz J<|bS h ahb (acs _ _) (bj J) fun r8 h=>Q J<|bv J J<|bv J J<|dC J<|aC J<|ax J<|Q J<|aw J (cG J)<|aw J (cG J)<|aw J (fun H=>iK (bG J H) (bG J H))<|dv J<|Q J ?_;refine ci h fun t1 q_t1 h=>aw J (cG J)<|aw J (cG J) ?_
      obtain⟨r9,h1t1,h0t1⟩:=og q_t1
      have q_r9g:=fun M=>(h1t1 M).1
      exact aw J (fun H=>bo afJ (VU _ _ (q_r9g H)) ⟨(bG J H),(bG J H),O⟩)<|T (cQ (Y J) (fun M=>(bG J M)) (fun M=>(h1t1 M).2) h0t1)<|aM J<|so h▸av J J
   ·obtain⟨V,h⟩:=h
    refine eX V J<|aA<|am<|ax J<|aC J<|aA<|ci h fun r10 q_r10 h=>ci h fun t2 q_t2 h=>?_
    obtain⟨e1,h1t2,h0t2⟩:=og q_t2
    have q_e1g:=fun M=>(h1t2 M).1
    obtain⟨r11,h1t2⟩:=RI (fun M=>(h1t2 M).2)
    have q_r11g:=fun M=>(h1t2 M).1
    refine iQ (ts:=[_,_,_,_,_,_,_,_,_,_,_,_,_,_,_,_,_,_,_,_,_]) mixed J J
     ⟨jH 3 J J (ic oO jB J J),
     ⟨dh 0 q6 J J,
     ⟨dc J J,
     ⟨cM 39 1 40 2 J J J (zW lr gb J J J (cD V)),
     ⟨dh 3 gb J J,
     ⟨cT 42 4 J J (bo ahe (acF _ q_r10) ⟨(Y J),O⟩),
     ⟨cT 43 5 J J (Uy J),
     ⟨cT 44 6 J J (gL J),
     ⟨jF 5 45 7 J J J (bU J J J J (fun H=>ic oO jB J J)),
     ⟨fq 46 8 45 7 J J J (bU J J J J (fun H=>cJ q6 J J (bG J H))),
     ⟨jF 9 45 7 J J J (bU J J J J (fun H=>gL J)),
     ⟨lZ 47 9 48 10 45 7 J J J J (bU J J J J (fun H=>bm lr gb J (bG J H) (bG J H) (q_e1g H))),
     ⟨fq 49 11 45 7 J J J (bU J J J J (fun H=>cJ gb J J (bG J H))),
     ⟨jF 3 45 7 J J J (bU J J J J (fun H=>ic oO jB J J)),
     ⟨fq 51 13 45 7 J J J (bU J J J J (fun H=>cJ q6 J J (bG J H))),
     ⟨jF 9 45 7 J J J (bU J J J J (fun H=>gL J)),
     ⟨lZ 52 14 53 15 45 7 J J J J (bU J J J J (fun H=>bm lr gb J (bG J H) (bG J H) (cD V))),
     ⟨fq 54 16 45 7 J J J (bU J J J J (fun H=>cJ gb J J (bG J H))),
     ⟨lZ 50 12 55 17 45 7 J J J J (bU J J J J (fun H=>bo afJ (VU _ _ (q_r11g H)) ⟨(bG J H),(bG J H),O⟩)),
     ⟨fq 56 18 45 7 J J J (bU J J J J (fun H=>dY (bG J H))),
     ⟨cM 45 7 57 19 J J J (cQ (Y J) (fun M=>(bG J M)) (fun M=>(h1t2 M).2) h0t2),
     O⟩⟩⟩⟩⟩⟩⟩⟩⟩⟩⟩⟩⟩⟩⟩⟩⟩⟩⟩⟩⟩ ?_
    refine ap<|gp h J (fun h=>?_) (fun h=>?_)
    ·exact Z<|ca<|cK<|bT<|af<|bT<|so h▸av J J
    ·refine bc<|dR V hN J ?_;exact aR (aD (ih (i+1) ⟨cH V,h⟩) (bf J))

end Go.Proofs.YtpgjgkdpeagjbaaGreatDoor

