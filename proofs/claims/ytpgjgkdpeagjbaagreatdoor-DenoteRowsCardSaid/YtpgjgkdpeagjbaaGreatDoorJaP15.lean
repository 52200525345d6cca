/- eJ of this claim: P15. -/
import Derived.Test.YtpgjgkdpeagjbaaGreatDoorJaT
import Derived.Test.YtpgjgkdpeagjbaaGreatDoorJaP14
set_option linter.all false
namespace Go.Proofs.YtpgjgkdpeagjbaaGreatDoor
open Go
set_option maxRecDepth 100000

def VP: ∀(fu:Nat) (e:cy) (place:Int) {R:Int} (h:jQ fu e place=some R),bY aU 227 [tD cm e,bD place] (bD R):=by
 intro fu
 induction fu with
 |zero=>intro e place R h;exact(nn h).elim
 |succ fu ih=>
  intro e place R h
  refine co Tryz.func227 J<|Z<|bO J<|bh<|bB<|aE<|Q J<|T (du (Y J) hI)<|Q J<|aO J (cG J)<|aO J (cZ la gj J J)<|aO J (cN uD J J)<|aO J (jJ qC J)<|aO J (fun H=>eF (bG J H) (bG J H))<|fj J<|bE h J (fun h=>?_) (fun h=>?_)
  ·exact Z<|cd<|af<|so h▸av J J
  ·refine dZ<|Z<|bg la gj uD J<|Q J<|ci h fun e1 q_e1 h=>cW qC nw J q_e1<|aQ nw qc J fun b=>be nw ah J<|aV 5 J<|bB<|Z<|bg lX fc cj J<|bS h aeo (Yk _) (bj J) fun r h=>aC J ?_;refine aE<|Q J<|T (du (Y J) hI)<|Q J<|ci h fun t q_t h=>aO J (fun H=>nE nw J J) ?_
   obtain⟨r1,h1t,h0t⟩:=og q_t
   have q_r1g:=fun M=>(h1t M).1
   refine aO J (fun H=>bo aen (Yj _ (q_r1g H)) ⟨(bG J H),O⟩)<|aO J (nI J)<|T (eC (Y J) (fun M=>(bG J (pQ M))) (fun M=>(h1t M).2) h0t)<|bE h J (fun h=>?_) (fun h=>?_)
   ·exact Z<|cd<|af<|so h▸av J J
   ·refine dZ<|aE<|Q J<|bP J<|bE h J (fun h=>?_) (fun h=>?_)
    ·refine aE<|bg E5 ua cj J<|eN J<|Q J<|aO J (cZ AV qr J J)<|aO J (cN cj J J)<|aO J (sK J)<|fj J<|bE h J (fun h=>?_) (fun h=>?_)
     ·exact Z<|cd<|af<|af<|so h▸av J J
     ·exact dZ<|Z<|cd<|af<|so h▸av J J
    ·refine dZ<|Z<|bn jk J<|Q J<|T (dX (Y J) hI)<|bS h Wn (ih _ _) (bj J) fun r2 h=>aC J<|aE<|Q J<|bP J<|bE h J (fun h=>?_) (fun h=>?_)
     ·exact Z<|cd<|af<|so h▸av J J
     ·refine dZ<|aE<|Q J<|bP J<|bE h J (fun h=>?_) (fun h=>?_)
      ·refine aE<|bg E5 ua cj J<|Q J<|T (dX (Y J) hI)<|T (d6 (Y J) (Y J))<|Q J<|aO J (cZ AV qr J J)<|aO J (cN cj J J)<|aO J (sK J)<|fj J<|bE h J (fun h=>?_) (fun h=>?_)
       ·exact Z<|cd<|af<|af<|so h▸av J J
       ·exact dZ<|ax J<|T (eG (Y J) hI)<|aM J<|af<|so h▸av J J
      ·refine dZ<|Z<|bn jk J<|Q J<|T (dX (Y J) hI)<|Q J<|T (dX (Y J) (Y J))<|bS h Wn (ih _ _) (bj J) fun r3 h=>aC J<|aE<|Q J<|bP J<|Q J<|aO J (cZ AV qr J J)<|aO J (cN cj J J)<|aO J (cG J)<|aO J (fun H=>dX (bG J H) hI) ?_;refine aO J (fun H=>d6 (bG J H) (bG J H))<|fj J<|Q J<|aO J (cZ E5 ua J J)<|aO J (cN cj J J)<|aO J (cG J)<|aO J (fun H=>dX (bG J H) hI)<|aO J (cG J)<|aO J (fun H=>dX (bG J H) (bG J H))<|aO J (fun H=>d6 (bG J H) (bG J H))<|fj J<|bE h J (fun h=>?_) (fun h=>?_)
       ·exact Z<|cd<|af<|so h▸av J J
       ·exact dZ<|ax J<|Q J<|T (eG (Y J) (Y J))<|T (eG (Y J) hI)<|aM J<|so h▸av J J
def Yu e place{R}(h:CL e place=some R):bY aU 227 [tD cm e,bD place] (bD R):=VP fm e place h

def Sq e{R}(h:uK e=some R):bY aU 168 [tD cm e] (gM R):=by
 refine co Tryz.func168 J<|Z<|bO J<|ca<|bB<|aA<|ci h fun t q_t h=>?_
 obtain⟨r,h1t,h0t⟩:=og q_t
 have q_rg:=fun M=>(h1t M).1
 refine iQ (ts:=[_,_,_,_,_,_,_,_,_,_,_,_,_,_,_,_,_,_,_,_,_,_,_]) mixed J J
  ⟨jH 1 J J (ic la gj J J),
  ⟨dh 0 uD J J,
  ⟨cT 4 1 J J (UC qC J),
  ⟨cT 5 2 J J (eF (Y J) hI),
  ⟨cT 6 3 J J (gL J),
  ⟨jF 1 7 4 J J J (bU J J J J (fun H=>ic la gj J J)),
  ⟨fq 8 5 7 4 J J J (bU J J J J (fun H=>cJ uD J J (bG J H))),
  ⟨fq 9 6 7 4 J J J (bU J J J J (fun H=>kZ qC (bG J H))),
  ⟨fq 10 7 7 4 J J J (bU J J J J (fun H=>jm (bG J H) hI)),
  ⟨cM 7 4 11 8 J J J (UB J J),
  ⟨cT 12 9 J J (gL J),
  ⟨jF 1 13 10 J J J (bU J J J J (fun H=>nE jk J J)),
  ⟨jF 1 13 10 J J J (bU J J J J (fun H=>ic la gj J J)),
  ⟨fq 15 12 13 10 J J J (bU J J J J (fun H=>cJ uD J J (bG J H))),
  ⟨fq 16 13 13 10 J J J (bU J J J J (fun H=>kZ qC (bG J H))),
  ⟨fq 17 14 13 10 J J J (bU J J J J (fun H=>dX (bG J H) hI)),
  ⟨lZ 14 11 18 15 13 10 J J J J (bU J J J J (fun H=>bo Wn (Yu _ _ (q_rg H)) ⟨(bG J H),(bG J H),O⟩)),
  ⟨jF 1 13 10 J J J (bU J J J J (fun H=>ic la gj J J)),
  ⟨fq 20 17 13 10 J J J (bU J J J J (fun H=>cJ uD J J (bG J H))),
  ⟨fq 21 18 13 10 J J J (bU J J J J (fun H=>kZ qC (bG J H))),
  ⟨lZ 19 16 22 19 13 10 J J J J (bU J J J J (fun H=>iK (bG J H) (bG J H))),
  ⟨cM 13 10 23 20 J J J (cQ (Y J) (fun M=>(bG J M)) (fun M=>(h1t M).2) h0t),
  ⟨cT 24 21 J J (sE J),
  O⟩⟩⟩⟩⟩⟩⟩⟩⟩⟩⟩⟩⟩⟩⟩⟩⟩⟩⟩⟩⟩⟩⟩ ?_
 exact ap<|fD<|so h▸av J J

def GG k want{R}(h:jl k want=some R):bY aU 228 [bD k,bD want] (gM R):=by
 exact co Tryz.func228 J<|Z<|ca<|bB<|ax J<|Q J<|T (iK (Y J) (Y J))<|Q J<|aO J (cG J)<|aO J (fV J)<|fj J<|aM J<|so h▸av J J

def Y2 tag l r{R}(h:jR tag l r=some R):bY aU 169 [bD tag,bD l,bD r] (tT [bD R.1,gM R.2]):=by
 refine co Tryz.func169 J<|Z<|bh<|ca<|bB<|aA<|am<|ax J<|bP J<|Q J<|aO J (cG J)<|aO J (fun H=>eF (bG J H) hI)<|aO J (mJ J)<|cB J J J J (fun H=>gL J)<|cB J J J J (fun H=>jm (bG J H) hI)<|aO J (fun H=>gG (bG J H) (fun M=>(bG J (nC H M))))<|fj J<|aC J ?_;refine gp h J (fun h=>?_) (fun h=>?_)
 ·refine ax J<|bS h SS (GG _ _) (bj J) fun r1 h=>Q J<|ci h fun t q_t h=>aw J (cG J) ?_
  obtain⟨r2,h1t,h0t⟩:=og q_t
  have q_r2g:=fun M=>(h1t M).1
  exact aw J (fun H=>bo SS (GG _ _ (q_r2g H)) ⟨(bG J H),hI,O⟩)<|T (cQ (Y J) (fun M=>(bG J M)) (fun M=>(h1t M).2) h0t)<|bh<|aM J<|bT<|so h▸bH J J J
 ·refine ax J<|bP J<|Q J<|aO J (cG J)<|aO J (fun H=>eF (bG J H) hI)<|fj J<|aC J<|gp h J (fun h=>?_) (fun h=>?_)
  ·refine ax J<|bS h SS (GG _ _) (bj J) fun r3 h=>Q J<|ci h fun t1 q_t1 h=>aw J (cG J) ?_
   obtain⟨r4,h1t1,h0t1⟩:=og q_t1
   have q_r4g:=fun M=>(h1t1 M).1
   exact aw J (fun H=>bo SS (GG _ _ (q_r4g H)) ⟨(bG J H),hI,O⟩)<|T (cQ (Y J) (fun M=>(bG J M)) (fun M=>(h1t1 M).2) h0t1)<|bh<|aM J<|bT<|so h▸bH J J J
  ·refine ax J<|bP J<|Q J<|aO J (cG J)<|aO J (fV J)<|fj J<|aC J<|gp h J (fun h=>?_) (fun h=>?_)
   ·exact Z<|bh<|ca<|cK<|bT<|so h▸bH J J J
   ·exact bc<|ay<|ap<|ax J<|Q J<|T (iK (Y J) (Y J))<|Q J<|aO J (cG J)<|aO J (fV J)<|fj J<|Q J<|aO J (cG J)<|aO J (fV J)<|fj J<|bh<|aM J<|so h▸bH J J J

def ME e kinds{R}(h:tJ e kinds=some R):bY aU 110 [tD cm e,kq kinds] (tT [bD R.1,bD R.2]):=by
 refine co Tryz.func110 J<|Z<|bO J<|bh<|bh<|bB<|aE<|bn jk J<|bS h aaI (Sq _) (bj J) fun r h=>T (dY (Y J))<|bE h J (fun h=>?_) (fun h=>?_)
 ·exact Z<|bh<|cd<|af<|so h▸bH J J J
 ·refine dZ<|aE<|Q J<|ck fz J<|T (cv hI)<|bB<|am<|aZ (k:=20) J fun hN=>bA ?_;refine aD (eI (aF:=fun ls i=>(kinds.drop i=ls)/\rd e kinds ls=some R) (Of:=fun _ i=>[]) (Gf:=fun _ i=>[(1,kq kinds),(2,bF cm e),(20,kq kinds),(21,kP kinds),(22,bD (i:Int))]) (fun i h=>?_) (fun e1 tl ih i h=>?_) kinds 0 ⟨J,h⟩) (bf J)
  ·obtain⟨V,h⟩:=h
   refine eY V J<|ap<|aE<|bg la gj uD J<|ck qC J<|T (cv hI)<|bB<|am<|aZ (k:=34) J fun hN1=>?_;refine bA ?_;refine aD (eI (aF:=fun ls1 i1=>(e.Nodes.drop i1=ls1)/\pE e kinds ls1=some R) (Of:=fun _ i1=>[]) (Gf:=fun _ i1=>[(1,kq kinds),(2,bF cm e),(34,cr (cx) e.Nodes),(35,kP e.Nodes),(36,bD (i1:Int))]) (fun i1 h=>?_) (fun e2 tl1 ih1 i1 h=>?_) e.Nodes 0 ⟨J,h⟩) (bf J)
   ·obtain⟨hx1,h⟩:=h
    refine eY hx1 J<|ap<|Z<|bQ false cI 3<|T (bp qa)<|bB<|aE<|bg la gj uD J ?_;refine ck qC J<|T (cv hI)<|bB<|am<|aZ (k:=52) J fun hN2=>bA ?_;refine aD (iR (aF:=fun ls2 i2 own l c=>(e.Nodes.drop i2=ls2)/\dT kinds ls2 own=some R) (Of:=fun _ i2 own l c=>[ff cI 3 l c own]) (Gf:=fun _ i2 own l c=>[(1,kq kinds),(10,my l c own),(52,cr (cx) e.Nodes),(53,kP e.Nodes),(54,bD (i2:Int))]) (fun i2 own l c h=>?_) (fun e3 tl2 ih2 i2 own l c h=>?_) e.Nodes 0 BL none 0 ⟨J,h⟩) (bf J)
    ·obtain⟨hx2,h⟩:=h
     refine eY hx2 J<|ap<|ax J<|Q J<|T (fO fz (.head _) (Y J))<|T (dX (Y J) hI)<|ci h fun e4 q_e4 h=>T (cn fz cj (.head _) (Y J) (Y J) q_e4)<|T (eE (r:=cI) (i:=(IntKind.i64.wrap ((own.length:Int)-(1:Int)))) (foff:=0) cj J J bz J (.head _) q_e4 (Y J))<|dC J<|bh ?_;exact cK<|aG<|so h▸bH J J J
    ·obtain⟨hx2,h⟩:=h
     refine eX hx2 J<|aA<|am<|Z<|cW qC nw J (cD hx2)<|aQ nw qc J fun b=>be nw ah J<|aV 12 J<|bB<|am<|Z ?_;refine bg lX fc cj J<|bP J<|aC J<|gp h J (fun h=>?_) (fun h=>?_)
     ·refine au<|Q J<|wV wB mE J<|bg cY bC cj J<|T (aI (r:=cI) (ys:=[e3.Value.Kind]) (xs:=[.tmp 92]) fz cj J J J J J ⟨(Y J),O⟩)<|ci h fun own1 q_own1 h=>bW cj J J J J fz J J (Y J) (Y J) q_own1 fun l1 c1=>dC J<|aY<|ay<|dR hx2 hN2 J ?_;exact aR (aD (ih2 (i2+1) own1 l1 c1 ⟨cH hx2,h⟩) (bf J))
     ·refine Z<|bg lX fc cj J<|bP J<|aC J<|gp h J (fun h=>?_) (fun h=>?_)
      ·refine au<|Q J<|Q J<|bg qW i6 cj J<|ci h fun e5 q_e5 h=>cW fz cj J q_e5<|T (aI (r:=cI) (ys:=[e5]) (xs:=[.tmp 104]) fz cj J J J J J ⟨(Y J),O⟩)<|ci h fun own2 q_own2 h=>bW cj J J J J fz J J (Y J) (Y J) q_own2 fun l2 c2=>dC J<|aY<|ay<|dR hx2 hN2 J ?_;exact aR (aD (ih2 (i2+1) own2 l2 c2 ⟨cH hx2,h⟩) (bf J))
      ·refine ax J<|bg E5 ua cj J<|ci h fun e6 q_e6 h=>T (cn fz cj (.head _) (Y J) (Y J) q_e6)<|T (eE (r:=cI) (i:=e3.L) (foff:=0) cj J J bz J (.head _) q_e6 (Y J))<|dC J<|bh<|bB ?_;refine fi (aF:=fun r1=>re (dT kinds tl2) e3 own e6 r1=some R) (Of:=fun r1=>[ff cI 3 l c own]) (Gf:=fun r1=>[(1,kq kinds),(10,my l c own),(12,bF cx e3),(13,bD e6),(14,bD r1),(52,cr (cx) e.Nodes),(53,kP e.Nodes),(54,bD (i2:Int))]) (fun r1 h=>?_) (fun h2=>?_)
       ·skip
        refine Z<|bg lX fc cj J<|Q J<|Q J<|bS h ae6 (Y2 _ _ _) (bj J) fun r2 h=>Q J<|bv J J<|bv J J<|dC J<|aC J<|aE<|Q J<|T (dY (Y J))<|bE h J (fun h=>?_) (fun h=>?_)
        ·exact Z<|bh<|cd<|af<|lq<|bT<|af<|bT<|aG<|so h▸bH J J J
        ·refine dZ<|au<|Q J<|Q J<|T (aI (r:=cI) (ys:=[r2.1]) (xs:=[.tmp 82]) fz cj J J J J J ⟨(Y J),O⟩)<|ci h fun own3 q_own3 h=>bW cj J J J J fz J J (Y J) (Y J) q_own3 fun l3 c3=>dC J<|aY<|ay<|dR hx2 hN2 J ?_;exact aR (aD (ih2 (i2+1) own3 l3 c3 ⟨cH hx2,h⟩) (bf J))
       ·skip
        refine Z<|bg AV qr cj J<|T (eF (Y J) hI)<|bE h J (fun h=>?_) (fun h=>?_)
        ·refine au<|Q J<|bg AV qr cj J<|ci h fun e7 q_e7 h=>T (cn fz cj (.head _) (Y J) (Y J) q_e7)<|T (eE (r:=cI) (i:=e3.R) (foff:=0) cj J J bz J (.head _) q_e7 (Y J))<|dC J<|aY ?_;exact ce (h2 e7 h) (bf J)
        ·refine bc ?_;exact ce (h2 (0:Int) h) (bf J)
   ·obtain⟨hx1,h⟩:=h
    refine eX hx1 J<|aA<|am<|Z<|cW qC nw J (cD hx1)<|aQ nw qc J fun b1=>be nw ah J<|aV 9 J<|bB<|Z<|wV lX fc J ?_;refine bn cj J<|bP J<|Q J<|aw J (cZ qW i6 J J)<|aw J (cN cj J J)<|aw J (cG J)<|aw J (jJ fz J)<|aw J (fun H=>eF (bG J H) (bG J H))<|dv J<|bE h J (fun h=>?_) (fun h=>?_)
    ·exact Z<|bh<|cd<|bT<|af<|bT<|so h▸bH J J J
    ·refine bc<|dR hx1 hN1 J ?_;exact aR (aD (ih1 (i1+1) ⟨cH hx1,h⟩) (bf J))
  ·obtain⟨V,h⟩:=h
   refine eX V J<|aA<|am<|Z<|cW fz cj J (cD V)<|aC J<|ax J<|T (du (Y J) hI)<|Q J ?_;refine aO J (cG J)<|aO J (fun H=>dy (bG J H) hI)<|fj J<|bE h J (fun h=>?_) (fun h=>?_)
   ·exact Z<|bh<|cd<|bT<|af<|bT<|so h▸bH J J J
   ·refine bc<|dR V hN J ?_;exact aR (aD (ih (i+1) ⟨cH V,h⟩) (bf J))

def SC e kinds{R}(h:uJ e kinds=some R):bY aU 108 [tD cm e,kq kinds] (gM R):=by
 refine co Tryz.func108 J<|Z<|bO J<|ca<|bB<|Z<|bn jk J<|Q J<|bS h Wv (ME _ _) (bj J) fun r h=>Q J<|bv J J<|bv J J<|dC J<|aC J<|ax J<|bP J ?_;exact Q J<|aw J (cG J)<|aw J (fV J)<|aw J (mJ J)<|dB J J J J (fun H=>gL J)<|dB J J J J (fun H=>iK (bG J H) hI)<|aw J (fun H=>nW (bG J H) (fun M=>(bG J (nC H (pQ M)))))<|dv J<|aM J<|so h▸av J J

def Zr a1 kinds{R}(h:lw a1 kinds=some R):bY aU 109 [tD eM a1,kq kinds] (tT [bD R.1,gM R.2]):=by
 refine co Tryz.func109 J<|Z<|bO J<|bh<|ca<|bB<|aE<|bg pR kz cj J<|bP J<|bE h J (fun h=>?_) (fun h=>?_)
 ·refine aA ?_
  refine iQ (ts:=[_,_,_,_,_,_,_]) mixed J J
   ⟨jH 2 J J (ic xH ro J J),
   ⟨cT 11 0 J J (ic la gj J J),
   ⟨dh 1 uD J J,
   ⟨cT 13 2 J J (UC qC J),
   ⟨cT 14 3 J J (Uy J),
   ⟨PI J (Z2),
   ⟨cT 15 4 J J (sE J),
   O⟩⟩⟩⟩⟩⟩⟩ ?_
  exact ap<|fD<|af<|so h▸bH J J J
 ·refine dZ<|Z<|bg xH ro jk J<|Q J<|bS h Wv (ME _ _) (bj J) fun r h=>Q J<|bv J J<|bv J J<|dC J<|aC J<|aE<|bg pR kz cj J<|T (du (Y J) hI)<|Q J<|aO J (cZ pR kz J J) ?_;refine aO J (cN cj J J)<|aO J (fun H=>dy (bG J H) hI)<|fj J<|Q J<|aO J (cG J)<|aO J (sK J)<|fj J<|bE h J (fun h=>?_) (fun h=>?_)
  ·exact Z<|bh<|ca<|cK<|af<|so h▸bH J J J
  ·refine dZ<|aE<|bg pR kz cj J<|bP J<|Q J<|aw J (cG J)<|aw J (sK J)<|dv J<|Q J<|aw J (cG J)<|aw J (sK J)<|dv J<|bE h J (fun h=>?_) (fun h=>?_)
   ·exact Z<|bh<|ca<|cK<|af<|so h▸bH J J J
   ·refine dZ<|aE<|bg pR kz cj J<|T (eF (Y J) hI)<|bE h J (fun h=>?_) (fun h=>?_)
    ·exact ax J<|dC J<|ca<|cK<|af<|so h▸bH J J J
    ·exact dZ<|Z<|bh<|ca<|cK<|so h▸bH J J J

def ab5 n a1 b{R}(h:bX n a1 b=some R):bY aU 62 [tD aW n,kq a1,kq b] (tT [kq R.1,gM R.2]):=by
 refine co Tryz.func62 J<|Z<|bO J<|dO cI<|ca<|bB<|Z<|bQ false cI 3<|T (bp qa)<|bB<|Z<|ca<|bB<|aE<|bg oN gJ cj J ?_;refine bB<|am<|Z<|bP J<|aC J<|gp h J (fun h=>?_) (fun h=>?_)
 ·refine aE<|bh<|bB<|am<|bA<|mI ?_;refine aD (GO (aF:=fun n1 ok i=>ez n n1 ok i=some R) (Of:=fun ok i=>[]) (Gf:=fun ok i=>[(3,bF aW n),(9,gM ok),(10,bD i)]) (fun ok i h=>nn h) (fun n1 ih ok i h=>?_) fm true (0:Int) h) (bf J);refine cU<|aE<|Q J<|bg pU iZ eQ J<|ck fz J<|kw J<|bE h J (fun h=>?_) (fun h=>?_)
  ·refine dZ<|aA<|am<|au<|Q J<|Q J<|ci h fun t q_t h=>aw J (cZ pU iZ J J)<|aw J (cN eQ J J)<|aw J (cG J) ?_
   obtain⟨e,h1t,h0t⟩:=og q_t
   have q_eg:=fun M=>(h1t M).1
   refine aw J (fun H=>bm fz cj J (bG J H) (bG J H) (q_eg H))<|aw J (cN cj J J)<|aw J (fun H=>eF (bG J H) hI)<|T (cQ (Y J) (fun M=>(bG J M)) (fun M=>(h1t M).2) h0t)<|Q J<|ci h fun t1 q_t1 h=>aw J (cZ pU iZ J J)<|aw J (cN eQ J J)<|aw J (cG J) ?_
   obtain⟨e1,h1t1,h0t1⟩:=og q_t1
   have q_e1g:=fun M=>(h1t1 M).1
   refine aw J (fun H=>bm fz cj J (bG J H) (bG J H) (q_e1g H))<|aw J (cN cj J J)<|aw J (fun H=>jm (bG J H) hI)<|T (cQ (Y J) (fun M=>(bG J M)) (fun M=>(h1t1 M).2) h0t1)<|dC J<|aY<|ay<|ap<|au<|Q J<|T (eG (Y J) hI)<|dC J<|aY ?_;exact aR (aD (ih t1 (IntKind.i64.wrap (i+(1:Int))) h) (bf J))
  ·refine d7<|aH<|aH<|cF<|ap<|aA ?_
   refine iQ (ts:=[_,_,_,_,_,_,_,_,_,_,_,_,_,_,_,_,_,_,_,_,_,_,_,_,_,_,_]) mixed J J
    ⟨jH 3 J J (ic pU iZ J J),
    ⟨dh 0 eQ J J,
    ⟨dc J J,
    ⟨cT 51 2 J J (gL J),
    ⟨jF 3 52 3 J J J (bU J J J J (fun H=>ic qX jp J J)),
    ⟨fq 53 4 52 3 J J J (bU J J J J (fun H=>cJ cj J J (bG J H))),
    ⟨fq 54 5 52 3 J J J (bU J J J J (fun H=>eF (bG J H) hI)),
    ⟨cM 52 3 55 6 J J J (UB J J),
    ⟨cT 56 7 J J (gL J),
    ⟨jF 3 57 8 J J J (bU J J J J (fun H=>ic qX jp J J)),
    ⟨fq 58 9 57 8 J J J (bU J J J J (fun H=>cJ cj J J (bG J H))),
    ⟨fq 59 10 57 8 J J J (bU J J J J (fun H=>jm (bG J H) hI)),
    ⟨cM 57 8 60 11 J J J (UB J J),
    ⟨cT 61 12 J J (gL J),
    ⟨jF 3 62 13 J J J (bU J J J J (fun H=>ic pU iZ J J)),
    ⟨fq 63 14 62 13 J J J (bU J J J J (fun H=>cJ eQ J J (bG J H))),
    ⟨fq 64 15 62 13 J J J (bU J J J J (fun H=>kZ fz (bG J H))),
    ⟨fq 65 16 62 13 J J J (bU J J J J (fun H=>eF (bG J H) hI)),
    ⟨cM 62 13 66 17 J J J (UB J J),
    ⟨cT 67 18 J J (gL J),
    ⟨jF 3 68 19 J J J (bU J J J J (fun H=>ic pU iZ J J)),
    ⟨fq 69 20 68 19 J J J (bU J J J J (fun H=>cJ eQ J J (bG J H))),
    ⟨fq 70 21 68 19 J J J (bU J J J J (fun H=>kZ fz (bG J H))),
    ⟨fq 71 22 68 19 J J J (bU J J J J (fun H=>jm (bG J H) hI)),
    ⟨cM 68 19 72 23 J J J (UB J J),
    ⟨cT 50 1 J J (sE J),
    ⟨cT 73 24 J J (sE J),
    O⟩⟩⟩⟩⟩⟩⟩⟩⟩⟩⟩⟩⟩⟩⟩⟩⟩⟩⟩⟩⟩⟩⟩⟩⟩⟩⟩ ?_
   exact ap<|fD<|bT<|so h▸bH J J J
 ·refine Z<|bP J<|aC J<|gp h J (fun h=>?_) (fun h=>?_)
  ·refine ax J<|Q J<|ci h fun l q_l h=>bW cj J J J J fz J J (Y J) (Y J) q_l fun l1 c=>Q J<|ci h fun out q_out h=>bW cj J J J J fz J J (Y J) (Y J) q_out fun l2 c1=>aC J<|ax J<|bg rZ kK jk J<|Q J<|gm<|dn 80 J<|dn 8 J<|dn 81 J<|dn 84 J<|ci h fun r q_r h=>?_;exact T (bo aaT (SC _ _ q_r) ⟨(Y J),(km (Y J)),O⟩)<|dC J<|aM J<|bT<|dQ 6 J<|aG<|so h▸bH J J J
  ·refine Z<|bP J<|aC J<|gp h J (fun h=>?_) (fun h=>?_)
   ·exact ax J<|bg rZ kK jk J<|Q J<|bS h aaT (SC _ _) (bj J) fun r1 h=>dC J<|aM J<|bT<|aG<|so h▸bH J J J
   ·refine Z<|bP J<|aC J<|gp h J (fun h=>?_) (fun h=>?_)
    ·refine aE<|bh<|bB<|am<|bA ?_;refine aD (zA (aF:=fun n2 out1 l3 c2 i1=>eV n a1 n2 out1 i1=some R) (Of:=fun out1 l3 c2 i1=>[ff cI 3 l3 c2 out1]) (Gf:=fun out1 l3 c2 i1=>[(1,kq a1),(3,bF aW n),(8,my l3 c2 out1),(9,gM true),(11,bD i1)]) (fun out1 l3 c2 i1 h=>nn h) (fun n2 ih1 out1 l3 c2 i1 h=>?_) fm BL none 0 (0:Int) h) (bf J);refine cU<|aE<|Q J<|bg pT iY eQ J<|ck fz J<|kw J<|bE h J (fun h=>?_) (fun h=>?_)
     ·refine dZ<|aA<|am<|aE<|bg pT iY eQ J<|Q J<|ci h fun e2 q_e2 h=>cW fz cj J q_e2<|T (du (Y J) hI)<|Q J<|aO J (cZ pT iY J J)<|aO J (cN eQ J J)<|aO J (cG J)<|aO J (fun H=>bm fz cj J (bG J H) (bG J H) q_e2)<|aO J (cN cj J J)<|aO J (cG J)<|aO J (jJ fz J)<|aO J (fun H=>eF (bG J H) (bG J H))<|fj J ?_;refine bE h J (fun h=>?_) (fun h=>?_)
      ·exact Z<|dO cI<|ca<|cK<|af<|bT<|af<|bT<|bT<|aG<|so h▸bH J J J
      ·refine dZ<|au<|Q J<|Q J<|bg pT iY eQ J<|Q J<|cW fz cj J q_e2<|ci h fun e3 q_e3 h=>cW fz cj J q_e3<|T (aI (r:=cI) (ys:=[e3]) (xs:=[.tmp 126]) fz cj J J J J J ⟨(Y J),O⟩)<|ci h fun out2 q_out2 h=>bW cj J J J J fz J J (Y J) (Y J) q_out2 fun l4 c3=>dC J<|aY<|ay<|ap<|au<|Q J<|T (eG (Y J) hI)<|dC J ?_;refine aY ?_;exact aR (aD (ih1 out2 l4 c3 (IntKind.i64.wrap (i1+(1:Int))) h) (bf J))
     ·refine d7<|aH<|aH<|cF<|ap<|aE<|bh<|bB<|am<|bA ?_;refine aD (MW (aF:=fun n3 out3 l5 c4 ok1 i2=>eU n a1 n3 out3 ok1 i2=some R) (Of:=fun out3 l5 c4 ok1 i2=>[ff cI 3 l5 c4 out3]) (Gf:=fun out3 l5 c4 ok1 i2=>[(1,kq a1),(3,bF aW n),(8,my l5 c4 out3),(9,gM ok1),(12,bD i2)]) (fun out3 l5 c4 ok1 i2 h=>nn h) (fun n3 ih2 out3 l5 c4 ok1 i2 h=>?_) fm out1 l3 c2 true (0:Int) h) (bf J);refine cU<|aE<|Q J<|bg oM kJ zY J<|ck uz J<|kw J<|bE h J (fun h=>?_) (fun h=>?_)
      ·refine dZ<|aA<|am<|Z<|bg oM kJ zY J<|Q J<|ci h fun e4 q_e4 h=>cW uz vu J q_e4<|Q J<|bS h afK (Zr _ _) (bj J) fun r2 h=>Q J<|bv J J<|bv J J<|dC J<|aC J<|Z ?_;refine Q J<|Q J<|T (aI (r:=cI) (ys:=[r2.1]) (xs:=[.tmp 147]) fz cj J J J J J ⟨(Y J),O⟩)<|ci h fun out4 q_out4 h=>bW cj J J J J fz J J (Y J) (Y J) q_out4 fun l6 c5=>aC J<|au<|Q J<|Q J<|aw J (cG J)<|dv J<|dC J<|aY<|ay<|ap<|au<|Q J<|T (eG (Y J) hI)<|dC J<|aY ?_;exact aR (aD (ih2 out4 l6 c5 (ok1&&r2.2) (IntKind.i64.wrap (i2+(1:Int))) h) (bf J))
      ·refine d7<|aH<|aH<|cF<|ap<|ax J<|Q J<|Q J<|aw J (cZ pT iY J J)<|aw J (cN eQ J J)<|aw J (jJ fz J)<|aw J (fun H=>jm (bG J H) hI)<|dv J<|Q J<|aw J (cZ oM kJ J J)<|aw J (cN zY J J)<|aw J (jJ uz J)<|aw J (fun H=>jm (bG J H) hI)<|dv J<|Q J<|aw J (cG J)<|aw J (fun H=>fO fz (.head _) (bG J H)) ?_;exact aw J (fun H=>dy (bG J H) hI)<|dv J<|dC J<|aM J<|bT<|dU<|bN 8 J<|bN 154 J<|bN 6 J<|dQ 6 J<|aG<|so h▸bH J J J
    ·refine Z<|bP J<|aC J<|gp h J (fun h=>?_) (fun h=>?_)
     ·refine aE<|bh<|bB<|am<|bA ?_;refine aD (MW (aF:=fun n4 out5 l7 c6 ok2 i3=>eT n a1 n4 out5 ok2 i3=some R) (Of:=fun out5 l7 c6 ok2 i3=>[ff cI 3 l7 c6 out5]) (Gf:=fun out5 l7 c6 ok2 i3=>[(1,kq a1),(3,bF aW n),(8,my l7 c6 out5),(9,gM ok2),(15,bD i3)]) (fun out5 l7 c6 ok2 i3 h=>nn h) (fun n4 ih3 out5 l7 c6 ok2 i3 h=>?_) fm BL none 0 true (0:Int) h) (bf J);refine cU<|aE<|Q J<|bg pS kI zX J<|ck vk J<|kw J<|bE h J (fun h=>?_) (fun h=>?_)
      ·refine dZ<|aA<|am<|Z<|bg pS kI zX J<|Q J<|ci h fun e5 q_e5 h=>cW vk jk J q_e5<|Q J<|bS h Wv (ME _ _) (bj J) fun r3 h=>Q J<|bv J J<|bv J J<|dC J<|aC J<|Z ?_;refine Q J<|Q J<|T (aI (r:=cI) (ys:=[r3.1]) (xs:=[.tmp 193]) fz cj J J J J J ⟨(Y J),O⟩)<|ci h fun out6 q_out6 h=>bW cj J J J J fz J J (Y J) (Y J) q_out6 fun l8 c7=>aC J<|au<|Q J<|Q J<|aw J (cG J)<|aw J (fV J)<|dv J<|dC J<|aY<|ay<|ap<|au<|Q J<|T (eG (Y J) hI)<|dC J<|aY ?_;exact aR (aD (ih3 out6 l8 c7 (ok2&&(r3.2==(0:Int))) (IntKind.i64.wrap (i3+(1:Int))) h) (bf J))
      ·refine d7<|aH<|aH<|cF<|ap<|ax J<|Q J<|Q J<|aw J (cG J)<|aw J (fun H=>fO fz (.head _) (bG J H))<|aw J (fun H=>eF (bG J H) hI)<|dv J<|Q J<|aw J (cG J)<|aw J (fun H=>fO fz (.head _) (bG J H))<|aw J (fun H=>jm (bG J H) hI)<|dv J<|dC J<|aM J ?_;exact bT<|dU<|bN 8 J<|bN 201 J<|bN 6 J<|dQ 6 J<|aG<|so h▸bH J J J
     ·refine Z<|bP J<|aC J<|gp h J (fun h=>?_) (fun h=>?_)
      ·exact ax J<|dC J<|ca<|cK<|bT<|aG<|so h▸bH J J J
      ·refine Z<|bP J<|aC J<|gp h J (fun h=>?_) (fun h=>?_)
       ·refine aE<|Q J<|ck fz J<|Q J<|ck fz J<|T (d6 (Y J) (Y J))<|bE h J (fun h=>?_) (fun h=>?_)
        ·exact Z<|dO cI<|ca<|cK<|af<|bT<|aG<|so h▸bH J J J
        ·refine dZ<|aE<|bh<|bB<|am<|aZ (k:=1) J fun hN=>bA ?_;refine aD (lQ (aF:=fun ls i4 out7 l9 c8 ok3=>(a1.drop i4=ls)/\dW b ls i4 out7 ok3=some R) (Of:=fun _ i4 out7 l9 c8 ok3=>[ff cI 3 l9 c8 out7]) (Gf:=fun _ i4 out7 l9 c8 ok3=>[(1,kq a1),(2,kq b),(8,my l9 c8 out7),(9,gM ok3),(18,bD (i4:Int))]) (fun i4 out7 l9 c8 ok3 h=>?_) (fun e6 tl ih4 i4 out7 l9 c8 ok3 h=>?_) a1 0 BL none 0 true ⟨J,h⟩) (bf J)
         ·obtain⟨V,h⟩:=h
          refine pW fz V J<|ap<|ax J<|Q J<|dC J<|aC J ?_;exact fD<|bT<|dU<|bN 8 J<|bN 259 J<|bN 6 J<|dQ 6 J<|aG<|so h▸bH J J J
         ·obtain⟨V,h⟩:=h
          refine pV fz V J<|aA<|am<|ax J<|Q J<|cW fz cj J (cD V)<|aC J ?_;refine fi (aF:=fun k=>jd b (dW b tl) i4 out7 ok3 k=some R) (Of:=fun k=>[ff cI 3 l9 c8 out7]) (Gf:=fun k=>[(1,kq a1),(2,kq b),(8,my l9 c8 out7),(9,gM ok3),(18,bD (i4:Int)),(19,bD k)]) (fun k h=>?_) (fun h2=>?_)
          ·skip
           refine ax J<|Q J<|T (aI (r:=cI) (ys:=[k]) (xs:=[.tmp 240]) fz cj J J J J J ⟨(Y J),O⟩)<|ci h fun out8 q_out8 h=>bW cj J J J J fz J J (Y J) (Y J) q_out8 fun l10 c9=>aC J<|au<|Q J<|Q J<|ci h fun t2 q_t2 h=>aw J (cG J)<|aw J (cG J) ?_
           obtain⟨e7,h1t2,h0t2⟩:=og q_t2
           have q_e7g:=fun M=>(h1t2 M).1
           refine aw J (fun H=>bm fz cj J (bG J H) (bG J H) (q_e7g H))<|aw J (cN cj J J)<|aw J (cG J)<|aw J (fun H=>iK (bG J H) (bG J H))<|aw J (mJ J) ?_
           obtain⟨t3,h1t2⟩:=RI (fun M=>(h1t2 M).2)
           have q_t3g:=fun M=>(h1t2 M).1
           refine dB J J J J (fun H=>gL J)<|dB J J J J (fun H=>gL J) ?_
           obtain⟨e8,h1t3,h0t3⟩:=og3 q_t3g
           have q_e8g:=fun M=>(h1t3 M).1
           refine dB J J J J (fun H=>bm fz cj J (bG J H) (bG J H) (q_e8g H))<|dB J J J J (fun H=>cJ cj J J (bG J H))<|dB J J J J (fun H=>iK (bG J H) hI)<|aw J (fun H=>eC (bG J H) (fun M=>(bG J (nC H (pQ M)))) (fun M=>(h1t3 (nC H M)).2) (fun M=>h0t3 H M))<|T (cQ (Y J) (fun M=>(bG J M)) (fun M=>(h1t2 M).2) h0t2)<|dC J<|aY<|lH V hN J ?_;exact aR (aD (ih4 (i4+1) out8 l10 c9 t2 ⟨cH V,h⟩) (bf J))
          ·skip
           refine ax J<|bP J<|bE h J (fun h=>?_) (fun h=>?_)
           ·refine au<|Q J<|Q J<|ci h fun e9 q_e9 h=>cW fz cj J q_e9<|dC J<|aY ?_;exact ce (h2 e9 h) (bf J)
           ·refine bc ?_;exact ce (h2 e6 h) (bf J)
       ·refine bc<|ay<|ap<|aE<|bh<|bB<|am<|bA<|mI ?_;refine aD (GO (aF:=fun n5 ok4 i5=>dV n a1 n5 ok4 i5=some R) (Of:=fun ok4 i5=>[]) (Gf:=fun ok4 i5=>[(1,kq a1),(3,bF aW n),(9,gM ok4),(20,bD i5)]) (fun ok4 i5 h=>nn h) (fun n5 ih5 ok4 i5 h=>?_) fm true (0:Int) h) (bf J);refine cU<|aE<|Q J<|bg pX kh Cy J<|ck xu J<|kw J<|bE h J (fun h=>?_) (fun h=>?_)
        ·refine dZ<|aA<|am<|au<|Q J<|Q J<|ci h fun t4 q_t4 h=>aw J (cZ pX kh J J)<|aw J (cN Cy J J)<|aw J (cG J) ?_
         obtain⟨e10,h1t4,h0t4⟩:=og q_t4
         have q_e10g:=fun M=>(h1t4 M).1
         refine aw J (fun H=>bm xu zF J (bG J H) (bG J H) (q_e10g H))<|aw J (fun H=>oK xm J uS J (bG J H))<|aw J (cN cj J J)<|aw J (fun H=>eF (bG J H) hI)<|T (cQ (Y J) (fun M=>(bG J M)) (fun M=>(h1t4 M).2) h0t4)<|Q J<|ci h fun t5 q_t5 h=>aw J (cZ pX kh J J)<|aw J (cN Cy J J)<|aw J (cG J) ?_
         obtain⟨e11,h1t5,h0t5⟩:=og q_t5
         have q_e11g:=fun M=>(h1t5 M).1
         refine aw J (fun H=>bm xu zF J (bG J H) (bG J H) (q_e11g H))<|aw J (fun H=>oK xm J uS J (bG J H))<|aw J (cN cj J J)<|aw J (cG J)<|aw J (jJ fz J)<|aw J (fun H=>du (bG J H) (bG J H))<|T (cQ (Y J) (fun M=>(bG J M)) (fun M=>(h1t5 M).2) h0t5)<|dC J<|aY<|ay<|ap<|au<|Q J<|T (eG (Y J) hI)<|dC J<|aY ?_;exact aR (aD (ih5 t5 (IntKind.i64.wrap (i5+(1:Int))) h) (bf J))
        ·refine d7<|aH<|aH<|cF<|ap<|aA ?_
         refine iQ (ts:=[_,_,_,_,_,_,_,_,_,_,_,_,_,_,_,_,_,_,_,_]) mixed J J
          ⟨dc J J,
          ⟨dc J J,
          ⟨cT 290 1 J J (gL J),
          ⟨jF 3 291 2 J J J (bU J J J J (fun H=>ic pX kh J J)),
          ⟨fq 292 3 291 2 J J J (bU J J J J (fun H=>cJ Cy J J (bG J H))),
          ⟨fq 293 4 291 2 J J J (bU J J J J (fun H=>kZ xu (bG J H))),
          ⟨fq 294 5 291 2 J J J (bU J J J J (fun H=>jm (bG J H) hI)),
          ⟨cM 291 2 295 6 J J J (UB J J),
          ⟨cT 296 7 J J (gL J),
          ⟨jF 3 297 8 J J J (bU J J J J (fun H=>ic vE oy J J)),
          ⟨fq 298 9 297 8 J J J (bU J J J J (fun H=>cJ cj J J (bG J H))),
          ⟨fq 299 10 297 8 J J J (bU J J J J (fun H=>eF (bG J H) hI)),
          ⟨cM 297 8 300 11 J J J (UB J J),
          ⟨cT 301 12 J J (gL J),
          ⟨jF 3 302 13 J J J (bU J J J J (fun H=>ic vE oy J J)),
          ⟨fq 303 14 302 13 J J J (bU J J J J (fun H=>cJ cj J J (bG J H))),
          ⟨fq 304 15 302 13 J J J (bU J J J J (fun H=>jm (bG J H) hI)),
          ⟨cM 302 13 305 16 J J J (UB J J),
          ⟨cT 289 0 J J (sE J),
          ⟨cT 306 17 J J (sE J),
          O⟩⟩⟩⟩⟩⟩⟩⟩⟩⟩⟩⟩⟩⟩⟩⟩⟩⟩⟩⟩ ?_
         exact ap<|fD<|so h▸bH J J J

end Go.Proofs.YtpgjgkdpeagjbaaGreatDoor

