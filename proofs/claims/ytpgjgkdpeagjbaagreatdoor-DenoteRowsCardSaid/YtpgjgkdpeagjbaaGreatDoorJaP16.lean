/- eJ of this claim: P16. -/
import Derived.Test.YtpgjgkdpeagjbaaGreatDoorJaT
import Derived.Test.YtpgjgkdpeagjbaaGreatDoorJaP15
set_option linter.all false
namespace Go.Proofs.YtpgjgkdpeagjbaaGreatDoor
open Go
set_option maxRecDepth 100000

def Yb: ∀(fu:Nat) (l:cC) (at1:Int) {R:(List Int)×Bool} (h:cV fu l at1=some R),bY aU 38 [tD cX l,bD at1] (tT [kq R.1,gM R.2]):=by
 intro fu
 induction fu with
 |zero=>intro l at1 R h;exact(nn h).elim
 |succ fu ih=>
  intro l at1 R h
  refine co Tryz.func38 J<|Z<|bO J<|dO cI<|ca<|bB<|aE<|bn ny J<|Q J<|bS h We (VK _ _) (bj J) fun r h=>bP J<|Q J<|ci h fun t q_t h=>aO J (cZ mM gi J J)<|aO J (cN wR J J)<|aO J (cG J) ?_
  obtain⟨e,h1t,h0t⟩:=og q_t
  have q_eg:=fun M=>(h1t M).1
  refine aO J (fun H=>bm tm iE J (bG J H) (bG J H) (q_eg H))<|aO J (cN iE J J) ?_
  obtain⟨r1,h1t⟩:=RI (fun M=>(h1t M).2)
  have q_r1g:=fun M=>(h1t M).1
  refine aO J (fun H=>bo agH (ab6 _ (q_r1g H)) ⟨(bG J H),O⟩)<|aO J (nI J)<|T (eC (Y J) (fun M=>(bG J (pQ M))) (fun M=>(h1t M).2) h0t)<|bE h J (fun h=>?_) (fun h=>?_)
  ·exact Z<|dO cI<|ca<|cK<|af<|so h▸bH J J J
  ·refine dZ<|Z<|bg mM gi wR J<|Q J<|ci h fun e1 q_e1 h=>cW tm iE J q_e1<|aQ iE mS J fun b=>be iE ah J<|aV 6 J<|bB<|Z<|dO cI<|dO cI<|bB ?_;refine fi (aF:=fun a1=>fM (cV fu) l at1 e1 a1=some R) (Of:=fun a1=>[]) (Gf:=fun a1=>[(1,bD at1),(2,bF cX l),(6,bF aW e1),(7,kq a1),(8,kq ([]))]) (fun a1 h=>?_) (fun h2=>?_)
   ·skip
    refine fi (aF:=fun b1=>iu l at1 e1 a1 b1=some R) (Of:=fun b1=>[]) (Gf:=fun b1=>[(1,bD at1),(2,bF cX l),(6,bF aW e1),(7,kq a1),(8,kq b1)]) (fun b1 h=>?_) (fun K1=>?_)
    ·skip
     refine Z<|bn iE J<|Q J<|Q J<|bS h agG (ab5 _ _ _) (bj J) fun r2 h=>Q J<|bv J J<|bv J J<|dC J<|aC J<|aE<|bg oN gJ cj J<|bP J<|Q J<|aw J (cG J)<|aw J (cZ mM gi J J)<|aw J (cN wR J J) ?_;refine aw J (jJ tm J)<|aw J (fun H=>dX (bG J H) hI)<|aw J (fun H=>d6 (bG J H) (bG J H))<|dv J<|Q J<|aO J (cG J)<|aO J (jJ fz J)<|aO J (fun H=>dy (bG J H) hI)<|fj J<|bE h J (fun h=>?_) (fun h=>?_)
     ·exact Z<|dO cI<|ca<|cK<|af<|so h▸bH J J J
     ·exact dZ<|ax J<|Q J<|dC J<|aM J<|so h▸bH J J J
    ·skip
     refine Z<|bg mL fW cj J<|T (eF (Y J) hI)<|bE h J (fun h=>?_) (fun h=>?_)
     ·refine Z<|bn ny J<|bg mL fW cj J<|bS h ZF (ih _ _) (bj J) fun r3 h=>Q J<|bv J J<|bv J J<|dC J<|aC J<|aE<|Q J<|T (dY (Y J))<|bE h J (fun h=>?_) (fun h=>?_)
      ·exact Z<|dO cI<|ca<|cK<|af<|af<|so h▸bH J J J
      ·refine dZ<|au<|Q J<|dC J<|aY ?_;exact ce (K1 r3.1 h) (bf J)
     ·refine bc ?_;exact ce (K1 ([]) h) (bf J)
   ·skip
    refine Z<|bg iO de cj J<|T (eF (Y J) hI)<|bE h J (fun h=>?_) (fun h=>?_)
    ·refine Z<|bn ny J<|bg iO de cj J<|bS h ZF (ih _ _) (bj J) fun r4 h=>Q J<|bv J J<|bv J J<|dC J<|aC J<|aE<|Q J<|T (dY (Y J))<|bE h J (fun h=>?_) (fun h=>?_)
     ·exact Z<|dO cI<|ca<|cK<|af<|af<|so h▸bH J J J
     ·refine dZ<|au<|Q J<|dC J<|aY ?_;exact ce (h2 r4.1 h) (bf J)
    ·refine bc ?_;exact ce (h2 ([]) h) (bf J)
def VN l at1{R}(h:mX l at1=some R):bY aU 38 [tD cX l,bD at1] (tT [kq R.1,gM R.2]):=Yb fm l at1 h

def acg l{R}(h:sq l=some R):bY aU 36 [tD cX l] (bD R):=by
 refine co Tryz.func36 J<|Z<|bO J<|bh<|bB<|Z<|bg mM gi wR J<|ck tm J<|aC J<|aE<|Q J<|T (du (Y J) hI)<|Q J<|aO J (cG J)<|aO J (fun H=>dy (bG J H) hI)<|fj J ?_;refine bE h J (fun h=>?_) (fun h=>?_)
 ·exact Z<|cd<|af<|so h▸av J J
 ·refine dZ<|aE<|bh<|bB<|am<|aZ (k:=8) J fun hN=>bA ?_;refine aD (eI (aF:=fun ls i=>(l.Nodes.drop i=ls)/\ge l ls i=some R) (Of:=fun _ i=>[]) (Gf:=fun _ i=>[(1,bF cX l),(3,kP l.Nodes),(4,bD (i:Int))]) (fun i h=>?_) (fun e tl ih i h=>?_) l.Nodes 0 ⟨J,h⟩) (bf J)
  ·obtain⟨V,h⟩:=h
   refine cU<|aE<|Q J<|Q J<|kw J<|bB<|pr (Y J) (KG V)<|d7<|aH<|aH<|cF<|ap<|aE<|bn ny J<|Q J<|T (dX (Y J) hI)<|bS h We (VK _ _) (bj J) fun r h=>Q J ?_;refine T (d6 (Y J) (Y J))<|bE h J (fun h=>?_) (fun h=>?_)
   ·exact ax J<|T (dX (Y J) hI)<|aM J<|af<|so h▸av J J
   ·exact dZ<|Z<|cd<|so h▸av J J
  ·obtain⟨V,h⟩:=h
   refine cU<|aE<|Q J<|Q J<|kw J<|bB<|pq (Y J) (Iy V)<|dZ<|aA<|am<|Z<|bn ny J<|Q J<|bS h ZF (VN _ _) (bj J) fun r1 h=>Q J<|bv J J<|bv J J<|dC J ?_;refine aC J<|ax J<|T (dY (Y J))<|bE h J (fun h=>?_) (fun h=>?_)
   ·exact ax J<|aM J<|bT<|af<|bT<|so h▸av J J
   ·refine bc<|lH V hN J ?_;exact aR (aD (ih (i+1) ⟨cH V,h⟩) (bf J))

def acv l{R}(h:w8 l=some R):bY aU 12 [tD cX l] (gM R):=by
 exact co Tryz.func12 J<|Z<|bO J<|ca<|bB<|Z<|bn ny J<|bS h agT (acg _) (bj J) fun r h=>T (du (Y J) hI)<|aM J<|so h▸av J J

def acf l kinds{R}(h:wl l kinds=some R):bY aU 37 [cr (cu) l,kq kinds] (gM R):=by
 refine co Tryz.func37 J<|Z<|ca<|bB<|aE<|Q J<|ck eK J<|T (dy (Y J) hI)<|bE h J (fun h=>?_) (fun h=>?_)
 ·exact Z<|ca<|cK<|af<|so h▸av J J
 ·refine dZ<|aE<|bh<|bB<|am<|aZ (k:=0) J fun hN=>bA ?_;refine aD (eI (aF:=fun ls i=>(l.drop i=ls)/\pz kinds ls=some R) (Of:=fun _ i=>[]) (Gf:=fun _ i=>[(0,cr (cu) l),(1,kq kinds),(5,bD (i:Int))]) (fun i h=>?_) (fun e tl ih i h=>?_) l 0 ⟨J,h⟩) (bf J)
  ·obtain⟨V,h⟩:=h
   exact pW eK V J<|ap<|Z<|ca<|cK<|so h▸av J J
  ·obtain⟨V,h⟩:=h
   refine pV eK V J<|aA<|am<|aE<|Q J<|Q J<|cW eK cP J (cD V)<|ck nD J<|Q J ?_;refine ck fz J<|T (d6 (Y J) (Y J))<|bE h J (fun h=>?_) (fun h=>?_)
   ·exact Z<|ca<|cK<|af<|bT<|af<|bT<|so h▸av J J
   ·refine dZ<|Z<|bh<|bB<|am<|aZ (k:=1) J fun hN1=>bA ?_;refine aD (eI (aF:=fun ls1 i1=>(kinds.drop i1=ls1)/\py (pz kinds tl) e ls1 i1=some R) (Of:=fun _ i1=>[]) (Gf:=fun _ i1=>[(0,cr (cu) l),(1,kq kinds),(5,bD (i:Int)),(6,bD (i1:Int))]) (fun i1 h=>?_) (fun e1 tl1 ih1 i1 h=>?_) kinds 0 ⟨J,h⟩) (bf J)
    ·obtain⟨hx1,h⟩:=h
     refine pW fz hx1 J<|lH V hN J ?_;exact aR (aD (ih (i+1) ⟨cH V,h⟩) (bf J))
    ·obtain⟨hx1,h⟩:=h
     refine pV fz hx1 J<|aA<|am<|ax J<|Q J<|cW eK cP J (cD V)<|Q J<|ci h fun e2 q_e2 h=>Dt nD an J q_e2 ?_;refine bn an J<|aQ an aL J fun b=>be an ah J<|aV 7 J<|bB<|aA<|ci h fun r q_r h=>?_
     refine iQ (ts:=[_,_,_,_,_,_,_,_,_,_,_,_,_,_,_,_,_]) mixed J J
      ⟨jH 7 J J (nE an J J),
      ⟨cT 38 0 J J (bo Er (ta _ q_r) ⟨(Y J),O⟩),
      ⟨cT 39 1 J J (dY (Y J)),
      ⟨cT 40 2 J J (gL J),
      ⟨jF 7 41 3 J J J (gV J J J J (fun H=>ic cY bC J J)),
      ⟨fq 42 4 41 3 J J J (gV J J J J (fun H=>cJ cj J J (bG J H))),
      ⟨fq 43 5 41 3 J J J (gV J J J J (fun H=>d6 (bG J H) hI)),
      ⟨fq 44 6 41 3 J J J (gV J J J J (fun H=>cv (bG J H))),
      ⟨jF 7 45 7 J J J (pZ J J J J (fun H=>ic cY bC J J)),
      ⟨fq 46 8 45 7 J J J (pZ J J J J (fun H=>cJ cj J J (bG J H))),
      ⟨jF 1 45 7 J J J (pZ J J J J (fun H=>gL J)),
      ⟨jF 6 45 7 J J J (pZ J J J J (fun H=>gL J)),
      ⟨lZ 48 10 49 11 45 7 J J J J (pZ J J J J (fun H=>bm fz cj J (bG J H) (bG J H) (cD hx1))),
      ⟨fq 50 12 45 7 J J J (pZ J J J J (fun H=>cJ cj J J (bG J H))),
      ⟨lZ 47 9 51 13 45 7 J J J J (pZ J J J J (fun H=>d6 (bG J H) (bG J H))),
      ⟨lZ 45 7 52 14 41 3 J J J J (gV J J J J (fun H=>gG (bG J H) (fun M=>(bG J (nC H M))))),
      ⟨cM 41 3 53 15 J J J (zpo J J),
      O⟩⟩⟩⟩⟩⟩⟩⟩⟩⟩⟩⟩⟩⟩⟩⟩⟩ ?_
     refine ap<|gp h J (fun h=>?_) (fun h=>?_)
     ·exact Z<|ca<|cK<|bT<|af<|lq<|bT<|af<|bT<|so h▸av J J
     ·refine bc<|lH hx1 hN1 J ?_;exact aR (aD (ih1 (i1+1) ⟨cH hx1,h⟩) (bf J))

def acu l b{R}(h:CJ l b=some R):bY aU 13 [tD cX l,tD fX b] (gM R):=by
 refine co Tryz.func13 J<|Z<|bO J<|bO J<|ca<|bB<|aE<|bh<|bB<|am<|bA ?_;refine aD (zB (aF:=fun n i=>pD l b n i=some R) (Of:=fun i=>[]) (Gf:=fun i=>[(2,bF cX l),(3,bF fX b),(5,bD i)]) (fun i h=>nn h) (fun n ih i h=>?_) fm (0:Int) h) (bf J);refine cU<|aE<|Q J<|bg mM gi wR J<|ck tm J<|kw J<|bE h J (fun h=>?_) (fun h=>?_)
 ·refine dZ<|aA<|am<|Z<|bg mM gi wR J<|Q J<|ci h fun e q_e h=>cW tm iE J q_e<|aQ iE mS J fun b1=>be iE ah J<|aV 6 J<|bB<|aA<|ci h fun t q_t h=>?_
  obtain⟨t1,h1t,h0t⟩:=og q_t
  have q_t1g:=fun M=>(h1t M).1
  obtain⟨e1,h1t1,h0t1⟩:=og3 q_t1g
  have q_e1g:=fun M=>(h1t1 M).1
  obtain⟨r,h1t1⟩:=RI (fun M=>(h1t1 M).2)
  have q_rg:=fun M=>(h1t1 M).1
  refine iQ (ts:=[_,_,_,_,_,_,_,_,_,_,_,_,_,_,_,_,_,_,_,_,_,_,_]) mixed J J
   ⟨jH 6 J J (ic oN gJ J J),
   ⟨dh 0 cj J J,
   ⟨cT 20 1 J J (Uy J),
   ⟨cT 21 2 J J (gL J),
   ⟨jF 6 22 3 J J J (bU J J J J (fun H=>ic qX jp J J)),
   ⟨fq 23 4 22 3 J J J (bU J J J J (fun H=>cJ cj J J (bG J H))),
   ⟨jF 3 22 3 J J J (bU J J J J (fun H=>ic oO jB J J)),
   ⟨fq 25 6 22 3 J J J (bU J J J J (fun H=>cJ q6 J J (bG J H))),
   ⟨fq 26 7 22 3 J J J (bU J J J J (fun H=>kZ lr (bG J H))),
   ⟨lZ 24 5 27 8 22 3 J J J J (bU J J J J (fun H=>eF (bG J H) (bG J H))),
   ⟨fq 28 9 22 3 J J J (bU J J J J (fun H=>cv (bG J H))),
   ⟨jF 3 29 10 J J J (ln J J J J (fun H=>ic oO jB J J)),
   ⟨fq 30 11 29 10 J J J (ln J J J J (fun H=>cJ q6 J J (bG J H))),
   ⟨jF 6 29 10 J J J (ln J J J J (fun H=>ic qX jp J J)),
   ⟨fq 32 13 29 10 J J J (ln J J J J (fun H=>cJ cj J J (bG J H))),
   ⟨lZ 31 12 33 14 29 10 J J J J (ln J J J J (fun H=>bm lr gb J (bG J H) (bG J H) (q_e1g H))),
   ⟨fq 34 15 29 10 J J J (ln J J J J (fun H=>cJ gb J J (bG J H))),
   ⟨jF 6 29 10 J J J (ln J J J J (fun H=>ic pU iZ J J)),
   ⟨fq 36 17 29 10 J J J (ln J J J J (fun H=>cJ eQ J J (bG J H))),
   ⟨lZ 35 16 37 18 29 10 J J J J (ln J J J J (fun H=>bo agS (acf _ _ (q_rg H)) ⟨(bG J H),(bG J H),O⟩)),
   ⟨fq 38 19 29 10 J J J (ln J J J J (fun H=>dY (bG J H))),
   ⟨lZ 29 10 39 20 22 3 J J J J (bU J J J J (fun H=>eC (bG J H) (fun M=>(bG J (nC H (pQ M)))) (fun M=>(h1t1 (nC H M)).2) (fun M=>h0t1 H M))),
   ⟨cM 22 3 40 21 J J J (cQ (Y J) (fun M=>(bG J M)) (fun M=>(h1t M).2) h0t),
   O⟩⟩⟩⟩⟩⟩⟩⟩⟩⟩⟩⟩⟩⟩⟩⟩⟩⟩⟩⟩⟩⟩⟩ ?_
  refine ap<|gp h J (fun h=>?_) (fun h=>?_)
  ·exact Z<|ca<|cK<|bT<|af<|bT<|so h▸av J J
  ·refine bc<|ay<|ap<|au<|Q J<|T (eG (Y J) hI)<|dC J<|aY ?_;exact aR (aD (ih (IntKind.i64.wrap (i+(1:Int))) h) (bf J))
 ·exact d7<|aH<|aH<|cF<|ap<|Z<|ca<|cK<|so h▸av J J

def xn n{R}(h:lj n=some R):bY aU 173 [bD n] (tD ae R):=by
 exact co Tryz.func173 J<|Z<|aQ an aL J fun b=>bB<|ax J<|T (bM (y:=(⟨(2:Int),n,(0:Int),[]⟩:ac)) an jg aL (⟨_,_,_,_,_,J,lu,J,hI,⟨_,_,_,_,_,J,nf,J,(Y J),J⟩⟩))<|be an ah J<|aV 2 J<|cK<|so h▸fT J an J J J

def Mv v{R}(h:qp v=some R):bY aU 236 [tD ae v] (gM R):=by
 refine co Tryz.func236 J<|Z<|bO J<|ca<|bB<|Z<|bn an J<|bS h Er (ta _) (bj J) fun r h=>Q J<|aw J (cZ cY bC J J)<|aw J (cN cj J J)<|aw J (fV J)<|aw J (mJ J)<|dB J J J J (fun H=>ic cY bC J J)<|dB J J J J (fun H=>cJ cj J J (bG J H))<|dB J J J J (fun H=>iK (bG J H) hI)<|aw J (fun H=>nW (bG J H) (fun M=>(bG J (nC H (pQ M)))))<|dv J<|dC J<|aY ?_;exact ap<|fD<|so h▸av J J

def GF n u{R}(h:sY n u=some R):bY aU 240 [bD n,tD o8 u] (tD dE R):=by
 refine co Tryz.func240 J<|Z<|aQ hM u6 J fun b=>bB<|Z<|aQ hM u6 J fun b1=>bB<|ax J<|T (oL xO xv (Y J))<|Q J<|dC J<|aC J ?_;refine vY (aF:=fun high low b2=>ow high low b2=some R) (Of:=fun high low b2=>[bx dE 234 b Le,bx dE 234 b1 b2]) (Gf:=fun high low b2=>[(4,tV (ba b 0)),(5,tV (ba b1 0)),(6,tD o8 high),(7,tD o8 low)]) (fun high low b2 h=>?_) (fun h2=>?_)
 ·skip
  refine ax J<|T (EX (Y J) hI (by decide))<|Q J<|T (vc (Y J) hI (by decide))<|Q J<|T (EX (Y J) hI (by decide))<|Q J<|T (vc (Y J) hI (by decide))<|eZ 0 ik J<|T (gY (n:=8) (off:=0) rK hU (Y J) hI (by decide))<|o6 (EffOK.fr1 (qu (q:=o8) (off:=0+(0:Int).toNat*1) (y0:=((low).tmod (4294967296:Int))) hU J (uF (off:=0) (nY kH fQ J J) (uE (by decide)) (oE sP) (qO (by decide)) J) (xl (d:=0) (sz:=1) (n:=8) (by decide) J) (Y J) (Y J))) fun _=>?_;refine(show RG _ _ _ _ [_,_] _ from ?_);refine eZ 0 ik J<|T (gY (n:=8) (off:=0) rK hU (Y J) hI (by decide))<|o6 (qu (q:=o8) (off:=0+(1:Int).toNat*1) (y0:=((low).fdiv GZ)) hU J (uF (off:=0) (nY kH fQ J J) (uE (by decide)) (oE sP) (qO (by decide)) J) (xl (d:=0) (sz:=1) (n:=8) (by decide) J) (Y J) (Y J)) fun _=>?_;refine(show RG _ _ _ _ [_,_] _ from ?_);refine eZ 0 ik J<|T (gY (n:=8) (off:=0) rK hU (Y J) hI (by decide))<|o6 (qu (q:=o8) (off:=0+(2:Int).toNat*1) (y0:=((high).tmod (4294967296:Int))) hU J (uF (off:=0) (nY kH fQ J J) (uE (by decide)) (oE sP) (qO (by decide)) J) (xl (d:=0) (sz:=1) (n:=8) (by decide) J) (Y J) (Y J)) fun _=>?_;refine(show RG _ _ _ _ [_,_] _ from ?_);refine eZ 0 ik J<|T (gY (n:=8) (off:=0) rK hU (Y J) hI (by decide))<|o6 (qu (q:=o8) (off:=0+(3:Int).toNat*1) (y0:=((high).fdiv GZ)) hU J (uF (off:=0) (nY kH fQ J J) (uE (by decide)) (oE sP) (qO (by decide)) J) (xl (d:=0) (sz:=1) (n:=8) (by decide) J) (Y J) (Y J)) fun _=>?_;refine(show RG _ _ _ _ [_,_] _ from ?_);exact bB<|Z<|T (bR (x:=({({({({b2 with D:=(b2.D.set (0:Int).toNat ((low).tmod (4294967296:Int)))}:d8)with D:=((({b2 with D:=(b2.D.set (0:Int).toNat ((low).tmod (4294967296:Int)))}:d8).D).set (1:Int).toNat ((low).fdiv GZ))}:d8)with D:=((({({b2 with D:=(b2.D.set (0:Int).toNat ((low).tmod (4294967296:Int)))}:d8)with D:=((({b2 with D:=(b2.D.set (0:Int).toNat ((low).tmod (4294967296:Int)))}:d8).D).set (1:Int).toNat ((low).fdiv GZ))}:d8).D).set (2:Int).toNat ((high).tmod (4294967296:Int)))}:d8)with D:=((({({({b2 with D:=(b2.D.set (0:Int).toNat ((low).tmod (4294967296:Int)))}:d8)with D:=((({b2 with D:=(b2.D.set (0:Int).toNat ((low).tmod (4294967296:Int)))}:d8).D).set (1:Int).toNat ((low).fdiv GZ))}:d8)with D:=((({({b2 with D:=(b2.D.set (0:Int).toNat ((low).tmod (4294967296:Int)))}:d8)with D:=((({b2 with D:=(b2.D.set (0:Int).toNat ((low).tmod (4294967296:Int)))}:d8).D).set (1:Int).toNat ((low).fdiv GZ))}:d8).D).set (2:Int).toNat ((high).tmod (4294967296:Int)))}:d8).D).set (3:Int).toNat ((high).fdiv GZ))}:d8)) hM J J bz (.head _) (Y J))<|bu<|be hM ah J<|aV 4 J<|cK<|aG<|so h▸fT J hM J J J
 ·skip
  refine ax J<|T (du (Y J) hI)<|bE h J (fun h=>?_) (fun h=>?_)
  ·refine Z<|eZ 8 na J<|dA zZ J xY J (Y J) hB<|bB<|ax J<|T (LU (Y J))<|Q J<|T (LU (Y J))<|dC J<|aC J<|ax J<|T (eG (Y J) hI)<|aC J<|aA ?_;refine au<|Q J<|bP J<|bE h J (fun h=>?_) (fun h=>?_)
   ·refine au<|Q J<|T (eG (Y J) hI)<|dC J<|aY<|bK ?_;exact ce (h2 (IntKind.u64.wrap ((fx .xor .u64 (if IntKind.u64.signed then -1 else IntKind.u64.max) (IntKind.u64.wrap n))+(1:Int))) (IntKind.u64.wrap ((fx .xor .u64 (if IntKind.u64.signed then -1 else IntKind.u64.max) u)+(1:Int))) (d8.mk Le.D true) h) (bf J)
   ·refine bc<|bK ?_;exact ce (h2 (fx .xor .u64 (if IntKind.u64.signed then -1 else IntKind.u64.max) (IntKind.u64.wrap n)) (IntKind.u64.wrap ((fx .xor .u64 (if IntKind.u64.signed then -1 else IntKind.u64.max) u)+(1:Int))) (d8.mk Le.D true) h) (bf J)
  ·refine bc<|bK ?_;exact ce (h2 (IntKind.u64.wrap n) u Le h) (bf J)

def uw n{R}(h:gX n=some R):bY aU 238 [bD n] (tD dE R):=by
 refine co Tryz.func238 J<|Z<|aQ hM u6 J fun b=>bB<|aE<|Q J<|T (du (Y J) hI)<|bE h J (fun h=>?_) (fun h=>?_)
 ·exact ax J<|T (oL xO xv (Y J))<|bS h SR (GF _ _) (bj J) fun r h=>be hM ah J<|cK<|af<|aB 2 J<|so h▸fT J hM J J J
 ·exact dZ<|ax J<|T (oL xO xv (Y J))<|bS h SR (GF _ _) (bj J) fun r1 h=>be hM ah J<|cK<|aB 2 J<|so h▸fT J hM J J J

def Yf a1 b{R}(h:tM a1 b=some R):bY aU 279 [tD dE a1,tD dE b] (gM R):=by
 refine co Tryz.func279 J<|Z<|bO J<|bO J<|ca<|bB<|aE<|bh<|bB<|am<|bA ?_;refine aD (zB (aF:=fun n i=>mh a1 b n i=some R) (Of:=fun i=>[]) (Gf:=fun i=>[(2,bF dE a1),(3,bF dE b),(5,bD i)]) (fun i h=>nn h) (fun n ih i h=>?_) fm (7:Int) h) (bf J);refine cU<|aE<|Q J<|T (eF (Y J) hI)<|bE h J (fun h=>?_) (fun h=>?_)
 ·refine dZ<|aA<|am<|aA<|ci h fun e q_e h=>ci h fun e1 q_e1 h=>?_
  refine iQ (ts:=[_,_,_,_,_,_,_,_,_]) mixed J J
   ⟨dc J J,
   ⟨jH 2 J J (ic ik fQ J J),
   ⟨cM 11 1 10 0 J J J (fE rK hU J (Y J) (Y J) q_e),
   ⟨dh 2 hU J J,
   ⟨dc J J,
   ⟨jH 3 J J (ic ik fQ J J),
   ⟨cM 15 5 14 4 J J J (fE rK hU J (Y J) (Y J) q_e1),
   ⟨dh 6 hU J J,
   ⟨cM 13 3 17 7 J J J (d6 (Y J) (Y J)),
   O⟩⟩⟩⟩⟩⟩⟩⟩⟩ ?_
  refine ap<|gp h J (fun h=>?_) (fun h=>?_)
  ·refine aA ?_
   refine iQ (ts:=[_,_,_,_,_,_,_,_,_,_]) mixed J J
    ⟨dc J J,
    ⟨jH 2 J J (ic ik fQ J J),
    ⟨cM 20 1 19 0 J J J (fE rK hU J (Y J) (Y J) q_e),
    ⟨dh 2 hU J J,
    ⟨dc J J,
    ⟨jH 3 J J (ic ik fQ J J),
    ⟨cM 24 5 23 4 J J J (fE rK hU J (Y J) (Y J) q_e1),
    ⟨dh 6 hU J J,
    ⟨cM 22 3 26 7 J J J (zlt J J),
    ⟨cT 27 8 J J (sE J),
    O⟩⟩⟩⟩⟩⟩⟩⟩⟩⟩ ?_
   exact ap<|fD<|bT<|af<|bT<|so h▸av J J
  ·refine bc<|ay<|ap<|au<|Q J<|T (dX (Y J) hI)<|dC J<|aY ?_;exact aR (aD (ih (IntKind.i64.wrap (i-(1:Int))) h) (bf J))
 ·exact d7<|aH<|aH<|cF<|ap<|Z<|ca<|cK<|so h▸av J J

def Ms a1{R}(h:tL a1=some R):bY aU 280 [tD dE a1] (gM R):=by
 exact co Tryz.func280 J<|Z<|bO J<|ca<|bB<|Z<|bg ik fQ UP J<|T (HT (r:=o8) (x:=Th) rK hU J UP (fun _=>Es (r:=o8) 8 (fun _=>J) _) J)<|T (uu adZ (Y J) (Y J))<|aM J<|so h▸av J J

end Go.Proofs.YtpgjgkdpeagjbaaGreatDoor

