/- eJ of this claim: P18. -/
import Derived.Test.YtpgjgkdpeagjbaaGreatDoorJaT
import Derived.Test.YtpgjgkdpeagjbaaGreatDoorJaP17
set_option linter.all false
namespace Go.Proofs.YtpgjgkdpeagjbaaGreatDoor
open Go
set_option maxRecDepth 100000

def zm b{R}(h:lB b=some R):bY aU 233 [gM b] (tD ae R):=by
 refine co Tryz.func233 J<|Z<|aQ an aL J fun b1=>bB<|aE<|Q J<|bE h J (fun h=>?_) (fun h=>?_)
 ·exact Z<|T (bM (y:=(⟨(1:Int),(1:Int),(0:Int),[]⟩:ac)) an jg aL (⟨_,_,_,_,_,J,lu,J,hI,⟨_,_,_,_,_,J,nf,J,hI,J⟩⟩))<|be an ah J<|cK<|af<|aB 2 J<|so h▸fT J an J J J
 ·exact dZ<|Z<|T (bM (y:=Ti) an jg aL (⟨_,_,_,_,_,J,lu,J,hI,J⟩))<|be an ah J<|cK<|aB 2 J<|so h▸fT J an J J J

def Mt a1 b{R}(h:qG a1 b=some R):bY aU 275 [tD ae a1,tD ae b] (bD R):=by
 refine co Tryz.func275 J<|Z<|bO J<|bO J<|bh<|bB<|aA<|am<|Z<|bn an J<|bS h Er (ta _) (bj J) fun r h=>T (dY (Y J))<|Q J<|ci h fun t q_t h=>aO J (fun H=>nE an J J) ?_
 obtain⟨r1,h1t,h0t⟩:=og q_t
 have q_r1g:=fun M=>(h1t M).1
 refine aO J (fun H=>bo Er (ta _ (q_r1g H)) ⟨(bG J H),O⟩)<|aO J (nI J)<|T (eC (Y J) (fun M=>(bG J (pQ M))) (fun M=>(h1t M).2) h0t)<|aC J<|gp h J (fun h=>?_) (fun h=>?_)
 ·exact Z<|cd<|bT<|so h▸av J J
 ·refine Z<|bg cY bC cj J<|T (dy (Y J) hI)<|Q J<|aO J (cZ cY bC J J)<|aO J (cN cj J J)<|aO J (fun H=>dy (bG J H) hI)<|fj J<|aC J<|gp h J (fun h=>?_) (fun h=>?_)
  ·exact Z<|cd<|bT<|so h▸av J J
  ·exact bc<|ay<|ap<|Z<|cd<|so h▸av J J

def zn a1{R}(h:jY a1=some R):bY aU 230 [tD ae a1] (tT [tD ae R.1,bD R.2]):=by
 refine co Tryz.func230 J<|Z<|bO J<|aQ an aL J fun b=>bh<|bB<|Z<|bn an J<|bn an J<|bS h Wk (Mt _ _) (bj J) fun r h=>aC J<|aE<|Q J<|eN J<|Q J<|aO J (cZ cY bC J J) ?_;refine aO J (cN cj J J)<|aO J (fV J)<|fj J<|bE h J (fun h=>?_) (fun h=>?_)
 ·exact Z<|T (bM an jg aL J)<|Q J<|be an ah J<|aM J<|af<|aB 2 J<|so h▸bq J J ⟨aT an J J J,aN J,O⟩
 ·exact dZ<|Z<|bg fC cE wd J<|bP J<|bS h IH (zm _) (bj J) fun r1 h=>be an ah J<|cd<|aB 2 J<|so h▸bq J J ⟨aT an J J J,aN J,O⟩

def Sk a1 b{R}(h:tQ a1 b=some R):bY aU 231 [tD ae a1,tD ae b] (tT [tD ae R.1,bD R.2]):=by
 refine co Tryz.func231 J<|Z<|bO J<|bO J<|aQ an aL J fun b1=>bh<|bB<|Z<|bn an J<|bn an J<|bS h Wk (Mt _ _) (bj J) fun r h=>aC J<|Z<|bS h IH (zm _) (bj J) fun r1 h=>aQ an aL J fun b2=>be an ah J ?_;refine aV 7 J<|bB<|aA<|am<|ax J<|eN J<|aC J<|gp h J (fun h=>?_) (fun h=>?_)
 ·exact Z<|T (bM an jg aL J)<|Q J<|be an ah J<|aM J<|bT<|aB 4 J<|so h▸bq J J ⟨aT an J J J,aN J,O⟩
 ·refine Z<|bn an J<|bn an J<|T (uu Iw (Y J) (Y J))<|Q J<|aO J (fun H=>nE an J J)<|aO J (fun H=>nE an J J)<|aO J (fun H=>uu Iw (bG J H) (bG J H))<|fj J<|aC J<|gp h J (fun h=>?_) (fun h=>?_)
  ·exact Z<|bn an J<|be an ah J<|cd<|bT<|aB 4 J<|so h▸bq J J ⟨aT an J J J,aN J,O⟩
  ·refine Z<|bg cY bC cj J<|bP J<|Q J<|aO J (cZ cY bC J J)<|aO J (cN cj J J)<|aO J (fV J)<|fj J<|aC J<|gp h J (fun h=>?_) (fun h=>?_)
   ·exact Z<|T (bM an jg aL J)<|be an ah J<|cd<|bT<|aB 4 J<|so h▸bq J J ⟨aT an J J J,aN J,O⟩
   ·exact bc<|ay<|ap<|Z<|bS h IH (zm _) (bj J) fun r2 h=>be an ah J<|cd<|aB 4 J<|so h▸bq J J ⟨aT an J J J,aN J,O⟩

def Yt a1 b{R}(h:ye a1 b=some R):bY aU 232 [tD ae a1,tD ae b] (tT [tD ae R.1,bD R.2]):=by
 refine co Tryz.func232 J<|Z<|bO J<|bO J<|aQ an aL J fun b1=>bh<|bB<|aE<|bn an J<|bn an J<|bS h Wk (Mt _ _) (bj J) fun r h=>aC J<|ax J<|eN J<|aY ?_;refine ap<|gp h J (fun h=>?_) (fun h=>?_)
 ·exact Z<|T (bM an jg aL J)<|Q J<|be an ah J<|aM J<|af<|aB 4 J<|so h▸bq J J ⟨aT an J J J,aN J,O⟩
 ·refine dZ<|Z<|bn an J<|bS h II (zn _) (bj J) fun r1 h=>Q J<|bv J J<|bv J J<|aQ an aL J fun b2=>be an ah J<|aV 7 J<|aC J<|Z<|bn an J<|bS h II (zn _) (bj J) fun r2 h=>Q J<|bv J J<|bv J J ?_;refine aQ an aL J fun b3=>be an ah J<|aV 9 J<|aC J<|Z<|bn an J<|bn an J<|bS h aaB (Sk _ _) (bj J) fun r3 h=>Q J<|bv J J<|bv J J<|aQ an aL J fun b4=>be an ah J<|aV 11 J<|aC J<|Z<|bn an J ?_;exact bS h II (zn _) (bj J) fun r4 h=>bv J J<|bv J J<|be an ah J<|aM J<|aB 4 J<|so h▸bq J J ⟨aT an J J J,aN J,O⟩

def R8 a1 b{R}(h:tP a1 b=some R):bY aU 288 [tD ae a1,tD ae b] (bD R):=by
 refine co Tryz.func288 J<|Z<|bO J<|bO J<|bh<|bB<|aA<|am<|Z<|bn an J<|bS h Er (ta _) (bj J) fun r h=>T (dY (Y J))<|Q J<|ci h fun t q_t h=>aO J (fun H=>nE an J J) ?_
 obtain⟨r1,h1t,h0t⟩:=og q_t
 have q_r1g:=fun M=>(h1t M).1
 refine aO J (fun H=>bo Er (ta _ (q_r1g H)) ⟨(bG J H),O⟩)<|aO J (nI J)<|T (eC (Y J) (fun M=>(bG J (pQ M))) (fun M=>(h1t M).2) h0t)<|aC J<|gp h J (fun h=>?_) (fun h=>?_)
 ·exact Z<|cd<|bT<|so h▸av J J
 ·refine Z<|bn an J<|bS h KL (Bs _) (bj J) fun r2 h=>T (dY (Y J))<|Q J<|ci h fun t1 q_t1 h=>aO J (fun H=>nE an J J) ?_
  obtain⟨r3,h1t1,h0t1⟩:=og q_t1
  have q_r3g:=fun M=>(h1t1 M).1
  refine aO J (fun H=>bo KL (Bs _ (q_r3g H)) ⟨(bG J H),O⟩)<|aO J (nI J)<|T (eC (Y J) (fun M=>(bG J (pQ M))) (fun M=>(h1t1 M).2) h0t1)<|Q J<|aO J (cZ cY bC J J)<|aO J (cN cj J J)<|aO J (sK J)<|aO J (mJ J)<|cB J J J J (fun H=>ic cY bC J J)<|cB J J J J (fun H=>cJ cj J J (bG J H))<|cB J J J J (fun H=>d6 (bG J H) hI)<|aO J (fun H=>gG (bG J H) (fun M=>(bG J (nC H M))))<|aO J (mJ J)<|cB J J J J (fun H=>ic cY bC J J)<|cB J J J J (fun H=>cJ cj J J (bG J H))<|cB J J J J (fun H=>ic cY bC J J)<|cB J J J J (fun H=>cJ cj J J (bG J H))<|cB J J J J (fun H=>d6 (bG J H) (bG J H))<|aO J (fun H=>gG (bG J H) (fun M=>(bG J (nC H M))))<|fj J<|aC J<|gp h J (fun h=>?_) (fun h=>?_)
  ·exact Z<|cd<|bT<|so h▸av J J
  ·exact bc<|ay<|ap<|Z<|cd<|so h▸av J J

def R7 a1 b{R}(h:pF a1 b=some R):bY aU 289 [tD ae a1,tD ae b] (bD R):=by
 refine co Tryz.func289 J<|Z<|bO J<|bO J<|bh<|bB<|aE<|bn an J<|bS h KL (Bs _) (bj J) fun r h=>T (dY (Y J))<|Q J<|ci h fun t q_t h=>aO J (fun H=>nE an J J) ?_
 obtain⟨r1,h1t,h0t⟩:=og q_t
 have q_r1g:=fun M=>(h1t M).1
 refine aO J (fun H=>bo KL (Bs _ (q_r1g H)) ⟨(bG J H),O⟩)<|aO J (nI J)<|T (eC (Y J) (fun M=>(bG J (pQ M))) (fun M=>(h1t M).2) h0t)<|bE h J (fun h=>?_) (fun h=>?_)
 ·exact Z<|cd<|af<|so h▸av J J
 ·refine dZ<|aE<|bg cY bC cj J<|bg cY bC cj J<|T (d6 (Y J) (Y J))<|bE h J (fun h=>?_) (fun h=>?_)
  ·refine aE<|bg cY bC cj J<|bg cY bC cj J<|kw J<|bE h J (fun h=>?_) (fun h=>?_)
   ·exact Z<|cd<|af<|af<|so h▸av J J
   ·exact dZ<|Z<|cd<|af<|so h▸av J J
  ·refine dZ<|aE<|bg fC cE wd J<|bg fC cE wd J<|T (d6 (Y J) (Y J))<|bE h J (fun h=>?_) (fun h=>?_)
   ·refine aE<|bg fC cE wd J<|bg fC cE wd J<|kw J<|bE h J (fun h=>?_) (fun h=>?_)
    ·exact Z<|cd<|af<|af<|so h▸av J J
    ·exact dZ<|Z<|cd<|af<|so h▸av J J
   ·refine dZ<|aE<|bh<|bB<|am<|bA ?_;refine aD (zB (aF:=fun n i=>mq a1 b n i=some R) (Of:=fun i=>[]) (Gf:=fun i=>[(2,bF ae a1),(3,bF ae b),(5,bD i)]) (fun i h=>nn h) (fun n ih i h=>?_) fm (0:Int) h) (bf J);refine cU<|aE<|Q J<|bg k7 eH EL J<|T (ur yJ (Y J))<|kw J<|Q J<|aw J (cG J)<|aw J (cZ k7 eH J J)<|aw J (cN EL J J)<|aw J (fun H=>ur yJ (bG J H))<|aw J (fun H=>du (bG J H) (bG J H))<|dv J<|bE h J (fun h=>?_) (fun h=>?_)
    ·refine dZ<|aA<|am<|aA<|ci h fun b1 q_b1 h=>ci h fun b2 q_b2 h=>?_
     refine iQ (ts:=[_,_,_,_,_,_,_,_,_]) mixed J J
      ⟨jH 2 J J (ic k7 eH J J),
      ⟨dh 0 EL J J,
      ⟨dc J J,
      ⟨cM 49 1 50 2 J J J (Bl yJ (Y J) (Y J) q_b1),
      ⟨jH 3 J J (ic k7 eH J J),
      ⟨dh 4 EL J J,
      ⟨dc J J,
      ⟨cM 53 5 54 6 J J J (Bl yJ (Y J) (Y J) q_b2),
      ⟨cM 51 3 55 7 J J J (d6 (Y J) (Y J)),
      O⟩⟩⟩⟩⟩⟩⟩⟩⟩ ?_
     refine ap<|gp h J (fun h=>?_) (fun h=>?_)
     ·refine aA<|aA<|ci h fun b3 q_b3 h=>ci h fun b4 q_b4 h=>?_
      refine iQ (ts:=[_,_,_,_,_,_,_,_,_]) mixed J J
       ⟨jH 2 J J (ic k7 eH J J),
       ⟨dh 0 EL J J,
       ⟨dc J J,
       ⟨cM 58 1 59 2 J J J (Bl yJ (Y J) (Y J) q_b3),
       ⟨jH 3 J J (ic k7 eH J J),
       ⟨dh 4 EL J J,
       ⟨dc J J,
       ⟨cM 62 5 63 6 J J J (Bl yJ (Y J) (Y J) q_b4),
       ⟨cM 60 3 64 7 J J J (zlt J J),
       O⟩⟩⟩⟩⟩⟩⟩⟩⟩ ?_
      refine ap<|gp h J (fun h=>?_) (fun h=>?_)
      ·exact Z<|cd<|af<|bT<|af<|bT<|so h▸av J J
      ·exact dZ<|Z<|cd<|bT<|af<|bT<|so h▸av J J
     ·refine bc<|ay<|ap<|au<|Q J<|T (eG (Y J) hI)<|dC J<|aY ?_;exact aR (aD (ih (IntKind.i64.wrap (i+(1:Int))) h) (bf J))
    ·refine d7<|aH<|aH<|cF<|ap<|aE<|bg k7 eH EL J<|T (ur yJ (Y J))<|bg k7 eH EL J<|T (ur yJ (Y J))<|T (d6 (Y J) (Y J))<|bE h J (fun h=>?_) (fun h=>?_)
     ·refine aE<|bg k7 eH EL J<|T (ur yJ (Y J))<|bg k7 eH EL J<|T (ur yJ (Y J))<|kw J<|bE h J (fun h=>?_) (fun h=>?_)
      ·exact Z<|cd<|af<|af<|so h▸av J J
      ·exact dZ<|Z<|cd<|af<|so h▸av J J
     ·exact dZ<|Z<|cd<|so h▸av J J

def Sa a1 b{R}(h:ss a1 b=some R):bY aU 276 [tD ae a1,tD ae b] (tT [tD ae R.1,bD R.2]):=by
 refine co Tryz.func276 J<|Z<|bO J<|bO J<|aQ an aL J fun b1=>bh<|bB<|Z<|bn an J<|bn an J<|bS h aaq (R8 _ _) (bj J) fun r h=>aC J<|aE<|Q J<|eN J<|Q J ?_;refine aO J (cZ cY bC J J)<|aO J (cN cj J J)<|aO J (fV J)<|fj J<|Q J<|aO J (cZ cY bC J J)<|aO J (cN cj J J)<|aO J (fV J)<|fj J<|bE h J (fun h=>?_) (fun h=>?_)
 ·exact Z<|T (bM an jg aL J)<|Q J<|be an ah J<|aM J<|af<|aB 4 J<|so h▸bq J J ⟨aT an J J J,aN J,O⟩
 ·exact dZ<|Z<|bn an J<|bn an J<|bS h aap (R7 _ _) (bj J) fun r1 h=>bP J<|bS h IH (zm _) (bj J) fun r2 h=>be an ah J<|cd<|aB 4 J<|so h▸bq J J ⟨aT an J J J,aN J,O⟩

def GE a1 b{R}(h:np a1 b=some R):bY aU 277 [tD ae a1,tD ae b] (tT [tD ae R.1,bD R.2]):=by
 refine co Tryz.func277 J<|Z<|bO J<|bO J<|aQ an aL J fun b1=>bh<|bB<|Z<|bn an J<|bn an J<|bS h aaq (R8 _ _) (bj J) fun r h=>aC J<|aE<|Q J<|eN J<|Q J ?_;refine aO J (cZ cY bC J J)<|aO J (cN cj J J)<|aO J (fV J)<|fj J<|Q J<|aO J (cZ cY bC J J)<|aO J (cN cj J J)<|aO J (fV J)<|fj J<|bE h J (fun h=>?_) (fun h=>?_)
 ·exact Z<|T (bM an jg aL J)<|Q J<|be an ah J<|aM J<|af<|aB 4 J<|so h▸bq J J ⟨aT an J J J,aN J,O⟩
 ·exact dZ<|Z<|bn an J<|bn an J<|bS h aap (R7 _ _) (bj J) fun r1 h=>T (du (Y J) hI)<|bS h IH (zm _) (bj J) fun r2 h=>be an ah J<|cd<|aB 4 J<|so h▸bq J J ⟨aT an J J J,aN J,O⟩

def Ys tag a1 b{R}(h:Ax tag a1 b=some R):bY aU 234 [bD tag,tD ae a1,tD ae b] (tT [tD ae R.1,bD R.2]):=by
 refine co Tryz.func234 J<|Z<|bO J<|bO J<|aQ an aL J fun b1=>bh<|bB<|aE<|Q J<|bB<|am<|Z<|bP J<|aC J<|gp h J (fun h=>?_) (fun h=>?_)
 ·exact Z<|bn an J<|bn an J<|bS h aat (Sa _ _) (bj J) fun r h=>bv J J<|bv J J<|be an ah J<|aM J<|bT<|aB 6 J<|so h▸bq J J ⟨aT an J J J,aN J,O⟩
 ·refine Z<|bP J<|aC J<|gp h J (fun h=>?_) (fun h=>?_)
  ·exact Z<|bn an J<|bn an J<|bS h SQ (GE _ _) (bj J) fun r1 h=>bv J J<|bv J J<|be an ah J<|aM J<|bT<|aB 6 J<|so h▸bq J J ⟨aT an J J J,aN J,O⟩
  ·refine Z<|bP J<|aC J<|gp h J (fun h=>?_) (fun h=>?_)
   ·exact Z<|bn an J<|bn an J<|bS h SQ (GE _ _) (bj J) fun r2 h=>bv J J<|bv J J<|be an ah J<|aM J<|bT<|aB 6 J<|so h▸bq J J ⟨aT an J J J,aN J,O⟩
   ·refine Z<|bP J<|aC J<|gp h J (fun h=>?_) (fun h=>?_)
    ·refine Z<|bn an J<|bn an J<|bS h aat (Sa _ _) (bj J) fun r3 h=>Q J<|bv J J<|bv J J<|aQ an aL J fun b2=>be an ah J<|aC J<|Z<|T (bR (x:=r3.1) an J J bz (.head _) (Y J))<|bS h II (zn _) (bj J) fun r4 h=>Q J<|bv J J<|bv J J<|be an ah J<|aY ?_;exact ap<|Z<|T (bR (x:=r4.1) an J J bz (.head _) (Y J))<|Q J<|bu<|be an ah J<|aM J<|bT<|aB 6 J<|aG<|so h▸bq J J ⟨aT an J J J,aN J,O⟩
    ·refine Z<|bP J<|aC J<|gp h J (fun h=>?_) (fun h=>?_)
     ·refine Z<|bn an J<|bn an J<|bS h SQ (GE _ _) (bj J) fun r5 h=>Q J<|bv J J<|bv J J<|aQ an aL J fun b3=>be an ah J<|aC J<|Z<|T (bR (x:=r5.1) an J J bz (.head _) (Y J))<|bS h II (zn _) (bj J) fun r6 h=>Q J<|bv J J<|bv J J<|be an ah J<|aY ?_;exact ap<|Z<|T (bR (x:=r6.1) an J J bz (.head _) (Y J))<|Q J<|bu<|be an ah J<|aM J<|bT<|aB 6 J<|aG<|so h▸bq J J ⟨aT an J J J,aN J,O⟩
     ·refine bc<|ay<|ap<|Z<|bn an J<|bn an J<|bS h SQ (GE _ _) (bj J) fun r7 h=>Q J<|bv J J<|bv J J<|aQ an aL J fun b4=>be an ah J<|aC J<|Z<|T (bR (x:=r7.1) an J J bz (.head _) (Y J))<|bS h II (zn _) (bj J) fun r8 h=>Q J<|bv J J ?_;exact bv J J<|be an ah J<|bB<|Z<|T (bR (x:=r8.1) an J J bz (.head _) (Y J))<|Q J<|bu<|be an ah J<|aM J<|aB 6 J<|aG<|so h▸bq J J ⟨aT an J J J,aN J,O⟩

def Y1 tag a1 b{R}(h:CM tag a1 b=some R):bY aU 171 [bD tag,tD ae a1,tD ae b] (tT [tD ae R.1,bD R.2]):=by
 refine co Tryz.func171 J<|Z<|bO J<|bO J<|aQ an aL J fun b1=>bh<|bB<|aE<|Q J<|bB<|am<|Z<|bP J<|aC J<|gp h J (fun h=>?_) (fun h=>?_)
 ·refine aA<|ci h fun r q_r h=>ci h fun r1 q_r1 h=>?_
  refine BN 5 (ts:=[tD ae r,tD ae a1,tT [tD ae r1.1,bD r1.2],tD ae r1.1,bD r1.2]) mixed J J J
   ⟨PI J (bo F5 (xn _ q_r) ⟨hI,O⟩),
   ⟨jH 4 J J (nE an J J),
   ⟨cM 11 0 12 1 J J J (bo Pc (D4 _ _ _ q_r1) ⟨hI,(Y J),(Y J),O⟩),
   ⟨cT 13 2 J J (vo J J),
   ⟨cT 13 2 J J (vo J J),
   O⟩⟩⟩⟩⟩ ?_
  exact be an ah J<|aM J<|bT<|aB 6 J<|so h▸bq J J ⟨aT an J J J,aN J,O⟩
 ·refine Z<|bP J<|aC J<|gp h J (fun h=>?_) (fun h=>?_)
  ·exact Z<|bn an J<|bn an J<|bS h Pc (D4 _ _ _) (bj J) fun r2 h=>bv J J<|bv J J<|be an ah J<|aM J<|bT<|aB 6 J<|so h▸bq J J ⟨aT an J J J,aN J,O⟩
  ·refine Z<|bP J<|aC J<|gp h J (fun h=>?_) (fun h=>?_)
   ·exact Z<|bn an J<|bn an J<|bS h Pc (D4 _ _ _) (bj J) fun r3 h=>bv J J<|bv J J<|be an ah J<|aM J<|bT<|aB 6 J<|so h▸bq J J ⟨aT an J J J,aN J,O⟩
   ·refine Z<|bP J<|aC J<|gp h J (fun h=>?_) (fun h=>?_)
    ·exact Z<|bn an J<|bn an J<|bS h Pc (D4 _ _ _) (bj J) fun r4 h=>bv J J<|bv J J<|be an ah J<|aM J<|bT<|aB 6 J<|so h▸bq J J ⟨aT an J J J,aN J,O⟩
    ·refine Z<|bP J<|aC J<|gp h J (fun h=>?_) (fun h=>?_)
     ·exact Z<|bn an J<|bn an J<|bS h Pc (D4 _ _ _) (bj J) fun r5 h=>bv J J<|bv J J<|be an ah J<|aM J<|bT<|aB 6 J<|so h▸bq J J ⟨aT an J J J,aN J,O⟩
     ·refine Z<|bP J<|aC J<|gp h J (fun h=>?_) (fun h=>?_)
      ·exact Z<|bn an J<|bS h II (zn _) (bj J) fun r6 h=>bv J J<|bv J J<|be an ah J<|aM J<|bT<|aB 6 J<|so h▸bq J J ⟨aT an J J J,aN J,O⟩
      ·refine Z<|bP J<|aC J<|gp h J (fun h=>?_) (fun h=>?_)
       ·exact Z<|bn an J<|bn an J<|bS h aaB (Sk _ _) (bj J) fun r7 h=>bv J J<|bv J J<|be an ah J<|aM J<|bT<|aB 6 J<|so h▸bq J J ⟨aT an J J J,aN J,O⟩
       ·refine Z<|bP J<|aC J<|gp h J (fun h=>?_) (fun h=>?_)
        ·exact Z<|bn an J<|bn an J<|bS h aey (Yt _ _) (bj J) fun r8 h=>bv J J<|bv J J<|be an ah J<|aM J<|bT<|aB 6 J<|so h▸bq J J ⟨aT an J J J,aN J,O⟩
        ·refine Z<|bP J<|aC J<|gp h J (fun h=>?_) (fun h=>?_)
         ·exact Z<|bg cY bC cj J<|bP J<|bS h IH (zm _) (bj J) fun r9 h=>be an ah J<|cd<|bT<|aB 6 J<|so h▸bq J J ⟨aT an J J J,aN J,O⟩
         ·refine Z<|bP J<|aC J<|gp h J (fun h=>?_) (fun h=>?_)
          ·exact Z<|bg cY bC cj J<|eN J<|bS h IH (zm _) (bj J) fun r10 h=>be an ah J<|cd<|bT<|aB 6 J<|so h▸bq J J ⟨aT an J J J,aN J,O⟩
          ·exact bc<|ay<|ap<|ax J<|bn an J<|bn an J<|bS h aex (Ys _ _ _) (bj J) fun r11 h=>bv J J<|bv J J<|be an ah J<|aM J<|aB 6 J<|so h▸bq J J ⟨aT an J J J,aN J,O⟩

end Go.Proofs.YtpgjgkdpeagjbaaGreatDoor

