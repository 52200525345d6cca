/- eJ of this claim: P17. -/
import Derived.Test.YtpgjgkdpeagjbaaGreatDoorJaT
import Derived.Test.YtpgjgkdpeagjbaaGreatDoorJaP16
set_option linter.all false
namespace Go.Proofs.YtpgjgkdpeagjbaaGreatDoor
open Go
set_option maxRecDepth 100000

def Mu a1 b{R}(h:nm a1 b=some R):bY aU 239 [tD dE a1,tD dE b] (tD dE R):=by
 refine co Tryz.func239 J<|Z<|vI (Y J) J fun b1=>vI (Y J) J fun b2=>aQ hM u6 J fun b3=>bB ?_;refine Fs (aF:=fun a2 b4=>je a2 b4=some R) (Of:=fun a2 b4=>[bx dE 234 b1 a2,bx dE 234 b2 b4,bx dE 234 b3 Le]) (Gf:=fun a2 b4=>[(2,tV (ba b1 0)),(3,tV (ba b2 0)),(4,tV (ba b3 0))]) (fun a2 b4 h=>?_) (fun h2=>?_)
 ·skip
  refine Z<|eZ 8 na J<|T (bR zZ J J nZ (.head _) (Y J))<|T (bM (y:=(⟨Th,a2.Below⟩:d8)) hM aai u6 (⟨_,_,_,_,_,J,xY,J,(Y J),J⟩))<|aQ hM u6 J fun b5=>be hM ah J<|bB<|Z<|bh<|bB<|aE<|T (cv hI)<|bB<|am<|bA<|om<|om ?_;refine om ?_;refine aD (Ez (aF:=fun k i carry out=>(8-i=k)/\iB a2 b4 k i carry out=some R) (Of:=fun _ i carry out=>[bx dE 234 b1 a2,bx dE 234 b2 b4,bx dE 234 b3 Le,bx dE 234 b5 out]) (Gf:=fun _ i carry out=>[(2,tV (ba b1 0)),(3,tV (ba b2 0)),(4,tV (ba b3 0)),(5,tV (ba b5 0)),(6,tD o8 carry),(25,bD (i:Int))]) (fun i carry out h=>?_) (fun k1 ih i carry out h=>?_) 8 0 (0:Int) (⟨Th,a2.Below⟩:d8) ⟨J,h⟩) (bf J)
  ·obtain⟨V,h⟩:=h
   refine cU<|Z<|T (du (Y J) hI)<|bB<|aA<|pr (Y J) (TK V)<|d7<|aH<|aH<|cF<|ap<|Z<|eZ 8 na J<|T (bR zZ J J nZ (.tail _ (.tail _ (.tail _ (.head _)))) (Y J))<|Q J<|ci h fun t q_t h=>aw J (fun H=>bR hM J J bz (.tail _ (.tail _ (.tail _ (.head _)))) (Y J)) ?_
   obtain⟨r,h1t,h0t⟩:=og q_t
   have q_rg:=fun M=>(h1t M).1
   exact aw J (fun H=>bo Wj (Ms _ (q_rg H)) ⟨(bG J H),O⟩)<|aw J (nI J)<|T (cQ (Y J) (fun M=>(bG J M)) (fun M=>(h1t M).2) h0t)<|eZ 8 na J<|oj<|be zZ xY J<|bB<|Z<|T (bR (x:=(d8.mk out.D t)) hM J J bz (.head _) (Y J))<|oj<|be hM ah J<|aV 4 J<|cK<|aG<|aG<|aG<|so h▸fT J hM J J J
  ·obtain⟨V,h⟩:=h
   refine cU<|Z<|T (du (Y J) hI)<|bB<|aA<|pq (Y J) (TJ V)<|dZ<|aA<|am<|ax J<|aC J<|Z<|eZ 8 na J<|T (bR zZ J J nZ (.head _) (Y J))<|eZ 8 na J<|T (bR zZ J J nZ (.tail _ (.head _)) (Y J)) ?_;refine T (LT Do (Y J) (Y J))<|bE h J (fun h=>?_) (fun h=>?_)
   ·refine aA<|ci h fun u q_u h=>ci h fun e1 q_e1 h=>ci h fun u1 q_u1 h=>ci h fun e2 q_e2 h=>?_
    refine iQ (ts:=[_,_,_,_,_,_,_,_,_,_,_,_]) mixed J J
     ⟨dc J J,
     ⟨jH 2 J J (tp 0 ik J J J),
     ⟨cM 34 1 33 0 J J J (gY (n:=8) (off:=0) rK hU (Y J) (Y J) (jf q_u)),
     ⟨cT 35 2 J J (AJ (q:=o8) (off:=0+(i:Int).toNat*1) hU J J (.head _) (AS (nY kH fQ J J) q_e1) (Y J)),
     ⟨dc J J,
     ⟨jH 3 J J (tp 0 ik J J J),
     ⟨cM 38 5 37 4 J J J (gY (n:=8) (off:=0) rK hU (Y J) (Y J) (jf q_u1)),
     ⟨cT 39 6 J J (AJ (q:=o8) (off:=0+(i:Int).toNat*1) hU J J (.tail _ (.head _)) (AS (nY kH fQ J J) q_e2) (Y J)),
     ⟨cM 36 3 40 7 J J J (eG (Y J) (Y J)),
     ⟨dc J J,
     ⟨cM 41 8 42 9 J J J (eG (Y J) (Y J)),
     ⟨cT 43 10 J J (sE J),
     O⟩⟩⟩⟩⟩⟩⟩⟩⟩⟩⟩⟩ ?_
    refine ap<|au<|Q J<|Q J<|T (EX (Y J) hI (by decide))<|Q J<|T (vc (Y J) hI (by decide))<|eZ 0 ik J<|ci h fun u2 q_u2 h=>T (gY (n:=8) (off:=0) rK hU (Y J) (Y J) (jf q_u2))<|o6 (EffOK.fr3 (qu (q:=o8) (off:=0+(i:Int).toNat*1) (y0:=(((IntKind.u64.wrap ((IntKind.u64.wrap (e1+e2))+carry))).tmod (4294967296:Int))) hU J (uF (off:=0) (nY kH fQ J J) (uE (jf q_u2)) (oE sP) (qO (jf q_u2)) J) (xl (d:=0) (sz:=1) (n:=8) (jf q_u2) J) (Y J) (Y J))) fun _=>?_;refine(show RG _ _ _ _ [_,_,_,_] _ from ?_);refine dC J<|aY<|ay<|ap<|au<|T (ut (Ma V (by decide)) (Y J) hI)<|Q J<|aY<|db<|db<|db ?_;exact aR (aD (ih (i+1) (((IntKind.u64.wrap ((IntKind.u64.wrap (e1+e2))+carry))).fdiv GZ) ({out with D:=(out.D.set (i:Int).toNat (((IntKind.u64.wrap ((IntKind.u64.wrap (e1+e2))+carry))).tmod (4294967296:Int)))}:d8) ⟨L0 V,h⟩) (bf J))
   ·refine aA<|ci h fun u3 q_u3 h=>ci h fun e3 q_e3 h=>ci h fun u4 q_u4 h=>ci h fun e4 q_e4 h=>?_
    refine iQ (ts:=[_,_,_,_,_,_,_,_,_,_,_,_,_]) mixed J J
     ⟨dc J J,
     ⟨jH 2 J J (tp 0 ik J J J),
     ⟨cM 52 1 51 0 J J J (gY (n:=8) (off:=0) rK hU (Y J) (Y J) (jf q_u3)),
     ⟨cT 53 2 J J (AJ (q:=o8) (off:=0+(i:Int).toNat*1) hU J J (.head _) (AS (nY kH fQ J J) q_e3) (Y J)),
     ⟨cT 54 3 J J (eG (Y J) hI),
     ⟨dc J J,
     ⟨jH 3 J J (tp 0 ik J J J),
     ⟨cM 57 6 56 5 J J J (gY (n:=8) (off:=0) rK hU (Y J) (Y J) (jf q_u4)),
     ⟨cT 58 7 J J (AJ (q:=o8) (off:=0+(i:Int).toNat*1) hU J J (.tail _ (.head _)) (AS (nY kH fQ J J) q_e4) (Y J)),
     ⟨cM 55 4 59 8 J J J (dX (Y J) (Y J)),
     ⟨dc J J,
     ⟨cM 60 9 61 10 J J J (dX (Y J) (Y J)),
     ⟨cT 62 11 J J (sE J),
     O⟩⟩⟩⟩⟩⟩⟩⟩⟩⟩⟩⟩⟩ ?_
    refine ap<|au<|Q J<|Q J<|T (EX (Y J) hI (by decide))<|Q J<|T (vc (Y J) hI (by decide))<|T (dX hI (Y J))<|eZ 0 ik J<|ci h fun u5 q_u5 h=>T (gY (n:=8) (off:=0) rK hU (Y J) (Y J) (jf q_u5))<|o6 (EffOK.fr3 (qu (q:=o8) (off:=0+(i:Int).toNat*1) (y0:=(((IntKind.u64.wrap ((IntKind.u64.wrap ((IntKind.u64.wrap (e3+(4294967296:Int)))-e4))-carry))).tmod (4294967296:Int))) hU J (uF (off:=0) (nY kH fQ J J) (uE (jf q_u5)) (oE sP) (qO (jf q_u5)) J) (xl (d:=0) (sz:=1) (n:=8) (jf q_u5) J) (Y J) (Y J))) fun _=>?_;refine(show RG _ _ _ _ [_,_,_,_] _ from ?_);refine dC J<|aY<|ay<|ap<|au<|T (ut (Ma V (by decide)) (Y J) hI)<|Q J<|aY<|db<|db<|db ?_;exact aR (aD (ih (i+1) (IntKind.u64.wrap ((1:Int)-(((IntKind.u64.wrap ((IntKind.u64.wrap ((IntKind.u64.wrap (e3+(4294967296:Int)))-e4))-carry))).fdiv GZ))) ({out with D:=(out.D.set (i:Int).toNat (((IntKind.u64.wrap ((IntKind.u64.wrap ((IntKind.u64.wrap (e3+(4294967296:Int)))-e4))-carry))).tmod (4294967296:Int)))}:d8) ⟨L0 V,h⟩) (bf J))
 ·skip
  refine Z<|eZ 8 na J<|T (bR zZ J J nZ (.tail _ (.tail _ (.head _))) (Y J))<|eZ 8 na J<|T (bR zZ J J nZ (.tail _ (.head _)) (Y J))<|T (DM Do (Y J) (Y J))<|Q J<|ci h fun t1 q_t1 h=>aw J (fun H=>bR hM J J bz (.tail _ (.tail _ (.head _))) (Y J))<|aw J (fun H=>bR hM J J bz (.tail _ (.head _)) (Y J)) ?_
  obtain⟨r1,h1t1,h0t1⟩:=og q_t1
  have q_r1g:=fun M=>(h1t1 M).1
  refine aw J (fun H=>bo aej (Yf _ _ (q_r1g H)) ⟨(bG J H),(bG J H),O⟩)<|T (cQ (Y J) (fun M=>(bG J M)) (fun M=>(h1t1 M).2) h0t1)<|bE h J (fun h=>?_) (fun h=>?_)
  ·refine au<|T (bR hM J J bz (.tail _ (.head _)) (Y J))<|T (bR hM J J bz (.tail _ (.tail _ (.head _))) (Y J))<|gk<|be hM ah J<|gk<|be hM ah J<|aY<|aP<|bK<|aP ?_;exact ce (h2 b a1 h) (bf J)
  ·refine bc<|bK<|aP ?_;exact ce (h2 a1 b h) (bf J)

def R9 a1{R}(h:wo a1=some R):bY aU 278 [tD dE a1] (tT [bD R.1,tD o8 R.2.1,gM R.2.2]):=by
 refine co Tryz.func278 J<|Z<|bO J<|bh<|bh<|ca<|bB<|aA<|ci h fun e q_e h=>ci h fun e1 q_e1 h=>ci h fun e2 q_e2 h=>ci h fun e3 q_e3 h=>?_
 refine iQ (ts:=[_,_,_,_,_,_,_,_,_,_,_,_,_,_,_,_,_,_]) mixed J J
  ⟨jH 1 J J (ic ik fQ J J),
  ⟨cT 8 0 J J (fE rK hU J (Y J) hI q_e),
  ⟨dh 1 hU J J,
  ⟨cT 10 2 J J (LN (Y J) hI (by decide)),
  ⟨jH 1 J J (ic ik fQ J J),
  ⟨cT 12 4 J J (fE rK hU J (Y J) hI q_e1),
  ⟨dh 5 hU J J,
  ⟨cM 11 3 14 6 J J J (eG (Y J) (Y J)),
  ⟨jH 1 J J (ic ik fQ J J),
  ⟨cT 16 8 J J (fE rK hU J (Y J) hI q_e2),
  ⟨dh 9 hU J J,
  ⟨cT 18 10 J J (LN (Y J) hI (by decide)),
  ⟨jH 1 J J (ic ik fQ J J),
  ⟨cT 20 12 J J (fE rK hU J (Y J) hI q_e3),
  ⟨dh 13 hU J J,
  ⟨cM 19 11 22 14 J J J (eG (Y J) (Y J)),
  ⟨cT 15 7 J J (sE J),
  ⟨cT 23 15 J J (sE J),
  O⟩⟩⟩⟩⟩⟩⟩⟩⟩⟩⟩⟩⟩⟩⟩⟩⟩⟩ ?_
 refine ap<|aE<|bh<|bB<|am<|bA ?_;refine aD (Tb (aF:=fun k i=>(8-i=k)/\gu a1 e e1 e2 e3 k i=some R) (Of:=fun _ i=>[]) (Gf:=fun _ i=>[(1,bF dE a1),(5,tD o8 (IntKind.u64.wrap ((IntKind.u64.wrap (e*2^Cw))+e1))),(6,tD o8 (IntKind.u64.wrap ((IntKind.u64.wrap (e2*2^Cw))+e3))),(7,bD (i:Int))]) (fun i h=>?_) (fun k1 ih i h=>?_) (8-4) 4 ⟨J,h⟩) (bf J)
 ·obtain⟨V,h⟩:=h
  refine cU<|aE<|Q J<|T (du (Y J) hI)<|bB<|pr (Y J) (TK V)<|d7<|aH<|aH<|cF<|ap ?_;refine Fs (aF:=fun high low=>mi a1 high low=some R) (Of:=fun high low=>[]) (Gf:=fun high low=>[(1,bF dE a1),(5,tD o8 high),(6,tD o8 low)]) (fun high low h=>?_) (fun h2=>?_)
  ·skip
   refine aA ?_
   refine iQ (ts:=[_,_,_,_,_,_,_,_,_,_,_,_]) mixed J J
    ⟨dc J J,
    ⟨cT 45 0 J J (oL xv xO (Y J)),
    ⟨dc J J,
    ⟨dc J J,
    ⟨cT 48 3 J J (oL xv xO (Y J)),
    ⟨cT 49 4 J J (du (Y J) hI),
    ⟨jH 1 J J (ic na nZ J J),
    ⟨dh 6 zZ J J,
    ⟨cM 50 5 52 7 J J J (LT Do (Y J) (Y J)),
    ⟨cT 46 1 J J (sE J),
    ⟨cT 47 2 J J (sE J),
    ⟨cT 53 8 J J (sE J),
    O⟩⟩⟩⟩⟩⟩⟩⟩⟩⟩⟩⟩ ?_
   exact ap<|fD<|so h▸Tf J J J J
  ·skip
   refine Z<|bg na nZ zZ J<|bE h J (fun h=>?_) (fun h=>?_)
   ·refine ax J<|T (LU (Y J))<|Q J<|T (LU (Y J))<|dC J<|aC J<|ax J<|T (eG (Y J) hI)<|aC J<|ax J<|bP J<|bE h J (fun h=>?_) (fun h=>?_)
    ·refine au<|Q J<|T (eG (Y J) hI)<|dC J<|aY ?_;exact ce (h2 (IntKind.u64.wrap ((fx .xor .u64 (if IntKind.u64.signed then -1 else IntKind.u64.max) (IntKind.u64.wrap ((IntKind.u64.wrap (e*2^Cw))+e1)))+(1:Int))) (IntKind.u64.wrap ((fx .xor .u64 (if IntKind.u64.signed then -1 else IntKind.u64.max) (IntKind.u64.wrap ((IntKind.u64.wrap (e2*2^Cw))+e3)))+(1:Int))) h) (bf J)
    ·refine bc ?_;exact ce (h2 (fx .xor .u64 (if IntKind.u64.signed then -1 else IntKind.u64.max) (IntKind.u64.wrap ((IntKind.u64.wrap (e*2^Cw))+e1))) (IntKind.u64.wrap ((fx .xor .u64 (if IntKind.u64.signed then -1 else IntKind.u64.max) (IntKind.u64.wrap ((IntKind.u64.wrap (e2*2^Cw))+e3)))+(1:Int))) h) (bf J)
   ·refine bc ?_;exact ce (h2 (IntKind.u64.wrap ((IntKind.u64.wrap (e*2^Cw))+e1)) (IntKind.u64.wrap ((IntKind.u64.wrap (e2*2^Cw))+e3)) h) (bf J)
 ·obtain⟨V,h⟩:=h
  refine cU<|aE<|Q J<|T (du (Y J) hI)<|bB<|pq (Y J) (TJ V)<|dZ<|aA<|am<|ax J<|wV ik fQ J<|ci h fun e5 q_e5 h=>T (fE rK hU J (Y J) (Y J) q_e5)<|bn hU J<|eN J<|bE h J (fun h=>?_) (fun h=>?_)
  ·exact Z<|bh<|bh<|ca<|cK<|bT<|af<|bT<|so h▸Tf J J J J
  ·refine bc<|ay<|ap<|au<|Q J<|T (ut (Ma V (by decide)) (Y J) hI)<|dC J<|aY ?_;exact aR (aD (ih (i+1) ⟨L0 V,h⟩) (bf J))

def D3 a1{R}(h:jy a1=some R):bY aU 241 [tD dE a1] (tT [bD R.1,gM R.2]):=by
 refine co Tryz.func241 J<|Z<|bO J<|bh<|ca<|bB<|Z<|bn hM J<|bS h aar (R9 _) (bj J) fun r h=>Q J<|bv J J<|bv J J<|bv J J<|dC J<|dC J<|aC J<|Z ?_;refine Q J<|T (oL xv xO (Y J))<|aC J<|ax J<|Q J<|Q J<|aw J (cG J)<|aw J (fV J)<|aw J (mJ J)<|cB J J J J (fun H=>gL J)<|cB J J J J (fun H=>eF (bG J H) hI)<|aw J (fun H=>gG (bG J H) (fun M=>(bG J (nC H M))))<|aw J (mJ J)<|dB J J J J (fun H=>gL J)<|dB J J J J (fun H=>iK (bG J H) hI)<|dB J J J J (fun H=>cv (bG J H))<|cB J J J J (fun H=>gL J)<|cB J J J J (fun H=>du (bG J H) hI)<|dB J J J J (fun H=>gG (bG J H) (fun M=>(bG J (nC H M))))<|aw J (fun H=>nW (bG J H) (fun M=>(bG J (nC H (pQ M))))) ?_;exact dv J<|dC J<|aM J<|so h▸bH J J J

def Yi a1{R}(h:sX a1=some R):bY aU 272 [tD dE a1] (tD dE R):=by
 refine co Tryz.func272 J<|Z<|vI (Y J) J fun b=>aQ hM u6 J fun b1=>bB<|Z<|eZ 8 na J<|T (bR zZ J J nZ (.tail _ (.head _)) (Y J))<|T (dY (Y J))<|Q J<|ci h fun t q_t h=>aw J (fun H=>bR hM J J bz (.tail _ (.head _)) (Y J)) ?_
 obtain⟨r,h1t,h0t⟩:=og q_t
 have q_rg:=fun M=>(h1t M).1
 exact aw J (fun H=>bo Wj (Ms _ (q_rg H)) ⟨(bG J H),O⟩)<|aw J (nI J)<|T (cQ (Y J) (fun M=>(bG J M)) (fun M=>(h1t M).2) h0t)<|eZ 8 na J<|bu<|be zZ xY J<|bB<|Z<|T (bR (x:=(d8.mk a1.D t)) hM J J bz (.head _) (Y J))<|bu<|be hM ah J<|aV 2 J<|cK<|aG<|so h▸fT J hM J J J

def Yh a1 b{R}(h:uL a1 b=some R):bY aU 273 [tD dE a1,tD dE b] (tD dE R):=by
 refine co Tryz.func273 J<|Z<|bO J<|bO J<|aQ hM u6 J fun b1=>bB<|Z<|aQ hM u6 J fun b2=>bB<|aE<|T (cv hI)<|bB<|am<|bA<|fh ?_;refine aD (Ta (aF:=fun k i out=>(4-i=k)/\fN a1 b k i out=some R) (Of:=fun _ i out=>[bx dE 234 b1 Le,bx dE 234 b2 out]) (Gf:=fun _ i out=>[(2,bF dE a1),(3,bF dE b),(4,tV (ba b1 0)),(5,tV (ba b2 0)),(10,bD (i:Int))]) (fun i out h=>?_) (fun k1 ih i out h=>?_) 4 0 Le ⟨J,h⟩) (bf J)
 ·obtain⟨V,h⟩:=h
  refine cU<|Z<|T (du (Y J) hI)<|bB<|aA<|pr (Y J) (TK V)<|d7<|aH<|aH<|cF<|ap<|Z<|bg na nZ zZ J<|bg na nZ zZ J<|T (DM Do (Y J) (Y J))<|Q J<|ci h fun t q_t h=>aw J (fun H=>bR hM J J bz (.tail _ (.head _)) (Y J)) ?_
  obtain⟨r,h1t,h0t⟩:=og q_t
  have q_rg:=fun M=>(h1t M).1
  exact aw J (fun H=>bo Wj (Ms _ (q_rg H)) ⟨(bG J H),O⟩)<|aw J (nI J)<|T (cQ (Y J) (fun M=>(bG J M)) (fun M=>(h1t M).2) h0t)<|eZ 8 na J<|bu<|be zZ xY J<|bB<|Z<|T (bR (x:=(d8.mk out.D t)) hM J J bz (.head _) (Y J))<|bu<|be hM ah J<|aV 4 J<|cK<|aG<|so h▸fT J hM J J J
 ·obtain⟨V,h⟩:=h
  refine cU<|Z<|T (du (Y J) hI)<|bB<|aA<|pq (Y J) (TJ V)<|dZ<|aA<|am<|ax J<|aC J<|Z<|bh<|bB<|aA ?_;refine Z<|T (cv hI)<|bB<|am<|bA ?_;refine aD (Ez (aF:=fun k2 i1 carry out1=>(4-i1=k2)/\jT a1 b (fN a1 b k1) i k2 i1 carry out1=some R) (Of:=fun _ i1 carry out1=>[bx dE 234 b1 Le,bx dE 234 b2 out1]) (Gf:=fun _ i1 carry out1=>[(2,bF dE a1),(3,bF dE b),(4,tV (ba b1 0)),(5,tV (ba b2 0)),(6,bD (i:Int)),(7,tD o8 carry),(10,bD (i:Int)),(13,bD (i1:Int))]) (fun i1 carry out1 h=>?_) (fun k3 ih1 i1 carry out1 h=>?_) 4 0 (0:Int) out ⟨J,h⟩) (bf J)
  ·obtain⟨hx1,h⟩:=h
   refine cU<|Z<|T (du (Y J) hI)<|bB<|aA<|pr (Y J) (TK hx1)<|d7<|aH<|aH<|cF<|ap<|au<|Q J<|T (eG (Y J) hI)<|Q J<|eZ 0 ik J<|ci h fun u q_u h=>T (gY (n:=8) (off:=0) rK hU (Y J) (Y J) (jf q_u))<|o6 (EffOK.fr1 (qu (q:=o8) (off:=0+(IntKind.i64.wrap ((i:Int)+(4:Int))).toNat*1) (y0:=carry) hU J (uF (off:=0) (nY kH fQ J J) (uE (jf q_u)) (oE sP) (qO (jf q_u)) J) (xl (d:=0) (sz:=1) (n:=8) (jf q_u) J) (Y J) (Y J))) fun _=>?_;refine(show RG _ _ _ _ [_,_] _ from ?_);refine aY<|ay<|ap<|au<|T (ut (Ma V (by decide)) (Y J) hI)<|Q J<|aY<|bK ?_;exact aR (aD (ih (i+1) ({out1 with D:=(out1.D.set (IntKind.i64.wrap ((i:Int)+(4:Int))).toNat carry)}:d8) ⟨L0 V,h⟩) (bf J))
  ·obtain⟨hx1,h⟩:=h
   refine cU<|Z<|T (du (Y J) hI)<|bB<|aA<|pq (Y J) (TJ hx1)<|dZ<|aA<|am<|ax J<|aC J<|aA<|ci h fun u1 q_u1 h=>ci h fun e2 q_e2 h=>ci h fun e3 q_e3 h=>ci h fun e4 q_e4 h=>?_
   refine iQ (ts:=[_,_,_,_,_,_,_,_,_,_,_,_,_,_,_,_,_,_,_]) mixed J J
    ⟨dc J J,
    ⟨dc J J,
    ⟨cM 16 0 17 1 J J J (eG (Y J) (Y J)),
    ⟨jH 5 J J (tp 0 ik J J J),
    ⟨cM 19 3 18 2 J J J (gY (n:=8) (off:=0) rK hU (Y J) (Y J) (jf q_u1)),
    ⟨cT 20 4 J J (AJ (q:=o8) (off:=0+(IntKind.i64.wrap ((i:Int)+(i1:Int))).toNat*1) hU J J (.tail _ (.head _)) (AS (nY kH fQ J J) q_e2) (Y J)),
    ⟨dc J J,
    ⟨jH 2 J J (ic ik fQ J J),
    ⟨cM 23 7 22 6 J J J (fE rK hU J (Y J) (Y J) q_e3),
    ⟨dh 8 hU J J,
    ⟨dc J J,
    ⟨jH 3 J J (ic ik fQ J J),
    ⟨cM 27 11 26 10 J J J (fE rK hU J (Y J) (Y J) q_e4),
    ⟨dh 12 hU J J,
    ⟨cM 25 9 29 13 J J J (xF (Y J) (Y J)),
    ⟨cM 21 5 30 14 J J J (eG (Y J) (Y J)),
    ⟨dc J J,
    ⟨cM 31 15 32 16 J J J (eG (Y J) (Y J)),
    ⟨cT 33 17 J J (sE J),
    O⟩⟩⟩⟩⟩⟩⟩⟩⟩⟩⟩⟩⟩⟩⟩⟩⟩⟩⟩ ?_
   refine ap<|au<|Q J<|Q J<|T (eG (Y J) (Y J))<|Q J<|T (EX (Y J) hI (by decide))<|Q J<|T (vc (Y J) hI (by decide))<|eZ 0 ik J<|ci h fun u2 q_u2 h=>T (gY (n:=8) (off:=0) rK hU (Y J) (Y J) (jf q_u2))<|o6 (EffOK.fr1 (qu (q:=o8) (off:=0+(IntKind.i64.wrap ((i:Int)+(i1:Int))).toNat*1) (y0:=(((IntKind.u64.wrap ((IntKind.u64.wrap (e2+(IntKind.u64.wrap (e3*e4))))+carry))).tmod (4294967296:Int))) hU J (uF (off:=0) (nY kH fQ J J) (uE (jf q_u2)) (oE sP) (qO (jf q_u2)) J) (xl (d:=0) (sz:=1) (n:=8) (jf q_u2) J) (Y J) (Y J))) fun _=>?_;refine(show RG _ _ _ _ [_,_] _ from ?_);refine dC J<|aY<|ay<|ap<|au<|T (ut (Ma hx1 (by decide)) (Y J) hI)<|Q J<|aY<|bK ?_;exact aR (aD (ih1 (i1+1) (((IntKind.u64.wrap ((IntKind.u64.wrap (e2+(IntKind.u64.wrap (e3*e4))))+carry))).fdiv GZ) ({out1 with D:=(out1.D.set (IntKind.i64.wrap ((i:Int)+(i1:Int))).toNat (((IntKind.u64.wrap ((IntKind.u64.wrap (e2+(IntKind.u64.wrap (e3*e4))))+carry))).tmod (4294967296:Int)))}:d8) ⟨L0 hx1,h⟩) (bf J))

def Yg a1 b{R}(h:nV a1 b=some R):bY aU 274 [tD dE a1,tD dE b] (tD dE R):=by
 refine co Tryz.func274 J<|Z<|bO J<|bO J<|aQ hM u6 J fun b1=>bB<|aA<|ci h fun e q_e h=>ci h fun e1 q_e1 h=>ci h fun e2 q_e2 h=>ci h fun e3 q_e3 h=>?_
 refine iQ (ts:=[_,_,_,_,_,_,_,_,_,_,_,_,_,_,_,_,_,_]) mixed J J
  ⟨jH 2 J J (ic ik fQ J J),
  ⟨cT 8 0 J J (fE rK hU J (Y J) hI q_e),
  ⟨dh 1 hU J J,
  ⟨cT 10 2 J J (LN (Y J) hI (by decide)),
  ⟨jH 2 J J (ic ik fQ J J),
  ⟨cT 12 4 J J (fE rK hU J (Y J) hI q_e1),
  ⟨dh 5 hU J J,
  ⟨cM 11 3 14 6 J J J (eG (Y J) (Y J)),
  ⟨jH 3 J J (ic ik fQ J J),
  ⟨cT 16 8 J J (fE rK hU J (Y J) hI q_e2),
  ⟨dh 9 hU J J,
  ⟨cT 18 10 J J (LN (Y J) hI (by decide)),
  ⟨jH 3 J J (ic ik fQ J J),
  ⟨cT 20 12 J J (fE rK hU J (Y J) hI q_e3),
  ⟨dh 13 hU J J,
  ⟨cM 19 11 22 14 J J J (eG (Y J) (Y J)),
  ⟨cT 15 7 J J (sE J),
  ⟨cT 23 15 J J (sE J),
  O⟩⟩⟩⟩⟩⟩⟩⟩⟩⟩⟩⟩⟩⟩⟩⟩⟩⟩ ?_
 refine ap<|ax J<|Q J<|ci h fun u q_u h=>T (Vf (Y J) (Y J) (RJ q_u))<|aC J<|ax J<|T (EX (Y J) hI (by decide))<|Q J<|T (vc (Y J) hI (by decide))<|T (HT (r:=o8) (x:=Th) rK hU J UP (fun _=>Es (r:=o8) 8 (fun _=>J) _) ⟨_,J,(Y J),⟨_,J,(Y J),J⟩⟩)<|bg na nZ zZ J<|bg na nZ zZ J<|T (DM Do (Y J) (Y J))<|Q J<|aw J (cG J) ?_;exact aw J (sK J)<|dv J<|T (bM (y:=(⟨((Th.set 0 (((IntKind.u64.wrap (((IntKind.u64.wrap ((IntKind.u64.wrap (e*2^Cw))+e1))).tdiv (IntKind.u64.wrap ((IntKind.u64.wrap (e2*2^Cw))+e3))))).tmod (4294967296:Int))).set 1 (((IntKind.u64.wrap (((IntKind.u64.wrap ((IntKind.u64.wrap (e*2^Cw))+e1))).tdiv (IntKind.u64.wrap ((IntKind.u64.wrap (e2*2^Cw))+e3))))).fdiv GZ)),((a1.Below !=b.Below)&&((IntKind.u64.wrap (((IntKind.u64.wrap ((IntKind.u64.wrap (e*2^Cw))+e1))).tdiv (IntKind.u64.wrap ((IntKind.u64.wrap (e2*2^Cw))+e3)))) !=(0:Int)))⟩:d8)) hM aai u6 (⟨_,_,_,_,_,J,sP,J,(Y J),⟨_,_,_,_,_,J,xY,J,(Y J),J⟩⟩))<|be hM ah J<|aV 4 J<|cK<|so h▸fT J hM J J J

def D4 op a1 b{R}(h:jU op a1 b=some R):bY aU 229 [tD (rI .u8) op,tD ae a1,tD ae b] (tT [tD ae R.1,bD R.2]):=by
 refine co Tryz.func229 J<|Z<|bO J<|bO J<|aQ an aL J fun b1=>bh<|bB<|aA<|am<|Z<|bn an J<|bS h Er (ta _) (bj J) fun r h=>T (dY (Y J))<|Q J<|ci h fun t q_t h=>aO J (fun H=>nE an J J) ?_
 obtain⟨r1,h1t,h0t⟩:=og q_t
 have q_r1g:=fun M=>(h1t M).1
 refine aO J (fun H=>bo Er (ta _ (q_r1g H)) ⟨(bG J H),O⟩)<|aO J (nI J)<|T (eC (Y J) (fun M=>(bG J (pQ M))) (fun M=>(h1t M).2) h0t)<|aC J<|gp h J (fun h=>?_) (fun h=>?_)
 ·exact Z<|T (bM an jg aL J)<|be an ah J<|cd<|bT<|aB 6 J<|so h▸bq J J ⟨aT an J J J,aN J,O⟩
 ·refine Z<|bn an J<|bS h Wm (Mv _) (bj J) fun r2 h=>T (dY (Y J))<|Q J<|ci h fun t1 q_t1 h=>aO J (fun H=>nE an J J) ?_
  obtain⟨r3,h1t1,h0t1⟩:=og q_t1
  have q_r3g:=fun M=>(h1t1 M).1
  refine aO J (fun H=>bo Wm (Mv _ (q_r3g H)) ⟨(bG J H),O⟩)<|aO J (nI J)<|T (eC (Y J) (fun M=>(bG J (pQ M))) (fun M=>(h1t1 M).2) h0t1)<|aC J<|gp h J (fun h=>?_) (fun h=>?_)
  ·exact Z<|T (bM an jg aL J)<|be an ah J<|cd<|bT<|aB 6 J<|so h▸bq J J ⟨aT an J J J,aN J,O⟩
  ·refine Z<|bg cY bC cj J<|bP J<|Q J<|aO J (cZ cY bC J J)<|aO J (cN cj J J)<|aO J (fV J)<|fj J<|aC J<|gp h J (fun h=>?_) (fun h=>?_)
   ·exact Z<|T (bM an jg aL J)<|be an ah J<|cd<|bT<|aB 6 J<|so h▸bq J J ⟨aT an J J J,aN J,O⟩
   ·refine bc<|ay<|ap<|Z<|aQ hM u6 J fun b2=>bB<|aE<|Q J<|bB<|am<|Z<|bP J<|aC J<|gp h J (fun h=>?_) (fun h=>?_)
    ·refine ci h fun r4 q_r4 h=>ci h fun r5 q_r5 h=>ci h fun r6 q_r6 h=>?_
     refine BN 7 (ts:=[bF cI a1.N,bD a1.N,tD dE r4,bF cI b.N,bD b.N,tD dE r5,tD dE r6]) mixed J J J
      ⟨jH 4 J J (ic fC cE J J),
      ⟨dh 0 wd J J,
      ⟨cT 56 1 J J (bo Co (uw _ q_r4) ⟨(Y J),O⟩),
      ⟨jH 5 J J (ic fC cE J J),
      ⟨dh 3 wd J J,
      ⟨cT 59 4 J J (bo Co (uw _ q_r5) ⟨(Y J),O⟩),
      ⟨cM 57 2 60 5 J J J (bo Wl (Mu _ _ q_r6) ⟨(Y J),(Y J),O⟩),
      O⟩⟩⟩⟩⟩⟩⟩ ?_
     refine be hM ah J<|aY<|ay<|ap<|Z<|T (bR hM J J bz (.head _) (Y J))<|bS h Pb (D3 _) (bj J) fun r7 h=>Q J<|bv J J<|bv J J<|dC J<|aC J<|aE<|Q J<|T (dY (Y J))<|bE h J (fun h=>?_) (fun h=>?_)
     ·exact Z<|T (bM an jg aL J)<|bu<|be an ah J<|cd<|af<|aB 6 J<|aG<|so h▸bq J J ⟨aT an J J J,aN J,O⟩
     ·exact dZ<|ax J<|bS h F5 (xn _) (bj J) fun r8 h=>bu<|be an ah J<|cd<|aB 6 J<|aG<|so h▸bq J J ⟨aT an J J J,aN J,O⟩
    ·refine Z<|bP J<|aC J<|gp h J (fun h=>?_) (fun h=>?_)
     ·refine ci h fun r9 q_r9 h=>ci h fun r10 q_r10 h=>ci h fun r11 q_r11 h=>ci h fun r12 q_r12 h=>?_
      refine BN 8 (ts:=[bF cI a1.N,bD a1.N,tD dE r9,bF cI b.N,bD b.N,tD dE r10,tD dE r11,tD dE r12]) mixed J J J
       ⟨jH 4 J J (ic fC cE J J),
       ⟨dh 0 wd J J,
       ⟨cT 65 1 J J (bo Co (uw _ q_r9) ⟨(Y J),O⟩),
       ⟨jH 5 J J (ic fC cE J J),
       ⟨dh 3 wd J J,
       ⟨cT 68 4 J J (bo Co (uw _ q_r10) ⟨(Y J),O⟩),
       ⟨cT 69 5 J J (bo aem (Yi _ q_r11) ⟨(Y J),O⟩),
       ⟨cM 66 2 70 6 J J J (bo Wl (Mu _ _ q_r12) ⟨(Y J),(Y J),O⟩),
       O⟩⟩⟩⟩⟩⟩⟩⟩ ?_
      refine be hM ah J<|aY<|ay<|ap<|Z<|T (bR hM J J bz (.head _) (Y J))<|bS h Pb (D3 _) (bj J) fun r13 h=>Q J<|bv J J<|bv J J<|dC J<|aC J<|aE<|Q J<|T (dY (Y J))<|bE h J (fun h=>?_) (fun h=>?_)
      ·exact Z<|T (bM an jg aL J)<|bu<|be an ah J<|cd<|af<|aB 6 J<|aG<|so h▸bq J J ⟨aT an J J J,aN J,O⟩
      ·exact dZ<|ax J<|bS h F5 (xn _) (bj J) fun r14 h=>bu<|be an ah J<|cd<|aB 6 J<|aG<|so h▸bq J J ⟨aT an J J J,aN J,O⟩
     ·refine Z<|bP J<|aC J<|gp h J (fun h=>?_) (fun h=>?_)
      ·refine ci h fun r15 q_r15 h=>ci h fun r16 q_r16 h=>ci h fun r17 q_r17 h=>?_
       refine BN 7 (ts:=[bF cI a1.N,bD a1.N,tD dE r15,bF cI b.N,bD b.N,tD dE r16,tD dE r17]) mixed J J J
        ⟨jH 4 J J (ic fC cE J J),
        ⟨dh 0 wd J J,
        ⟨cT 75 1 J J (bo Co (uw _ q_r15) ⟨(Y J),O⟩),
        ⟨jH 5 J J (ic fC cE J J),
        ⟨dh 3 wd J J,
        ⟨cT 78 4 J J (bo Co (uw _ q_r16) ⟨(Y J),O⟩),
        ⟨cM 76 2 79 5 J J J (bo ael (Yh _ _ q_r17) ⟨(Y J),(Y J),O⟩),
        O⟩⟩⟩⟩⟩⟩⟩ ?_
       refine be hM ah J<|aY<|ay<|ap<|Z<|T (bR hM J J bz (.head _) (Y J))<|bS h Pb (D3 _) (bj J) fun r18 h=>Q J<|bv J J<|bv J J<|dC J<|aC J<|aE<|Q J<|T (dY (Y J))<|bE h J (fun h=>?_) (fun h=>?_)
       ·exact Z<|T (bM an jg aL J)<|bu<|be an ah J<|cd<|af<|aB 6 J<|aG<|so h▸bq J J ⟨aT an J J J,aN J,O⟩
       ·exact dZ<|ax J<|bS h F5 (xn _) (bj J) fun r19 h=>bu<|be an ah J<|cd<|aB 6 J<|aG<|so h▸bq J J ⟨aT an J J J,aN J,O⟩
      ·refine aE<|bg fC cE wd J<|bP J<|bE h J (fun h=>?_) (fun h=>?_)
       ·exact Z<|T (bM an jg aL J)<|bu<|be an ah J<|cd<|af<|bT<|aB 6 J<|aG<|so h▸bq J J ⟨aT an J J J,aN J,O⟩
       ·refine dZ<|ci h fun r20 q_r20 h=>ci h fun r21 q_r21 h=>ci h fun r22 q_r22 h=>?_
        refine BN 7 (ts:=[bF cI a1.N,bD a1.N,tD dE r20,bF cI b.N,bD b.N,tD dE r21,tD dE r22]) mixed J J J
         ⟨jH 4 J J (ic fC cE J J),
         ⟨dh 0 wd J J,
         ⟨cT 47 1 J J (bo Co (uw _ q_r20) ⟨(Y J),O⟩),
         ⟨jH 5 J J (ic fC cE J J),
         ⟨dh 3 wd J J,
         ⟨cT 50 4 J J (bo Co (uw _ q_r21) ⟨(Y J),O⟩),
         ⟨cM 48 2 51 5 J J J (bo aek (Yg _ _ q_r22) ⟨(Y J),(Y J),O⟩),
         O⟩⟩⟩⟩⟩⟩⟩ ?_
        refine be hM ah J<|aY<|ay<|ap<|Z<|T (bR hM J J bz (.head _) (Y J))<|bS h Pb (D3 _) (bj J) fun r23 h=>Q J<|bv J J<|bv J J<|dC J<|aC J<|aE<|Q J<|T (dY (Y J))<|bE h J (fun h=>?_) (fun h=>?_)
        ·exact Z<|T (bM an jg aL J)<|bu<|be an ah J<|cd<|af<|aB 6 J<|aG<|so h▸bq J J ⟨aT an J J J,aN J,O⟩
        ·exact dZ<|ax J<|bS h F5 (xn _) (bj J) fun r24 h=>bu<|be an ah J<|cd<|aB 6 J<|aG<|so h▸bq J J ⟨aT an J J J,aN J,O⟩

end Go.Proofs.YtpgjgkdpeagjbaaGreatDoor

