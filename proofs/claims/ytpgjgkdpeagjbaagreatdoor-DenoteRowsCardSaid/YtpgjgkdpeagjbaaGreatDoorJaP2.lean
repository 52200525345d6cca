/- eJ of this claim: P2. -/
import Derived.Test.YtpgjgkdpeagjbaaGreatDoorJaT
import Derived.Test.YtpgjgkdpeagjbaaGreatDoorJaP1
set_option linter.all false
namespace Go.Proofs.YtpgjgkdpeagjbaaGreatDoor
open Go
set_option maxRecDepth 100000

def Sp e kinds{R}(h:uN e kinds=some R):bY aU 179 [tD cm e,kq kinds] (gM R):=by
 refine co Tryz.func179 J<|Z<|bO J<|ca<|bB<|Z<|bn jk J<|Q J<|bS h Wq (Mz _ _) (bj J) fun r h=>Q J<|bv J J<|bv J J<|dC J<|aC J<|ax J<|bP J ?_;exact Q J<|aw J (cG J)<|aw J (fV J)<|aw J (mJ J)<|dB J J J J (fun H=>gL J)<|dB J J J J (fun H=>iK (bG J H) hI)<|aw J (fun H=>nW (bG J H) (fun M=>(bG J (nC H (pQ M)))))<|dv J<|aM J<|so h▸av J J

def acD(b:Nat)(ix:OI) c n{R}(h:jn c n=some R):ea aU 120 [tV (ba b 0),tD aW n] (fJ b c ix) (fun _:OI=>tT [kq R.1,gM R.2]) (fun _=>(fJ b c ix)):=by
 refine ea.of Tryz.func120 J J J fun w0 S0=>?_;refine(show CG _ _ _ [bx (rH cg [(1,bw (ix.h 0).1 (ix.h 0).2 c.kinds.length),(2,bw (ix.h 1).1 (ix.h 1).2 c.first.length)]) 108 b c,gO sH 39 (ix.h 0).1 (ix.h 0).2 c.kinds,gO cI 3 (ix.h 1).1 (ix.h 1).2 c.first] _ from ?_);refine Z<|bO J<|dO cI<|ca<|bB<|aA<|ci h fun e q_e h=>ci h fun e1 q_e1 h=>ci h fun r q_r h=>?_
 refine iQ (ts:=[_,_,_,_,_,_,_,_,_,_,_,_,_,_,_,_,_,_,_]) mixed J J
  ⟨dc J J,
  ⟨cT 7 0 J J (ee (Y J)),
  ⟨cT 8 1 J J (tp 1 oP J J J),
  ⟨cT 9 2 J J (eD we J (.head _) (.tail _ (.head _)) (Y J)),
  ⟨jH 3 J J (ic iO de J J),
  ⟨dh 4 cj J J,
  ⟨cM 10 3 12 5 J J J (bm xP eQ J (km (Y J)) (Y J) q_e),
  ⟨dh 6 eQ J J,
  ⟨dc J J,
  ⟨cT 15 8 J J (ee (Y J)),
  ⟨cT 16 9 J J (tp 1 oP J J J),
  ⟨cT 17 10 J J (eD we J (.head _) (.tail _ (.head _)) (Y J)),
  ⟨jH 3 J J (ic mL fW J J),
  ⟨dh 12 cj J J,
  ⟨cM 18 11 20 13 J J J (bm xP eQ J (km (Y J)) (Y J) q_e1),
  ⟨dh 14 eQ J J,
  ⟨cM 14 7 22 15 J J J (aI (r:=Ak) (ys:=[e,e1]) (xs:=[.tmp 14,.tmp 22]) xP eQ J J J J J ⟨(Y J),(Y J),O⟩),
  ⟨cT 23 16 J J (bo ae0 (YV _ q_r) ⟨(Y J),O⟩),
  ⟨cT 24 17 J J (sE J),
  O⟩⟩⟩⟩⟩⟩⟩⟩⟩⟩⟩⟩⟩⟩⟩⟩⟩⟩⟩ ?_
 exact ap<|ax J<|bg rZ kK jk J<|Q J<|bS h aaG (Sp _ _) (bj J) fun r1 h=>dC J<|aM J<|aP<|aP<|aP<|so h▸fS (ts:=[kq r,gM r1]) (rvs:=[.tmp 4,.tmp 5]) J J ⟨aN J,aN J,O⟩ sF J J

def acC(b:Nat)(ix:OI) c n{R}(h:iw c n=some R):ea aU 121 [tV (ba b 0),tD aW n] (fJ b c ix) (fun _:OI=>tT [kq R.1,gM R.2]) (fun _=>(fJ b c ix)):=by
 refine ea.of Tryz.func121 J J J fun w0 S0=>?_;refine(show CG _ _ _ [bx (rH cg [(1,bw (ix.h 0).1 (ix.h 0).2 c.kinds.length),(2,bw (ix.h 1).1 (ix.h 1).2 c.first.length)]) 108 b c,gO sH 39 (ix.h 0).1 (ix.h 0).2 c.kinds,gO cI 3 (ix.h 1).1 (ix.h 1).2 c.first] _ from ?_);refine Z<|bO J<|dO cI<|ca<|bB<|aA<|ci h fun e q_e h=>ci h fun r q_r h=>?_
 refine iQ (ts:=[_,_,_,_,_,_,_,_,_,_,_,_,_,_,_,_,_,_,_,_,_]) mixed J J
  ⟨dc J J,
  ⟨cT 6 0 J J (ee (Y J)),
  ⟨cT 7 1 J J (tp 1 oP J J J),
  ⟨cT 8 2 J J (eD we J (.head _) (.tail _ (.head _)) (Y J)),
  ⟨jH 3 J J (ic iO de J J),
  ⟨dh 4 cj J J,
  ⟨cM 9 3 11 5 J J J (bm xP eQ J (km (Y J)) (Y J) q_e),
  ⟨dh 6 eQ J J,
  ⟨jH 3 J J (ic rZ kK J J),
  ⟨dh 8 jk J J,
  ⟨dc J J,
  ⟨cT 16 10 J J (ee (Y J)),
  ⟨cT 17 11 J J (tp 1 oP J J J),
  ⟨cT 18 12 J J (eD we J (.head _) (.tail _ (.head _)) (Y J)),
  ⟨jH 3 J J (ic iO de J J),
  ⟨dh 14 cj J J,
  ⟨cM 19 13 21 15 J J J (bm xP eQ J (km (Y J)) (Y J) q_e),
  ⟨dh 16 eQ J J,
  ⟨cM 15 9 23 17 J J J (bo aaG (Sp _ _ q_r) ⟨(Y J),(Y J),O⟩),
  ⟨cT 13 7 J J (sE J),
  ⟨cT 24 18 J J (sE J),
  O⟩⟩⟩⟩⟩⟩⟩⟩⟩⟩⟩⟩⟩⟩⟩⟩⟩⟩⟩⟩⟩ ?_
 exact ap<|fD<|aP<|aP<|aP<|so h▸fS (ts:=[kq e,gM r]) (rvs:=[.tmp 4,.tmp 5]) J J ⟨aN J,aN J,O⟩ sF J J

def Yr kinds c{R}(h:s4 kinds c=some R):bY aU 243 [bD c,bF sH kinds] (gM R):=by
 exact co Tryz.func243 J<|Z<|ca<|bB<|ax J<|T (du (Y J) hI)<|Q J<|aO J (cG J)<|aO J (fun H=>nE eQ J J)<|aO J (jJ fz J)<|aO J (fun H=>eF (bG J H) (bG J H))<|fj J<|aM J<|so h▸av J J

def YU l kinds{R}(h:vB l kinds=some R):bY aU 180 [kq l,kq kinds] (gM R):=by
 exact co Tryz.func180 J<|Z<|bO J<|ca<|bB<|ax J<|T ((show cz _ _ _ _ ((fL aU Nk qd (fun(x:Int)=>(s4 kinds) x)))from kg (cts:=[bF sH kinds]) (caps:=[.tmp 3]) aev ⟨(Y J),O⟩ (fun x y h=>Yr _ _ h)))<|bS h SX (GL _ _) (bj J) fun r h=>T (dY (Y J))<|aM J<|so h▸av J J

def YT a1 kinds{R}(h:Bn a1 kinds=some R):bY aU 181 [tD eM a1,kq kinds] (tT [bD R.1,gM R.2]):=by
 refine co Tryz.func181 J<|Z<|bO J<|bh<|ca<|bB<|aE<|bg pR kz cj J<|bP J<|bE h J (fun h=>?_) (fun h=>?_)
 ·refine aA ?_
  refine iQ (ts:=[_,_,_,_,_,_,_]) mixed J J
   ⟨jH 2 J J (ic xH ro J J),
   ⟨cT 11 0 J J (ic la gj J J),
   ⟨dh 1 uD J J,
   ⟨cT 13 2 J J (UC qC J),
   ⟨cT 14 3 J J (Uy J),
   ⟨PI J (Z2),
   ⟨cT 15 4 J J (sE J),
   O⟩⟩⟩⟩⟩⟩⟩ ?_
  exact ap<|fD<|af<|so h▸bH J J J
 ·refine dZ<|Z<|bg xH ro jk J<|Q J<|bS h Wq (Mz _ _) (bj J) fun r h=>Q J<|bv J J<|bv J J<|dC J<|aC J<|aE<|bg pR kz cj J<|bB<|am ?_;refine Z<|bP J<|aC J<|gp h J (fun h=>?_) (fun h=>?_)
  ·exact ax J<|bP J<|bh<|aM J<|bT<|so h▸bH J J J
  ·refine Z<|bP J<|aC J<|gp h J (fun h=>?_) (fun h=>?_)
   ·exact ax J<|bP J<|Q J<|aw J (cG J)<|aw J (fV J)<|aw J (mJ J)<|dB J J J J (fun H=>gL J)<|dB J J J J (fun H=>iK (bG J H) hI)<|aw J (fun H=>nW (bG J H) (fun M=>(bG J (nC H (pQ M)))))<|dv J<|bh<|aM J<|bT<|so h▸bH J J J
   ·refine fi (aF:=fun x=>vD r x=some R) (Of:=fun x=>[]) (Gf:=fun x=>[(6,bD r.1),(7,bD r.2),(41,gM x)]) (fun x h=>?_) (fun h2=>?_)
    ·skip
     refine gp h J (fun h=>?_) (fun h=>?_)
     ·exact ax J<|Q J<|bP J<|dC J<|aM J<|bT<|so h▸bH J J J
     ·exact bc<|ay<|ap<|Z<|bh<|ca<|cK<|so h▸bH J J J
    ·skip
     refine Z<|bP J<|aC J<|gp h J (fun h=>?_) (fun h=>?_)
     ·refine bc ?_;exact ce (h2 (a1.Tag==(4:Int)) h) (bf J)
     ·refine au<|bP J<|dC J<|aY ?_;exact ce (h2 (a1.Tag==(5:Int)) h) (bf J)

def acB(b:Nat)(ix:OI) c n{R}(h:iW c n=some R):ea aU 122 [tV (ba b 0),tD aW n] (fJ b c ix) (fun _:OI=>tT [kq R.1,gM R.2]) (fun _=>(fJ b c ix)):=by
 refine ea.of Tryz.func122 J J J fun w0 S0=>?_;refine(show CG _ _ _ [bx (rH cg [(1,bw (ix.h 0).1 (ix.h 0).2 c.kinds.length),(2,bw (ix.h 1).1 (ix.h 1).2 c.first.length)]) 108 b c,gO sH 39 (ix.h 0).1 (ix.h 0).2 c.kinds,gO cI 3 (ix.h 1).1 (ix.h 1).2 c.first] _ from ?_);refine Z<|bO J<|dO cI<|ca<|bB<|aA<|ci h fun e q_e h=>?_
 refine iQ (ts:=[_,_,_,_,_,_,_,_,_]) mixed J J
  ⟨dc J J,
  ⟨cT 15 0 J J (ee (Y J)),
  ⟨cT 16 1 J J (tp 1 oP J J J),
  ⟨cT 17 2 J J (eD we J (.head _) (.tail _ (.head _)) (Y J)),
  ⟨jH 3 J J (ic iO de J J),
  ⟨dh 4 cj J J,
  ⟨cM 18 3 20 5 J J J (bm xP eQ J (km (Y J)) (Y J) q_e),
  ⟨dh 6 eQ J J,
  ⟨cT 22 7 J J (sE J),
  O⟩⟩⟩⟩⟩⟩⟩⟩⟩ ?_
 refine ap<|Z<|bg pT iY eQ J<|ck fz J<|T (jm (Y J) hI)<|Q J<|aw J (cZ oM kJ J J)<|aw J (cN zY J J)<|aw J (jJ uz J)<|aw J (fun H=>jm (bG J H) hI)<|dv J<|Q J<|aw J (cZ pT iY J J)<|aw J (cN eQ J J)<|aw J (jJ fz J)<|aw J (cZ oM kJ J J)<|aw J (cN zY J J)<|aw J (jJ uz J)<|aw J (fun H=>eG (bG J H) (bG J H))<|aw J (fun H=>dy (bG J H) hI)<|dv J<|Q J ?_;refine ci h fun t q_t h=>aw J (cZ pT iY J J)<|aw J (cN eQ J J)<|aw J (cG J) ?_
 obtain⟨r,h1t,h0t⟩:=og q_t
 have q_rg:=fun M=>(h1t M).1
 refine aw J (fun H=>bo aeZ (YU _ _ (q_rg H)) ⟨(bG J H),(bG J H),O⟩)<|T (cQ (Y J) (fun M=>(bG J M)) (fun M=>(h1t M).2) h0t)<|aC J<|aE<|Q J<|T (dY (Y J))<|bE h J (fun h=>?_) (fun h=>?_)
 ·exact Z<|dO cI<|ca<|cK<|af<|aP<|aP<|aP<|so h▸fS (ts:=[kq ([]),gM false]) (rvs:=[.tmp 4,.tmp 5]) J J ⟨aN J,aN J,O⟩ sF J J
 ·refine dZ<|Z<|bQ false cI 3<|T (bp qa)<|bB<|aE<|bg pT iY eQ J<|ck fz J<|T (cv hI)<|bB<|am<|aZ (k:=52) J fun hN=>bA ?_;refine aD (iR (aF:=fun ls i out l c1=>(n.Keys.drop i=ls)/\iL n e t ls out=some R) (Of:=fun _ i out l c1=>[ff cI 3 l c1 out,bx (rH cg [(1,bw (ix.h 0).1 (ix.h 0).2 c.kinds.length),(2,bw (ix.h 1).1 (ix.h 1).2 c.first.length)]) 108 b c,gO sH 39 (ix.h 0).1 (ix.h 0).2 c.kinds,gO cI 3 (ix.h 1).1 (ix.h 1).2 c.first]) (Gf:=fun _ i out l c1=>[(3,bF aW n),(6,kq e),(7,gM t),(8,my l c1 out),(52,kq n.Keys),(53,kP n.Keys),(54,bD (i:Int))]) (fun i out l c1 h=>?_) (fun e1 tl ih i out l c1 h=>?_) n.Keys 0 BL none 0 ⟨J,h⟩) (bf J)
  ·obtain⟨V,h⟩:=h
   refine eY V J<|ap<|aE<|bg oM kJ zY J<|ck uz J<|T (cv hI)<|bB<|am<|aZ (k:=67) J fun hN1=>?_;refine bA ?_;refine aD (lQ (aF:=fun ls1 i1 out1 l1 c2 ok=>(n.Aggs.drop i1=ls1)/\gH e ls1 out1 ok=some R) (Of:=fun _ i1 out1 l1 c2 ok=>[ff cI 3 l1 c2 out1,bx (rH cg [(1,bw (ix.h 0).1 (ix.h 0).2 c.kinds.length),(2,bw (ix.h 1).1 (ix.h 1).2 c.first.length)]) 108 b c,gO sH 39 (ix.h 0).1 (ix.h 0).2 c.kinds,gO cI 3 (ix.h 1).1 (ix.h 1).2 c.first]) (Gf:=fun _ i1 out1 l1 c2 ok=>[(6,kq e),(7,gM ok),(8,my l1 c2 out1),(67,cr (eM) n.Aggs),(68,kP n.Aggs),(69,bD (i1:Int))]) (fun i1 out1 l1 c2 ok h=>?_) (fun e2 tl1 ih1 i1 out1 l1 c2 ok h=>?_) n.Aggs 0 out l c1 t ⟨J,h⟩) (bf J)
   ·obtain⟨hx1,h⟩:=h
    refine eY hx1 J<|ap<|ax J<|Q J<|dC J<|aM J<|dU<|bN 8 J ?_;exact bN 88 J<|bN 4 J<|dQ 4 J<|aG<|aP<|aP<|aP<|so h▸fS (ts:=[kq out1,gM ok]) (rvs:=[.tmp 4,.tmp 5]) J J ⟨aN J,aN J,O⟩ sF J J
   ·obtain⟨hx1,h⟩:=h
    refine eX hx1 J<|aA<|am<|Z<|cW uz vu J (cD hx1)<|aQ vu GY J fun b1=>be vu ah J<|aV 12 J<|bB<|Z<|bn vu J ?_;refine Q J<|bS h aeY (YT _ _) (bj J) fun r1 h=>Q J<|bv J J<|bv J J<|dC J<|aC J<|au<|Q J<|Q J<|T (aI (r:=cI) (ys:=[r1.1]) (xs:=[.tmp 80]) fz cj J J J J J ⟨(Y J),O⟩)<|ci h fun out2 q_out2 h=>bW cj J J J J fz J J (Y J) (Y J) q_out2 fun l2 c3=>Q J<|Q J<|aw J (cG J)<|dv J<|dC J<|dC J<|aY<|ay ?_;refine ap<|au<|T (zin (KF hx1 hN1) J)<|Q J<|aY ?_;exact aR (aD (ih1 (i1+1) out2 l2 c3 (ok&&r1.2) ⟨cH hx1,h⟩) (bf J))
  ·obtain⟨V,h⟩:=h
   refine eX V J<|aA<|am<|Z<|cW fz cj J (cD V)<|aC J<|au<|Q J<|Q J<|Q J<|ci h fun e3 q_e3 h=>?_;refine cW fz cj J q_e3<|T (aI (r:=cI) (ys:=[e3]) (xs:=[.tmp 62]) fz cj J J J J J ⟨(Y J),O⟩)<|ci h fun out3 q_out3 h=>bW cj J J J J fz J J (Y J) (Y J) q_out3 fun l3 c4=>dC J<|aY<|dR V hN J ?_;exact aR (aD (ih (i+1) out3 l3 c4 ⟨cH V,h⟩) (bf J))

def acA(b:Nat)(ix:OI) c n{R}(h:hY c n=some R):ea aU 123 [tV (ba b 0),tD aW n] (fJ b c ix) (fun _:OI=>tT [kq R.1,gM R.2]) (fun _=>(fJ b c ix)):=by
 refine ea.of Tryz.func123 J J J fun w0 S0=>?_;refine(show CG _ _ _ [bx (rH cg [(1,bw (ix.h 0).1 (ix.h 0).2 c.kinds.length),(2,bw (ix.h 1).1 (ix.h 1).2 c.first.length)]) 108 b c,gO sH 39 (ix.h 0).1 (ix.h 0).2 c.kinds,gO cI 3 (ix.h 1).1 (ix.h 1).2 c.first] _ from ?_);refine Z<|bO J<|dO cI<|ca<|bB<|Z<|bg pS kI zX J<|ck vk J<|T (eF (Y J) hI)<|Q J<|aw J (cZ pS kI J J)<|aw J (cN zX J J)<|aw J (jJ vk J)<|aw J (fun H=>jm (bG J H) hI)<|dv J<|aC J<|Z ?_;refine bQ false cI 3<|T (bp qa)<|bB<|aE<|bg pS kI zX J<|ck vk J<|T (cv hI)<|bB<|am<|aZ (k:=23) J fun hN=>bA ?_;refine aD (lQ (aF:=fun ls i out l c1 ok=>(n.Items.drop i=ls)/\gZ c n ls out ok=some R) (Of:=fun _ i out l c1 ok=>[ff cI 3 l c1 out,bx (rH cg [(1,bw (ix.h 0).1 (ix.h 0).2 c.kinds.length),(2,bw (ix.h 1).1 (ix.h 1).2 c.first.length)]) 108 b c,gO sH 39 (ix.h 0).1 (ix.h 0).2 c.kinds,gO cI 3 (ix.h 1).1 (ix.h 1).2 c.first]) (Gf:=fun _ i out l c1 ok=>[(0,tV (ba b 0)),(3,bF aW n),(6,gM ok),(7,my l c1 out),(23,cr (cm) n.Items),(24,kP n.Items),(25,bD (i:Int))]) (fun i out l c1 ok h=>?_) (fun e tl ih i out l c1 ok h=>?_) n.Items 0 BL none 0 ((decide ((1:Int)<=(n.Items.length:Int)))&&(decide ((n.Items.length:Int)<=(16:Int)))) ⟨J,h⟩) (bf J)
 ·obtain⟨V,h⟩:=h
  refine eY V J<|ap<|ax J<|Q J<|dC J<|aM J<|dU<|bN 7 J ?_;exact bN 52 J<|bN 4 J<|dQ 4 J<|aG<|aP<|aP<|aP<|so h▸fS (ts:=[kq out,gM ok]) (rvs:=[.tmp 4,.tmp 5]) J J ⟨aN J,aN J,O⟩ sF J J
 ·obtain⟨V,h⟩:=h
  refine eX V J<|aA<|am<|Z<|cW vk jk J (cD V)<|aQ jk vm J fun b1=>be jk ah J<|aV 9 J<|bB<|aA<|ci h fun e1 q_e1 h=>ci h fun r q_r h=>?_
  refine iQ (ts:=[_,_,_,_,_,_,_,_,_,_,_,_,_,_,_]) mixed J J
   ⟨jH 9 J J (nE jk J J),
   ⟨dc J J,
   ⟨cT 31 1 J J (ee (Y J)),
   ⟨cT 32 2 J J (tp 1 oP J J J),
   ⟨cT 33 3 J J (eD we J (.tail _ (.head _)) (.tail _ (.tail _ (.head _))) (Y J)),
   ⟨jH 3 J J (ic iO de J J),
   ⟨dh 5 cj J J,
   ⟨cM 34 4 36 6 J J J (bm xP eQ J (km (Y J)) (Y J) q_e1),
   ⟨dh 7 eQ J J,
   ⟨cM 30 0 38 8 J J J (bo Wq (Mz _ _ q_r) ⟨(Y J),(Y J),O⟩),
   ⟨cT 39 9 J J (gL J),
   ⟨cT 29 10 J J (vo J J),
   ⟨cT 29 10 J J (vo J J),
   ⟨cT 40 11 J J (sE J),
   ⟨cT 41 12 J J (sE J),
   O⟩⟩⟩⟩⟩⟩⟩⟩⟩⟩⟩⟩⟩⟩⟩ ?_
  refine ap<|au<|Q J<|Q J<|T (aI (r:=cI) (ys:=[r.1]) (xs:=[.tmp 43]) fz cj J J J J J ⟨(Y J),O⟩)<|ci h fun out1 q_out1 h=>bW cj J J J J fz J J (Y J) (Y J) q_out1 fun l1 c2=>Q J<|Q J<|aw J (cG J)<|aw J (fV J)<|dv J<|dC J<|dC J<|aY<|dR V hN J ?_;exact aR (aD (ih (i+1) out1 l1 c2 (ok&&(r.2==(0:Int))) ⟨cH V,h⟩) (bf J))

def acz(b:Nat)(ix:OI) c n{R}(h:gI c n=some R):ea aU 124 [tV (ba b 0),tD aW n] (fJ b c ix) (fun _:OI=>tT [kq R.1,gM R.2]) (fun _=>(fJ b c ix)):=by
 refine ea.of Tryz.func124 J J J fun w0 S0=>?_;refine(show CG _ _ _ [bx (rH cg [(1,bw (ix.h 0).1 (ix.h 0).2 c.kinds.length),(2,bw (ix.h 1).1 (ix.h 1).2 c.first.length)]) 108 b c,gO sH 39 (ix.h 0).1 (ix.h 0).2 c.kinds,gO cI 3 (ix.h 1).1 (ix.h 1).2 c.first] _ from ?_);refine Z<|bO J<|dO cI<|ca<|bB<|aA<|ci h fun e q_e h=>?_
 refine iQ (ts:=[_,_,_,_,_,_,_,_,_,_]) mixed J J
  ⟨dc J J,
  ⟨cT 6 0 J J (ee (Y J)),
  ⟨cT 7 1 J J (tp 1 oP J J J),
  ⟨cT 8 2 J J (eD we J (.head _) (.tail _ (.head _)) (Y J)),
  ⟨jH 3 J J (ic iO de J J),
  ⟨dh 4 cj J J,
  ⟨cM 9 3 11 5 J J J (bm xP eQ J (km (Y J)) (Y J) q_e),
  ⟨dh 6 eQ J J,
  ⟨cT 13 7 J J (sE J),
  ⟨PI J (zab),
  O⟩⟩⟩⟩⟩⟩⟩⟩⟩⟩ ?_
 exact ap<|fD<|aP<|aP<|aP<|so h▸fS (ts:=[kq e,gM true]) (rvs:=[.tmp 4,.tmp 5]) J J ⟨aN J,aN J,O⟩ sF J J

def acy(b:Nat)(ix:OI) c n{R}(h:iT c n=some R):ea aU 125 [tV (ba b 0),tD aW n] (fJ b c ix) (fun _:OI=>tT [kq R.1,gM R.2]) (fun _=>(fJ b c ix)):=by
 refine ea.of Tryz.func125 J J J fun w0 S0=>?_;refine(show CG _ _ _ [bx (rH cg [(1,bw (ix.h 0).1 (ix.h 0).2 c.kinds.length),(2,bw (ix.h 1).1 (ix.h 1).2 c.first.length)]) 108 b c,gO sH 39 (ix.h 0).1 (ix.h 0).2 c.kinds,gO cI 3 (ix.h 1).1 (ix.h 1).2 c.first] _ from ?_);refine Z<|bO J<|dO cI<|ca<|bB<|aA<|ci h fun e q_e h=>ci h fun e1 q_e1 h=>?_
 refine iQ (ts:=[_,_,_,_,_,_,_,_,_,_,_,_,_,_,_,_,_,_]) mixed J J
  ⟨dc J J,
  ⟨cT 12 0 J J (ee (Y J)),
  ⟨cT 13 1 J J (tp 1 oP J J J),
  ⟨cT 14 2 J J (eD we J (.head _) (.tail _ (.head _)) (Y J)),
  ⟨jH 3 J J (ic iO de J J),
  ⟨dh 4 cj J J,
  ⟨cM 15 3 17 5 J J J (bm xP eQ J (km (Y J)) (Y J) q_e),
  ⟨dh 6 eQ J J,
  ⟨dc J J,
  ⟨cT 20 8 J J (ee (Y J)),
  ⟨cT 21 9 J J (tp 1 oP J J J),
  ⟨cT 22 10 J J (eD we J (.head _) (.tail _ (.head _)) (Y J)),
  ⟨jH 3 J J (ic mL fW J J),
  ⟨dh 12 cj J J,
  ⟨cM 23 11 25 13 J J J (bm xP eQ J (km (Y J)) (Y J) q_e1),
  ⟨dh 14 eQ J J,
  ⟨cT 19 7 J J (sE J),
  ⟨cT 27 15 J J (sE J),
  O⟩⟩⟩⟩⟩⟩⟩⟩⟩⟩⟩⟩⟩⟩⟩⟩⟩⟩ ?_
 refine ap<|aE<|Q J<|ck fz J<|Q J<|ck fz J<|T (d6 (Y J) (Y J))<|bE h J (fun h=>?_) (fun h=>?_)
 ·exact Z<|dO cI<|ca<|cK<|af<|aP<|aP<|aP<|so h▸fS (ts:=[kq ([]),gM false]) (rvs:=[.tmp 4,.tmp 5]) J J ⟨aN J,aN J,O⟩ sF J J
 ·refine dZ<|ax J<|lI h Wh (Mq _) (bj J) fun r h l c1=>aC J<|Z<|ca<|bB<|aE<|Q J<|ck fz J<|T (cv hI)<|bB<|am ?_;refine aZ (k:=35) J fun hN=>bA ?_;refine aD (yC (aF:=fun ls i out ok=>(e1.drop i=ls)/\fb ls i out ok=some R) (Of:=fun _ i out ok=>[ff cI 3 l c1 out,bx (rH cg [(1,bw (ix.h 0).1 (ix.h 0).2 c.kinds.length),(2,bw (ix.h 1).1 (ix.h 1).2 c.first.length)]) 108 b c,gO sH 39 (ix.h 0).1 (ix.h 0).2 c.kinds,gO cI 3 (ix.h 1).1 (ix.h 1).2 c.first]) (Gf:=fun _ i out ok=>[(8,my l c1 out),(9,gM ok),(35,kq e1),(36,kP e1),(37,bD (i:Int))]) (fun i out ok h=>?_) (fun e2 tl ih i out ok h=>?_) e1 0 r true ⟨J,h⟩) (bf J)
  ·obtain⟨V,h⟩:=h
   refine eY V J<|ap<|ax J<|Q J<|dC J<|aM J<|dU<|bN 8 J ?_;exact bN 65 J<|bN 4 J<|dQ 4 J<|aG<|aP<|aP<|aP<|so h▸fS (ts:=[kq out,gM ok]) (rvs:=[.tmp 4,.tmp 5]) J J ⟨aN J,aN J,O⟩ sF J J
  ·obtain⟨V,h⟩:=h
   refine eX V J<|aA<|am<|ax J<|cW fz cj J (cD V)<|dC J<|aC J ?_;refine fi (aF:=fun out1=>jW (fb tl) i e2 ok out1=some R) (Of:=fun out1=>[ff cI 3 l c1 out1,bx (rH cg [(1,bw (ix.h 0).1 (ix.h 0).2 c.kinds.length),(2,bw (ix.h 1).1 (ix.h 1).2 c.first.length)]) 108 b c,gO sH 39 (ix.h 0).1 (ix.h 0).2 c.kinds,gO cI 3 (ix.h 1).1 (ix.h 1).2 c.first]) (Gf:=fun out1=>[(8,my l c1 out1),(9,gM ok),(10,bD (i:Int)),(11,bD e2),(35,kq e1),(36,kP e1),(37,bD (i:Int))]) (fun out1 h=>?_) (fun h2=>?_)
   ·skip
    refine au<|Q J<|Q J<|ci h fun t q_t h=>aw J (cG J)<|aw J (cG J) ?_
    obtain⟨e3,h1t,h0t⟩:=og q_t
    have q_e3g:=fun M=>(h1t M).1
    refine aw J (fun H=>cn fz cj (.head _) (bG J H) (bG J H) (q_e3g H))<|aw J (fun H=>eE (r:=cI) (i:=(i:Int)) (foff:=0) cj J J bz J (.head _) (q_e3g H) (bG J H))<|aw J (cG J)<|aw J (fun H=>iK (bG J H) (bG J H))<|aw J (mJ J)<|dB J J J J (fun H=>gL J)<|dB J J J J (fun H=>iK (bG J H) hI)<|aw J (fun H=>nW (bG J H) (fun M=>(bG J (nC H (pQ M)))))<|T (cQ (Y J) (fun M=>(bG J M)) (fun M=>(h1t M).2) h0t)<|dC J<|aY<|dR V hN J ?_;exact aR (aD (ih (i+1) out1 t ⟨cH V,h⟩) (bf J))
   ·skip
    refine ax J<|Q J<|ci h fun e4 q_e4 h=>T (cn fz cj (.head _) (Y J) (Y J) q_e4)<|T (eE (r:=cI) (i:=(i:Int)) (foff:=0) cj J J bz J (.head _) q_e4 (Y J))<|bP J<|bE h J (fun h=>?_) (fun h=>?_)
    ·refine au<|Q J<|Q J<|Q J<|T (cn fz cj (.head _) (Y J) (Y J) q_e4)<|ci h fun st q_st h=>sD cj J ah J q_e4 (so q_st) (Y J) (Y J)<|g9 (li (so q_st)) 8 J<|g9 (li (so q_st)) 42 J<|g9 (li (so q_st)) 47 J<|aY ?_;exact ce (h2 st h) (bf J)
    ·refine bc ?_;exact ce (h2 out h) (bf J)

def YS in1 o{R}(h:mG in1 o=some R):bY aU 183 [tD gU o,bF sH in1] (gM R):=by
 exact co Tryz.func183 J<|Z<|bO J<|ca<|bB<|Z<|bg xm uS cj J<|T (du (Y J) hI)<|Q J<|aO J (cZ xm uS J J)<|aO J (cN cj J J)<|aO J (fun H=>nE eQ J J)<|aO J (jJ fz J)<|aO J (fun H=>eF (bG J H) (bG J H))<|fj J<|aM J<|so h▸av J J

def Yn s f{R}(h:jK s f=some R):bY aU 247 [cr (gU) s,(fL aU UE qd (fun(x:jG)=>f x))] (bD R):=by
 refine co Tryz.func247 J<|Z<|bh<|bB<|aE<|Q J<|ck xu J<|T (cv hI)<|bB<|am<|aZ (k:=6) J fun hN=>bA ?_;refine aD (eI (aF:=fun ls i=>(s.drop i=ls)/\fg f ls i=some R) (Of:=fun _ i=>[]) (Gf:=fun _ i=>[(0,cr (gU) s),(1,(fL aU UE qd (fun(x:jG)=>f x))),(7,kP s),(8,bD (i:Int))]) (fun i h=>?_) (fun e tl ih i h=>?_) s 0 ⟨J,h⟩) (bf J)
 ·obtain⟨V,h⟩:=h
  exact eY V J<|ap<|Z<|cd<|so h▸av J J
 ·obtain⟨V,h⟩:=h
  refine eX V J<|aA<|am<|ax J<|aC J<|ax J<|Q J<|Q J<|Dt xu zF J (cD V) ?_;refine bn zF J<|ci h fun r q_r h=>T (jV (args:=UE) (res:=Nm) (f:=(fun(x:jG)=>f x)) (x:=((e):jG)) (Y J) q_r ⟨(Y J),O⟩)<|bE h J (fun h=>?_) (fun h=>?_)
  ·exact ax J<|aM J<|bT<|af<|bT<|so h▸av J J
  ·refine bc<|dR V hN J ?_;exact aR (aD (ih (i+1) ⟨cH V,h⟩) (bf J))

end Go.Proofs.YtpgjgkdpeagjbaaGreatDoor

