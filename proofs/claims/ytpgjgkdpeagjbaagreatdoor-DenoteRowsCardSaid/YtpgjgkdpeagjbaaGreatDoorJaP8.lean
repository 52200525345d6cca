/- eJ of this claim: P8. -/
import Derived.Test.YtpgjgkdpeagjbaaGreatDoorJaT
import Derived.Test.YtpgjgkdpeagjbaaGreatDoorJaP7
set_option linter.all false
namespace Go.Proofs.YtpgjgkdpeagjbaaGreatDoor
open Go
set_option maxRecDepth 100000

def Y4 v{R}(h:uG v=some R):bY aU 166 [tD ae v] (gM R):=by
 exact co Tryz.func166 J<|Z<|bO J<|ca<|bB<|Z<|bn an J<|bS h Wg (Ir _) (bj J) fun r h=>eN J<|aM J<|so h▸av J J

def Yv s f{R}(h:mA s f=some R):bY aU 226 [cr (ae) s,(fL aU Dq qd (fun(x:ac)=>f x))] (bD R):=by
 refine co Tryz.func226 J<|Z<|bh<|bB<|aE<|Q J<|ck nD J<|T (cv hI)<|bB<|am<|aZ (k:=6) J fun hN=>bA ?_;refine aD (eI (aF:=fun ls i=>(s.drop i=ls)/\dJ f ls i=some R) (Of:=fun _ i=>[]) (Gf:=fun _ i=>[(0,cr (ae) s),(1,(fL aU Dq qd (fun(x:ac)=>f x))),(7,kP s),(8,bD (i:Int))]) (fun i h=>?_) (fun e tl ih i h=>?_) s 0 ⟨J,h⟩) (bf J)
 ·obtain⟨V,h⟩:=h
  exact eY V J<|ap<|Z<|cd<|so h▸av J J
 ·obtain⟨V,h⟩:=h
  refine eX V J<|aA<|am<|ax J<|aC J<|ax J<|Q J<|Q J<|Dt nD an J (cD V) ?_;refine bn an J<|ci h fun r q_r h=>T (jV (args:=Dq) (res:=Nm) (f:=(fun(x:ac)=>f x)) (x:=((e):ac)) (Y J) q_r ⟨(Y J),O⟩)<|bE h J (fun h=>?_) (fun h=>?_)
  ·exact ax J<|aM J<|bT<|af<|bT<|so h▸av J J
  ·refine bc<|dR V hN J ?_;exact aR (aD (ih (i+1) ⟨cH V,h⟩) (bf J))

def Y3 s f{R}(h:iH s f=some R):bY aU 167 [cr (ae) s,(fL aU Dq qd (fun(x:ac)=>f x))] (gM R):=by
 exact co Tryz.func167 J<|Z<|ca<|bB<|ax J<|Q J<|bS h aez (Yv _ _) (bj J) fun r h=>T (eF (Y J) hI)<|aM J<|so h▸av J J

def MF r{R}(h:vO r=some R):bY aU 101 [cr (ae) r] (gM R):=by
 refine co Tryz.func101 J<|Z<|ca<|bB<|Z<|T (bp (show bk _ _ _ ((fL aU Dq qd (fun(x:ac)=>uG x)))from(CU ae8 fun x y h=>Y4 _ h)))<|bB<|ax J<|ck nD J<|T (jm (Y J) hI)<|Q J<|ci h fun t q_t h=>aw J (cG J)<|aw J (cG J) ?_
 obtain⟨r1,h1t,h0t⟩:=og q_t
 have q_r1g:=fun M=>(h1t M).1
 exact aw J (fun H=>bo ae7 (Y3 _ _ (q_r1g H)) ⟨(bG J H),(bG J H),O⟩)<|aw J (nI J)<|T (cQ (Y J) (fun M=>(bG J M)) (fun M=>(h1t M).2) h0t)<|aM J<|so h▸av J J

def QK l{R}(h:yc l=some R):bY aU 52 [cr (ei) l] (bD R):=by
 refine co Tryz.func52 J<|Z<|bh<|bB<|Z<|bh<|bB<|aE<|Q J<|ck lr J<|T (cv hI)<|bB<|am<|aZ (k:=8) J fun hN=>bA ?_;refine aD (ol (aF:=fun ls i n=>(l.drop i=ls)/\mW ls n=some R) (Of:=fun _ i n=>[]) (Gf:=fun _ i n=>[(3,bD n),(8,cr (ei) l),(9,kP l),(10,bD (i:Int))]) (fun i n h=>?_) (fun e tl ih i n h=>?_) l 0 (0:Int) ⟨J,h⟩) (bf J)
 ·obtain⟨V,h⟩:=h
  refine eY V J<|ap<|aE<|Q J<|T (dy (Y J) hI)<|bE h J (fun h=>?_) (fun h=>?_)
  ·exact Z<|cd<|af<|so h▸av J J
  ·exact dZ<|Z<|cd<|so h▸av J J
 ·obtain⟨V,h⟩:=h
  refine eX V J<|aA<|am<|Z<|cW lr gb J (cD V)<|aC J<|aE<|Q J<|ck eK J ?_;refine T (cv hI)<|bB<|am<|aZ (k:=14) J fun hN1=>bA ?_;refine aD (eI (aF:=fun ls1 i1=>(e.drop i1=ls1)/\sQ (mW tl) e n ls1=some R) (Of:=fun _ i1=>[]) (Gf:=fun _ i1=>[(3,bD n),(5,cr (cu) e),(8,cr (ei) l),(9,kP l),(10,bD (i:Int)),(14,cr (cu) e),(15,kP e),(16,bD (i1:Int))]) (fun i1 h=>?_) (fun e1 tl1 ih1 i1 h=>?_) e 0 ⟨J,h⟩) (bf J)
  ·obtain⟨hx1,h⟩:=h
   refine eY hx1 J<|ap<|au<|Q J<|Q J<|ck eK J<|T (RF (Y J) (Y J))<|dC J<|aY<|ay<|ap<|au<|T (zin (KF V hN) J) ?_;refine Q J<|aY ?_;exact aR (aD (ih (i+1) (max n (e.length:Int)) ⟨cH V,h⟩) (bf J))
  ·obtain⟨hx1,h⟩:=h
   refine eX hx1 J<|aA<|am<|Z<|cW eK cP J (cD hx1)<|aC J<|ax J<|bS h Wx (MF _) (bj J) fun r h=>?_;refine T (dY (Y J))<|bE h J (fun h=>?_) (fun h=>?_)
   ·exact Z<|cd<|bT<|af<|bT<|bT<|af<|bT<|so h▸av J J
   ·refine bc<|dR hx1 hN1 J ?_;exact aR (aD (ih1 (i1+1) ⟨cH hx1,h⟩) (bf J))

def Zm c{R}(h:wY c=some R):bY aU 131 [bD c] (gM R):=by
 exact co Tryz.func131 J<|Z<|ca<|bB<|ax J<|T (du (Y J) hI)<|aM J<|so h▸av J J

def YO r c{R}(h:Be r c=some R):bY aU 187 [bD c,bF cu r] (gM R):=by
 exact co Tryz.func187 J<|Z<|ca<|bB<|ax J<|T (du (Y J) hI)<|Q J<|aO J (cG J)<|aO J (fun H=>nE cP J J)<|aO J (jJ nD J)<|aO J (fun H=>eF (bG J H) (bG J H))<|fj J<|aM J<|so h▸av J J

def Zl r columns{R}(h:Gt r columns=some R):bY aU 133 [cr (ae) r,kq columns] (gM R):=by
 refine co Tryz.func133 J<|Z<|bO J<|ca<|bB<|Z<|T ((show cz _ _ _ _ ((fL aU Nk qd (fun(x:Int)=>(Be r) x)))from kg (cts:=[bF cu r]) (caps:=[.tmp 2]) aeT ⟨(Y J),O⟩ (fun x y h=>YO _ _ h)))<|aC J<|ax J<|ck fz J<|T (jm (Y J) hI)<|Q J<|ci h fun t q_t h=>aw J (cG J)<|aw J (cG J) ?_
 obtain⟨r1,h1t,h0t⟩:=og q_t
 have q_r1g:=fun M=>(h1t M).1
 exact aw J (fun H=>bo SX (GL _ _ (q_r1g H)) ⟨(bG J H),(bG J H),O⟩)<|aw J (nI J)<|T (cQ (Y J) (fun M=>(bG J M)) (fun M=>(h1t M).2) h0t)<|aM J<|so h▸av J J

def abY l columns{R}(h:Bf l columns=some R):bY aU 73 [cr (cu) l,kq columns] (bD R):=by
 refine co Tryz.func73 J<|Z<|bh<|bB<|aE<|Q J<|T (aI (r:=ei) (ys:=[l]) (xs:=[.tmp 9]) lr gb J J J J J ⟨(Y J),O⟩)<|bS h acR (QK _) (bj J) fun r h=>aC J<|ax J<|eN J<|bE h J (fun h=>?_) (fun h=>?_)
 ·exact ax J<|aM J<|af<|so h▸av J J
 ·refine dZ<|Z<|T (bp (show bk _ _ _ ((fL aU Nk qd (fun(x:Int)=>wY x)))from(CU aft fun x y h=>Zm _ h)))<|bB<|aE<|Q J<|ck fz J<|T (dy (Y J) hI)<|Q J<|ci h fun t q_t h=>aO J (cG J)<|aO J (cG J) ?_
  obtain⟨r1,h1t,h0t⟩:=og q_t
  have q_r1g:=fun M=>(h1t M).1
  refine aO J (fun H=>bo SX (GL _ _ (q_r1g H)) ⟨(bG J H),(bG J H),O⟩)<|T (eC (Y J) (fun M=>(bG J (pQ M))) (fun M=>(h1t M).2) h0t)<|bE h J (fun h=>?_) (fun h=>?_)
  ·exact Z<|cd<|af<|so h▸av J J
  ·refine dZ<|aE<|Q J<|ck eK J<|T (cv hI)<|bB<|am<|aZ (k:=23) J fun hN=>bA ?_;refine aD (eI (aF:=fun ls i=>(l.drop i=ls)/\sR columns ls=some R) (Of:=fun _ i=>[]) (Gf:=fun _ i=>[(1,kq columns),(23,cr (cu) l),(24,kP l),(25,bD (i:Int))]) (fun i h=>?_) (fun e tl ih i h=>?_) l 0 ⟨J,h⟩) (bf J)
   ·obtain⟨V,h⟩:=h
    exact eY V J<|ap<|Z<|cd<|so h▸av J J
   ·obtain⟨V,h⟩:=h
    refine eX V J<|aA<|am<|Z<|cW eK cP J (cD V)<|aC J<|ax J<|Q J<|ci h fun r2 q_r2 h=>?_;refine T (bo afs (Zl _ _ q_r2) ⟨(Y J),(Y J),O⟩)<|T (dY (Y J))<|bE h J (fun h=>?_) (fun h=>?_)
    ·exact Z<|cd<|bT<|af<|bT<|so h▸av J J
    ·refine bc<|dR V hN J ?_;exact aR (aD (ih (i+1) ⟨cH V,h⟩) (bf J))

def Mr s{R}(h:dx s=some R):fR aU 46 [cr (ae) s] false ae 57 R:=by
 refine fR.of Tryz.func46 J J J fun w0 S0=>Z<|bQ false ae 57<|T (bp qa)<|bB<|aE<|Q J<|wI nD (Y J) J fun isnil hisnil=>bB<|rJ (Y J) (fun hc=>?_) (fun hc=>?_)
 ·have V:=hisnil hc
  have h:some EH=some R:=by simpa [dx,app,V] using h
  exact Z<|bQ false ae 57<|T (bp qa)<|cK<|af<|so h▸fY J J
 ·exact dZ<|Z<|mo (r:=ae) (ys:=EH) (xs:=[]) nD an J J J J J trivial J fun l c=>Q J<|ci h fun x q_x h=>bW an J J J J nD J J (Y J) (Y J) q_x fun l1 c1=>aM J<|so h▸fY J J
def R1 l{R}(h:wi l=some R):fR aU 74 [cr (cu) l] false cu 54 R:=by
 refine fR.of Tryz.func74 J J J fun w0 S0=>Z<|bQ false cu 54<|T (bp qa)<|bB<|Z<|bQ false cu 54<|T (bp qa)<|bB<|aE<|Q J<|ck eK J<|T (cv hI)<|bB<|am<|aZ (k:=6) J fun hN=>bA ?_;refine fh<|mI ?_;refine aD (iR (aF:=fun ls i out l1 c=>(l.drop i=ls)/\px ls out=some R) (Of:=fun _ i out l1 c=>[ff cu 54 l1 c out]) (Gf:=fun _ i out l1 c=>[(3,my l1 c out),(6,cr (cu) l),(7,kP l),(8,bD (i:Int))]) (fun i out l1 c h=>?_) (fun e tl ih i out l1 c h=>?_) l 0 yN none 0 ⟨J,h⟩) (bf J)
 ·obtain⟨V,h⟩:=h
  exact eY V J<|ap<|ax J<|aM J<|so h▸fY J J
 ·obtain⟨V,h⟩:=h
  refine eX V J<|aA<|am<|Z<|cW eK cP J (cD V)<|aC J<|au<|Q J<|Q J<|lI h acT (Mr _) (bj J) fun r h l2 c1=>?_;refine gm<|dn 14 J<|T (aI (r:=cu) (ys:=[r]) (xs:=[.tmp 14]) eK cP J J J J J ⟨(km (Y J)),O⟩)<|bu<|ci h fun out1 q_out1 h=>bW cP J J J J eK J J (Y J) (Y J) q_out1 fun l3 c2=>dC J<|aY<|dR V hN J<|bK<|aG ?_;exact aR (aD (ih (i+1) out1 l3 c2 ⟨cH V,h⟩) (bf J))
def Zk s1 s2 cmp{R}(h:dj s1 s2 cmp=some R):bY aU 136 [cr (ae) s1,cr (ae) s2,(fL aU sG BM (fun(x:ac×ac)=>cmp x.1 x.2))] (bD R):=by
 refine co Tryz.func136 J<|Z<|bh<|bB<|aE<|Q J<|ck nD J<|T (cv hI)<|bB<|am<|aZ (k:=11) J fun hN=>bA ?_;refine aD (eI (aF:=fun ls i=>(s1.drop i=ls)/\cw s1 s2 cmp ls i=some R) (Of:=fun _ i=>[]) (Gf:=fun _ i=>[(0,cr (ae) s1),(1,cr (ae) s2),(2,(fL aU sG BM (fun(x:ac×ac)=>cmp x.1 x.2))),(11,cr (ae) s1),(12,kP s1),(13,bD (i:Int))]) (fun i h=>?_) (fun e tl ih i h=>?_) s1 0 ⟨J,h⟩) (bf J)
 ·obtain⟨V,h⟩:=h
  refine eY V J<|ap<|aE<|Q J<|ck nD J<|Q J<|ck nD J<|kw J<|bE h J (fun h=>?_) (fun h=>?_)
  ·exact Z<|cd<|af<|so h▸av J J
  ·exact dZ<|Z<|cd<|so h▸av J J
 ·obtain⟨V,h⟩:=h
  refine eX V J<|aA<|am<|ax J<|cW nD an J (cD V)<|aQ an aL J fun b=>dC J<|be an ah J<|aV 8 J<|bB<|aA ?_;refine ax J<|Q J<|ck nD J<|T (eF (Y J) (Y J))<|bE h J (fun h=>?_) (fun h=>?_)
  ·exact Z<|cd<|af<|bT<|af<|bT<|so h▸av J J
  ·refine dZ<|ax J<|Q J<|ci h fun e1 q_e1 h=>cW nD an J q_e1<|aQ an aL J fun b1=>be an ah J<|aV 9 J<|bB<|ax J<|bn an J<|bn an J<|ci h fun r q_r h=>T (jV (args:=sG) (res:=Xd) (f:=(fun(x:ac×ac)=>cmp x.1 x.2)) (x:=((e,e1):ac×ac)) (Y J) q_r ⟨(Y J),(Y J),O⟩)<|aC J ?_;refine ax J<|eN J<|bE h J (fun h=>?_) (fun h=>?_)
   ·exact ax J<|aM J<|bT<|af<|bT<|so h▸av J J
   ·refine bc<|dR V hN J ?_;exact aR (aD (ih (i+1) ⟨cH V,h⟩) (bf J))

def Sd p{R}(h:qQ p=some R):bY aU 255 [tD o8 p] (gM R):=by
 exact co Tryz.func255 J<|Z<|ca<|bB<|ax J<|Q J<|T (d6 (Y J) (Y J))<|aM J<|so h▸av J J

def YN p y{R}(h:oY p y=some R):bY aU 200 [tD o8 p,tD o8 y] (bD R):=by
 refine co Tryz.func200 J<|Z<|bh<|bB<|ax J<|bS h aaw (Sd _) (bj J) fun r h=>aC J<|ax J<|bS h aaw (Sd _) (bj J) fun r1 h=>aC J<|aA<|aA ?_;refine au<|Q J<|bE h J (fun h=>?_) (fun h=>?_)
 ·refine aE<|Q J<|bE h J (fun h=>?_) (fun h=>?_)
  ·exact Z<|cd<|af<|af<|so h▸av J J
  ·exact dZ<|Z<|cd<|af<|so h▸av J J
 ·refine dZ<|aE<|Q J<|bE h J (fun h=>?_) (fun h=>?_)
  ·exact Z<|cd<|af<|so h▸av J J
  ·refine dZ<|aE<|Q J<|Q J<|kw J<|bE h J (fun h=>?_) (fun h=>?_)
   ·exact Z<|cd<|af<|so h▸av J J
   ·refine dZ<|aE<|Q J<|Q J<|T (dy (Y J) (Y J))<|bE h J (fun h=>?_) (fun h=>?_)
    ·exact Z<|cd<|af<|so h▸av J J
    ·exact dZ<|Z<|cd<|so h▸av J J

def Sc p{R}(h:qR p=some R):bY aU 256 [tD rS p] (gM R):=by
 exact co Tryz.func256 J<|Z<|ca<|bB<|ax J<|Q J<|T (RE (Y J) (Y J))<|aM J<|so h▸av J J

def YM p y{R}(h:oZ p y=some R):bY aU 201 [tD rS p,tD rS y] (bD R):=by
 refine co Tryz.func201 J<|Z<|bh<|bB<|ax J<|bS h aav (Sc _) (bj J) fun r h=>aC J<|ax J<|bS h aav (Sc _) (bj J) fun r1 h=>aC J<|aA<|aA ?_;refine au<|Q J<|bE h J (fun h=>?_) (fun h=>?_)
 ·refine aE<|Q J<|bE h J (fun h=>?_) (fun h=>?_)
  ·exact Z<|cd<|af<|af<|so h▸av J J
  ·exact dZ<|Z<|cd<|af<|so h▸av J J
 ·refine dZ<|aE<|Q J<|bE h J (fun h=>?_) (fun h=>?_)
  ·exact Z<|cd<|af<|so h▸av J J
  ·refine dZ<|aE<|Q J<|Q J<|T (RH (Y J) (Y J))<|bE h J (fun h=>?_) (fun h=>?_)
   ·exact Z<|cd<|af<|so h▸av J J
   ·refine dZ<|aE<|Q J<|Q J<|T (XF (Y J) (Y J))<|bE h J (fun h=>?_) (fun h=>?_)
    ·exact Z<|cd<|af<|so h▸av J J
    ·exact dZ<|Z<|cd<|so h▸av J J

def Zj a1 b{R}(h:rQ a1 b=some R):bY aU 137 [tD ae a1,tD ae b] (bD R):=by
 refine co Tryz.func137 J<|Z<|bO J<|bO J<|bh<|bB<|aA<|ci h fun r q_r h=>ci h fun r1 q_r1 h=>ci h fun r2 q_r2 h=>ci h fun r3 q_r3 h=>ci h fun r4 q_r4 h=>?_
 refine iQ (ts:=[_,_,_,_,_,_,_,_,_,_,_,_,_,_,_,_,_,_,_,_,_,_,_]) mixed J J
  ⟨jH 2 J J (ic cY bC J J),
  ⟨dh 0 cj J J,
  ⟨jH 3 J J (ic cY bC J J),
  ⟨dh 2 cj J J,
  ⟨cM 6 1 8 3 J J J (bo aaF (So _ _ q_r) ⟨(Y J),(Y J),O⟩),
  ⟨jH 2 J J (ic fC cE J J),
  ⟨dh 5 wd J J,
  ⟨jH 3 J J (ic fC cE J J),
  ⟨dh 7 wd J J,
  ⟨cM 11 6 13 8 J J J (bo aaE (Sn _ _ q_r1) ⟨(Y J),(Y J),O⟩),
  ⟨jH 2 J J (ic rY jo J J),
  ⟨dh 10 hU J J,
  ⟨jH 3 J J (ic rY jo J J),
  ⟨dh 12 hU J J,
  ⟨cM 16 11 18 13 J J J (bo aeS (YN _ _ q_r2) ⟨(Y J),(Y J),O⟩),
  ⟨jH 2 J J (ic k7 eH J J),
  ⟨dh 15 EL J J,
  ⟨jH 3 J J (ic k7 eH J J),
  ⟨dh 17 EL J J,
  ⟨cM 21 16 23 18 J J J (bo aeR (YM _ _ q_r3) ⟨(Y J),(Y J),O⟩),
  ⟨⟨[⟨9,_,some 4⟩,⟨14,_,some 9⟩,⟨19,_,some 14⟩,⟨24,_,some 19⟩],_,J,⟨J,J,J,J,O⟩,J,J,ai J (aI (r:=cI) (ys:=[r,r1,r2,r3]) (xs:=[.tmp 9,.tmp 14,.tmp 19,.tmp 24]) fz cj J J J J J ⟨(Y J),(Y J),(Y J),(Y J),O⟩)⟩,
  ⟨cT 25 20 J J (bo acP (QJ _ q_r4) ⟨(Y J),O⟩),
  ⟨cT 26 21 J J (sE J),
  O⟩⟩⟩⟩⟩⟩⟩⟩⟩⟩⟩⟩⟩⟩⟩⟩⟩⟩⟩⟩⟩⟩⟩ ?_
 exact ap<|fD<|so h▸av J J

def Mo a1 b{R}(h:sj a1 b=some R):bY aU 78 [cr (ae) a1,cr (ae) b] (bD R):=by
 exact co Tryz.func78 J<|Z<|bh<|bB<|ax J<|Q J<|bS h afr (Zk _ _ _) ⟨(Y J),(Y J),(CU afq fun x y h=>Zj _ _ h),O⟩ fun r h=>aM J<|so h▸av J J

def X4 r columns{R}(h:pb r columns=some R):fR aU 79 [cr (ae) r,kq columns] false ae 57 R:=by
 refine fR.of Tryz.func79 J J J fun w0 S0=>Z<|bQ false ae 57<|T (bp qa)<|bB<|Z<|bQ false ae 57<|T (bp qa)<|bB<|aE<|Q J<|ck fz J<|T (cv hI)<|bB<|am<|aZ (k:=8) J fun hN=>bA ?_;refine fh<|mI ?_;refine aD (iR (aF:=fun ls i out l c=>(columns.drop i=ls)/\ov r ls out=some R) (Of:=fun _ i out l c=>[ff ae 57 l c out]) (Gf:=fun _ i out l c=>[(0,cr (ae) r),(5,my l c out),(8,kq columns),(9,kP columns),(10,bD (i:Int))]) (fun i out l c h=>?_) (fun e tl ih i out l c h=>?_) columns 0 EH none 0 ⟨J,h⟩) (bf J)
 ·obtain⟨V,h⟩:=h
  exact eY V J<|ap<|ax J<|aM J<|so h▸fY J J
 ·obtain⟨V,h⟩:=h
  refine eX V J<|aA<|am<|Z<|cW fz cj J (cD V)<|aC J<|au<|Q J<|Q J<|Q J<|ci h fun e1 q_e1 h=>?_;refine cW nD an J q_e1<|T (aI (r:=ae) (ys:=[e1]) (xs:=[.tmp 18]) nD an J J J J J ⟨(Y J),O⟩)<|ci h fun out1 q_out1 h=>bW an J J J J nD J J (Y J) (Y J) q_out1 fun l1 c1=>dC J<|aY<|dR V hN J ?_;exact aR (aD (ih (i+1) out1 l1 c1 ⟨cH V,h⟩) (bf J))
def Ip r columns{R}(h:pb r columns=some R):bY aU 79 [cr (ae) r,kq columns] (cr (ae) R):=(X4 _ _ h).spec

def abX columns a1 b{R}(h:oF columns a1 b=some R):bY aU 76 [cr (ae) a1,cr (ae) b,bF sH columns] (bD R):=by
 refine co Tryz.func76 J<|Z<|bh<|bB<|aA<|ci h fun r q_r h=>ci h fun r1 q_r1 h=>ci h fun r2 q_r2 h=>ci h fun r3 q_r3 h=>ci h fun r4 q_r4 h=>?_
 refine iQ (ts:=[_,_,_,_,_,_,_,_,_,_,_,_,_]) mixed J J
  ⟨dc J J,
  ⟨jH 2 J J (nE eQ J J),
  ⟨cM 6 0 7 1 J J J (bo Wd (Ip _ _ q_r) ⟨(Y J),(Y J),O⟩),
  ⟨dc J J,
  ⟨jH 2 J J (nE eQ J J),
  ⟨cM 9 3 10 4 J J J (bo Wd (Ip _ _ q_r1) ⟨(Y J),(Y J),O⟩),
  ⟨cM 8 2 11 5 J J J (bo ZD (Mo _ _ q_r2) ⟨(Y J),(Y J),O⟩),
  ⟨dc J J,
  ⟨dc J J,
  ⟨cM 13 7 14 8 J J J (bo ZD (Mo _ _ q_r3) ⟨(Y J),(Y J),O⟩),
  ⟨cM 12 6 15 9 J J J (aI (r:=cI) (ys:=[r2,r3]) (xs:=[.tmp 12,.tmp 15]) fz cj J J J J J ⟨(Y J),(Y J),O⟩),
  ⟨cT 16 10 J J (bo acP (QJ _ q_r4) ⟨(Y J),O⟩),
  ⟨cT 17 11 J J (sE J),
  O⟩⟩⟩⟩⟩⟩⟩⟩⟩⟩⟩⟩⟩ ?_
 exact ap<|fD<|so h▸av J J

def Zi s1 s2{R}(h:kF s1 s2=some R):bY aU 138 [cr (ae) s1,cr (ae) s2] (gM R):=by
 refine co Tryz.func138 J<|Z<|ca<|bB<|aE<|Q J<|ck nD J<|Q J<|ck nD J<|T (d6 (Y J) (Y J))<|bE h J (fun h=>?_) (fun h=>?_)
 ·exact Z<|ca<|cK<|af<|so h▸av J J
 ·refine dZ<|aE<|Q J<|ck nD J<|T (cv hI)<|bB<|am<|aZ (k:=11) J fun hN=>bA ?_;refine aD (eI (aF:=fun ls i=>(s1.drop i=ls)/\fF s2 ls i=some R) (Of:=fun _ i=>[]) (Gf:=fun _ i=>[(0,cr (ae) s1),(1,cr (ae) s2),(12,kP s1),(13,bD (i:Int))]) (fun i h=>?_) (fun e tl ih i h=>?_) s1 0 ⟨J,h⟩) (bf J)
  ·obtain⟨V,h⟩:=h
   exact eY V J<|ap<|Z<|ca<|cK<|so h▸av J J
  ·obtain⟨V,h⟩:=h
   refine eX V J<|aA<|am<|ax J<|aC J<|aA<|ci h fun e1 q_e1 h=>?_
   refine iQ (ts:=[_,_,_,_,_,_,_,_,_]) mixed J J
    ⟨dc J J,
    ⟨dc J J,
    ⟨cM 16 0 17 1 J J J (zW nD an J J J (cD V)),
    ⟨dh 2 an J J,
    ⟨dc J J,
    ⟨dc J J,
    ⟨cM 20 4 21 5 J J J (zW nD an J J J q_e1),
    ⟨dh 6 an J J,
    ⟨cM 19 3 23 7 J J J (LP Iw (Y J) (Y J)),
    O⟩⟩⟩⟩⟩⟩⟩⟩⟩ ?_
   refine ap<|gp h J (fun h=>?_) (fun h=>?_)
   ·exact Z<|ca<|cK<|bT<|af<|bT<|so h▸av J J
   ·refine bc<|dR V hN J ?_;exact aR (aD (ih (i+1) ⟨cH V,h⟩) (bf J))

end Go.Proofs.YtpgjgkdpeagjbaaGreatDoor

