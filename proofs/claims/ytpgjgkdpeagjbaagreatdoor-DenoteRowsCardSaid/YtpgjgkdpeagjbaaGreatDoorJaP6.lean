/- eJ of this claim: P6. -/
import Derived.Test.YtpgjgkdpeagjbaaGreatDoorJaT
import Derived.Test.YtpgjgkdpeagjbaaGreatDoorJaP5
set_option linter.all false
namespace Go.Proofs.YtpgjgkdpeagjbaaGreatDoor
open Go
set_option maxRecDepth 100000

def YG l{R}(h:FG l=some R):bY aU 212 [kq l] (bD R):=by
 exact co Tryz.func212 J<|Z<|bh<|bB<|ax J<|ci h fun e q_e h=>T (bm fz cj J (Y J) hI q_e)<|bn cj J<|T (dX hI (Y J))<|aM J<|so h▸av J J

def Sw a1{R}(h:tG a1=some R):bY aU 152 [tD ae a1] (tT [tD ae R.1,bD R.2]):=by
 exact co Tryz.func152 J<|Z<|bO J<|aQ an aL J fun b=>bh<|bB<|Z<|bn an J<|T (aI (r:=ae) (ys:=[a1]) (xs:=[.tmp 4]) jE an J J J J J ⟨(Y J),O⟩)<|bS h Wo (Mw _ _) ⟨(CU aeK fun x y h=>YG _ h),(Y J),O⟩ fun r h=>bv J J<|bv J J<|be an ah J<|aV 2 J<|aM J<|so h▸bq J J ⟨aT an J J J,aN J,O⟩

def YF is1 a1 x{R}(h:qt is1 a1 x=some R):bY aU 213 [tD ae a1,tD ae x,bF rB is1] (tT [tD ae R.1,bD R.2]):=by
 exact co Tryz.func213 J<|Z<|bO J<|bO J<|aQ an aL J fun b=>bh<|bB<|Z<|bg cY bC cj J<|bP J<|bn zZ J<|T (LT Do (Y J) (Y J))<|bS h Wu (MD _) (bj J) fun r h=>be an ah J<|aV 5 J<|cd<|so h▸bq J J ⟨aT an J J J,aN J,O⟩

def Sv is1{R}(h:E6 is1=some R):bY aU 153 [gM is1] ((fL aU sG wa (fun(x:ac×ac)=>R x.1 x.2))):=by
 exact co Tryz.func153 J<|Z<|bO J<|T (bp hV)<|bB<|Z<|T ((show cz _ _ _ _ ((fL aU sG wa (fun(x:ac×ac)=>(qt is1) x.1 x.2)))from kg (cts:=[bF rB is1]) (caps:=[.tmp 1]) aeJ ⟨(Y J),O⟩ (fun x y h=>YF _ _ _ h)))<|aM J<|so h▸av J J

def YE a1 b{R}(h:uV a1 b=some R):bY aU 215 [bD a1,bD b] (tT [bD R.1,gM R.2]):=by
 refine co Tryz.func215 J<|Z<|bh<|ca<|bB<|ax J<|Q J<|T (eG (Y J) (Y J))<|aC J<|ax J<|Q J<|Q J<|T (EW (Y J) (Y J))<|Q J<|Q J<|T (EW (Y J) (Y J)) ?_;exact T (EY (Y J) (Y J))<|T (eF (Y J) hI)<|dC J<|aM J<|so h▸bH J J J

def Za a1 b{R}(h:Fl a1 b=some R):bY aU 154 [tD ae a1,tD ae b] (tT [tD ae R.1,bD R.2]):=by
 exact co Tryz.func154 J<|Z<|bO J<|bO J<|aQ an aL J fun b1=>bh<|bB<|Z<|bn an J<|bn an J<|bS h SU (GI _ _ _) ⟨(Y J),(Y J),(CU aeI fun x y h=>YE _ _ h),O⟩ fun r h=>bv J J<|bv J J<|be an ah J<|aV 4 J<|aM J<|so h▸bq J J ⟨aT an J J J,aN J,O⟩

def YB p y{R}(h:ph p y=some R):bY aU 218 [tD o8 p,tD o8 y] (tT [tD o8 R.1,tD o8 R.2]):=by
 refine co Tryz.func218 J<|Z<|bh<|bh<|bB<|ax J<|T (EY (Y J) hI)<|aC J<|ax J<|T (vc (Y J) hI (by decide))<|aC J<|ax J ?_;refine T (EY (Y J) hI)<|aC J<|ax J<|T (vc (Y J) hI (by decide))<|aC J<|ax J<|Q J<|T (xF (Y J) (Y J))<|aC J<|ax J<|Q J<|T (xF (Y J) (Y J)) ?_;refine Q J<|T (vc (Y J) hI (by decide))<|T (eG (Y J) (Y J))<|aC J<|ax J<|T (EY (Y J) hI)<|aC J<|ax J<|T (vc (Y J) hI (by decide))<|aC J<|ax J<|Q J ?_;refine Q J<|T (xF (Y J) (Y J))<|T (eG (Y J) (Y J))<|aC J<|ax J<|Q J<|T (xF (Y J) (Y J))<|Q J<|T (eG (Y J) (Y J))<|Q J<|T (vc (Y J) hI (by decide))<|T (eG (Y J) (Y J))<|aC J<|ax J<|Q J<|T (xF (Y J) (Y J)) ?_;exact aM J<|so h▸bH J J J

def GH n{R}(h:sb n=some R):bY aU 219 [bD n] (tD o8 R):=by
 refine co Tryz.func219 J<|Z<|bh<|bB<|aE<|Q J<|T (du (Y J) hI)<|bE h J (fun h=>?_) (fun h=>?_)
 ·exact ax J<|T (oL xO xv (Y J))<|T (LQ (Y J))<|aM J<|af<|so h▸av J J
 ·exact dZ<|ax J<|T (oL xO xv (Y J))<|aM J<|so h▸av J J

def Sl u below{R}(h:o0 u below=some R):bY aU 220 [tD o8 u,gM below] (tT [bD R.1,gM R.2]):=by
 refine co Tryz.func220 J<|Z<|bh<|ca<|bB<|aE<|Q J<|bE h J (fun h=>?_) (fun h=>?_)
 ·exact ax J<|T (LQ (Y J))<|T (oL xv xO (Y J))<|Q J<|T (jm (Y J) hI)<|dC J<|aM J<|af<|so h▸bH J J J
 ·exact dZ<|ax J<|T (oL xv xO (Y J))<|Q J<|T (jm (Y J) hI)<|dC J<|aM J<|so h▸bH J J J

def YC a1 b{R}(h:oz a1 b=some R):bY aU 217 [bD a1,bD b] (tT [bD R.1,gM R.2]):=by
 refine co Tryz.func217 J<|Z<|bh<|ca<|bB<|ax J<|bS h ST (GH _) (bj J) fun r h=>Q J<|bS h ST (GH _) (bj J) fun r1 h=>bS h aeF (YB _ _) (bj J) fun r2 h=>Q J<|bv J J<|bv J J<|dC J<|aC J ?_;refine ax J<|Q J<|T (du (Y J) hI)<|Q J<|T (du (Y J) hI)<|T (DM Do (Y J) (Y J))<|bS h aaC (Sl _ _) (bj J) fun r3 h=>Q J<|bv J J<|bv J J<|dC J<|aC J<|ax J<|Q J<|Q J<|aw J (cG J)<|aw J (fV J) ?_;exact dv J<|dC J<|aM J<|so h▸bH J J J

def Y9 a1 b{R}(h:Fj a1 b=some R):bY aU 156 [tD ae a1,tD ae b] (tT [tD ae R.1,bD R.2]):=by
 exact co Tryz.func156 J<|Z<|bO J<|bO J<|aQ an aL J fun b1=>bh<|bB<|Z<|bn an J<|bn an J<|bS h SU (GI _ _ _) ⟨(Y J),(Y J),(CU aeG fun x y h=>YC _ _ h),O⟩ fun r h=>bv J J<|bv J J<|be an ah J<|aV 4 J<|aM J<|so h▸bq J J ⟨aT an J J J,aN J,O⟩

def YA a1 b{R}(h:oA a1 b=some R):bY aU 221 [bD a1,bD b] (tT [bD R.1,gM R.2]):=by
 refine co Tryz.func221 J<|Z<|bh<|ca<|bB<|aE<|Q J<|bP J<|bE h J (fun h=>?_) (fun h=>?_)
 ·exact Z<|bh<|ca<|cK<|af<|so h▸bH J J J
 ·refine dZ<|ax J<|bS h ST (GH _) (bj J) fun r h=>Q J<|bS h ST (GH _) (bj J) fun r1 h=>ci h fun u q_u h=>T (Vf (Y J) (Y J) (RJ q_u))<|Q J<|T (du (Y J) hI)<|Q J<|T (du (Y J) hI)<|T (DM Do (Y J) (Y J))<|bS h aaC (Sl _ _) (bj J) fun r2 h=>bv J J<|bv J J<|dC J<|dC J<|aY ?_;exact ap<|fD<|so h▸bH J J J

def Y8 a1 b{R}(h:Fk a1 b=some R):bY aU 157 [tD ae a1,tD ae b] (tT [tD ae R.1,bD R.2]):=by
 exact co Tryz.func157 J<|Z<|bO J<|bO J<|aQ an aL J fun b1=>bh<|bB<|Z<|bn an J<|bn an J<|bS h SU (GI _ _ _) ⟨(Y J),(Y J),(CU aeE fun x y h=>YA _ _ h),O⟩ fun r h=>bv J J<|bv J J<|be an ah J<|aV 4 J<|aM J<|so h▸bq J J ⟨aT an J J J,aN J,O⟩

def Yz c{R}(h:B7 c=some R):bY aU 222 [bD c] (gM R):=by
 exact co Tryz.func222 J<|Z<|ca<|bB<|ax J<|bP J<|aM J<|so h▸av J J

def Sr a1 b{R}(h:uC a1 b=some R):bY aU 158 [tD ae a1,tD ae b] (tT [tD ae R.1,bD R.2]):=by
 exact co Tryz.func158 J<|Z<|bO J<|bO J<|aQ an aL J fun b1=>bh<|bB<|Z<|bn an J<|bn an J<|bS h aaD (Sm _ _ _) ⟨(Y J),(Y J),(CU aeD fun x y h=>Yz _ h),O⟩ fun r h=>bv J J<|bv J J<|be an ah J<|aV 4 J<|aM J<|so h▸bq J J ⟨aT an J J J,aN J,O⟩

def Yy do1 a1 b{R}(h:wC do1 a1 b=some R):bY aU 223 [tD ae a1,tD ae b,bF (rT ((fL aU sG wa (fun(x:ac×ac)=>do1 x.1 x.2)))) ()] (tT [tD ae R.1,bD R.2]):=by
 refine co Tryz.func223 J<|Z<|bO J<|bO J<|aQ an aL J fun b1=>bh<|bB<|Z<|T (wr Z7 (Y J))<|bn an J<|bn an J<|ci h fun r q_r h=>T (jV (args:=sG) (res:=Dr) (f:=(fun(x:ac×ac)=>do1 x.1 x.2)) (x:=((a1,b):ac×ac)) (Y J) q_r ⟨(Y J),(Y J),O⟩)<|Q J<|bv J J<|bv J J<|aQ an aL J fun b2=>be an ah J<|aV 7 J<|dC J<|aY ?_;refine ap<|aE<|Q J<|eN J<|bE h J (fun h=>?_) (fun h=>?_)
 ·exact Z<|bn an J<|Q J<|be an ah J<|aM J<|af<|aB 5 J<|so h▸bq J J ⟨aT an J J J,aN J,O⟩
 ·exact dZ<|Z<|bn an J<|bS h aaN (Sw _) (bj J) fun r1 h=>bv J J<|bv J J<|be an ah J<|aM J<|aB 5 J<|so h▸bq J J ⟨aT an J J J,aN J,O⟩

def MA do1{R}(h:D5 do1=some R):bY aU 159 [(fL aU sG wa (fun(x:ac×ac)=>do1 x.1 x.2))] ((fL aU sG wa (fun(x:ac×ac)=>R x.1 x.2))):=by
 exact co Tryz.func159 J<|Z<|T (Gy (Y J))<|T (bp hV)<|bB<|Z<|T ((show cz _ _ _ _ ((fL aU sG wa (fun(x:ac×ac)=>(wC do1) x.1 x.2)))from kg (cts:=[bF (rT ((fL aU sG wa (fun(x:ac×ac)=>do1 x.1 x.2)))) ()]) (caps:=[.tmp 1]) aeC ⟨(Y J),O⟩ (fun x y h=>Yy _ _ _ h)))<|aM J<|so h▸av J J

def Yx l{R}(h:FH l=some R):bY aU 224 [kq l] (bD R):=by
 refine co Tryz.func224 J<|Z<|bh<|bB<|aA<|ci h fun e q_e h=>ci h fun e1 q_e1 h=>?_
 refine iQ (ts:=[_,_,_,_,_,_,_,_]) mixed J J
  ⟨dc J J,
  ⟨cT 3 0 J J (bm fz cj J (Y J) hI q_e),
  ⟨dh 1 cj J J,
  ⟨dc J J,
  ⟨cT 6 3 J J (bm fz cj J (Y J) hI q_e1),
  ⟨dh 4 cj J J,
  ⟨cM 5 2 8 5 J J J (LR (Y J) (Y J)),
  ⟨cT 9 6 J J (sE J),
  O⟩⟩⟩⟩⟩⟩⟩⟩ ?_
 exact ap<|fD<|so h▸av J J

def Y7 a1 b{R}(h:vK a1 b=some R):bY aU 160 [tD ae a1,tD ae b] (tT [tD ae R.1,bD R.2]):=by
 exact co Tryz.func160 J<|Z<|bO J<|bO J<|aQ an aL J fun b1=>bh<|bB<|Z<|bn an J<|bn an J<|T (aI (r:=ae) (ys:=[a1,b]) (xs:=[.tmp 6,.tmp 7]) jE an J J J J J ⟨(Y J),(Y J),O⟩)<|bS h Wo (Mw _ _) ⟨(CU aeB fun x y h=>Yx _ h),(Y J),O⟩ fun r h=>bv J J<|bv J J<|be an ah J<|aV 4 J<|aM J<|so h▸bq J J ⟨aT an J J J,aN J,O⟩

def Yw l{R}(h:G5 l=some R):bY aU 225 [kq l] (bD R):=by
 refine co Tryz.func225 J<|Z<|bh<|bB<|aA<|ci h fun e q_e h=>ci h fun e1 q_e1 h=>?_
 refine iQ (ts:=[_,_,_,_,_,_,_,_]) mixed J J
  ⟨dc J J,
  ⟨cT 3 0 J J (bm fz cj J (Y J) hI q_e),
  ⟨dh 1 cj J J,
  ⟨dc J J,
  ⟨cT 6 3 J J (bm fz cj J (Y J) hI q_e1),
  ⟨dh 4 cj J J,
  ⟨cM 5 2 8 5 J J J (RF (Y J) (Y J)),
  ⟨cT 9 6 J J (sE J),
  O⟩⟩⟩⟩⟩⟩⟩⟩ ?_
 exact ap<|fD<|so h▸av J J

def Y6 a1 b{R}(h:xV a1 b=some R):bY aU 161 [tD ae a1,tD ae b] (tT [tD ae R.1,bD R.2]):=by
 exact co Tryz.func161 J<|Z<|bO J<|bO J<|aQ an aL J fun b1=>bh<|bB<|Z<|bn an J<|bn an J<|T (aI (r:=ae) (ys:=[a1,b]) (xs:=[.tmp 6,.tmp 7]) jE an J J J J J ⟨(Y J),(Y J),O⟩)<|bS h Wo (Mw _ _) ⟨(CU aeA fun x y h=>Yw _ h),(Y J),O⟩ fun r h=>bv J J<|bv J J<|be an ah J<|aV 4 J<|aM J<|so h▸bq J J ⟨aT an J J J,aN J,O⟩

def abO{R}(h:Bt=some R):bY aU 95 [] (Rq (fun y:(ac->ac->Option (ac×Int))=>Ba aU sG wa (fun(x:ac×ac)=>y x.1 x.2)) tE R):=by
 refine co Tryz.func95 J<|Z<|T (bp (show bk _ _ (.const (.map none)) (tV (.map none))from fun _ _ _=>J))<|bB<|Z<|bS h afh (Zc _) ⟨(CU Ws fun x y h=>MB _ _ h),O⟩ fun r h=>aC J<|Z<|C2 (ED (fun y:(ac->ac->Option (ac×Int))=>Ba aU sG wa (fun(x:ac×ac)=>y x.1 x.2))) tE J fun b=>bS h aaO (Sx _) ⟨(CU afg fun x y h=>Zb _ h),O⟩ fun r1 h=>gw (γ:=(fun y:(ac->ac->Option (ac×Int))=>Ba aU sG wa (fun(x:ac×ac)=>y x.1 x.2))) (y:=r1) zT (fH mK) (Y J) (p9 hI) (qV (Y J)) fun os=>bS h aaO (Sx _) ⟨(CU aaN fun x y h=>Sw _ h),O⟩ fun r2 h=>gw (γ:=(fun y:(ac->ac->Option (ac×Int))=>Ba aU sG wa (fun(x:ac×ac)=>y x.1 x.2))) (y:=r2) zT (fH mK) (Y J) (p9 hI) (qV (Y J)) fun os1=>bS h aaM (Sv _) (bj J) fun r3 h=>?_;refine gw (γ:=(fun y:(ac->ac->Option (ac×Int))=>Ba aU sG wa (fun(x:ac×ac)=>y x.1 x.2))) (y:=r3) zT (fH mK) (Y J) (p9 hI) (qV (Y J)) fun os2=>bS h aaM (Sv _) (bj J) fun r4 h=>gw (γ:=(fun y:(ac->ac->Option (ac×Int))=>Ba aU sG wa (fun(x:ac×ac)=>y x.1 x.2))) (y:=r4) zT (fH mK) (Y J) (p9 hI) (qV (Y J)) fun os3=>gw (γ:=(fun y:(ac->ac->Option (ac×Int))=>Ba aU sG wa (fun(x:ac×ac)=>y x.1 x.2))) (y:=Fl) zT (fH mK) (Y J) (p9 hI) (qV (CU aff fun x y h=>Za _ _ h)) fun os4=>gw (γ:=(fun y:(ac->ac->Option (ac×Int))=>Ba aU sG wa (fun(x:ac×ac)=>y x.1 x.2))) (y:=yA) zT (fH mK) (Y J) (p9 hI) (qV (CU aaL fun x y h=>Su _ _ h)) fun os5=>gw (γ:=(fun y:(ac->ac->Option (ac×Int))=>Ba aU sG wa (fun(x:ac×ac)=>y x.1 x.2))) (y:=Fj) zT (fH mK) (Y J) (p9 hI) (qV (CU afe fun x y h=>Y9 _ _ h)) fun os6=>gw (γ:=(fun y:(ac->ac->Option (ac×Int))=>Ba aU sG wa (fun(x:ac×ac)=>y x.1 x.2))) (y:=Fk) zT (fH mK) (Y J) (p9 hI) (qV (CU afd fun x y h=>Y8 _ _ h)) fun os7=>gw (γ:=(fun y:(ac->ac->Option (ac×Int))=>Ba aU sG wa (fun(x:ac×ac)=>y x.1 x.2))) (y:=uC) zT (fH mK) (Y J) (p9 hI) (qV (CU aaK fun x y h=>Sr _ _ h)) fun os8=>bS h Wr (MA _) ⟨(CU aaK fun x y h=>Sr _ _ h),O⟩ fun r5 h=>gw (γ:=(fun y:(ac->ac->Option (ac×Int))=>Ba aU sG wa (fun(x:ac×ac)=>y x.1 x.2))) (y:=r5) zT (fH mK) (Y J) (p9 hI) (qV (Y J)) fun os9=>gw (γ:=(fun y:(ac->ac->Option (ac×Int))=>Ba aU sG wa (fun(x:ac×ac)=>y x.1 x.2))) (y:=qg) zT (fH mK) (Y J) (p9 hI) (qV (CU Ws fun x y h=>MB _ _ h)) fun os10=>Q J<|gw (γ:=(fun y:(ac->ac->Option (ac×Int))=>Ba aU sG wa (fun(x:ac×ac)=>y x.1 x.2))) (y:=r) zT (fH mK) (Y J) (p9 hI) (qV (Y J)) fun os11=>Q J<|bS h Wr (MA _) (bj J) fun r6 h=>gw (γ:=(fun y:(ac->ac->Option (ac×Int))=>Ba aU sG wa (fun(x:ac×ac)=>y x.1 x.2))) (y:=r6) zT (fH mK) (Y J) (p9 hI) (qV (Y J)) fun os12=>bS h Wr (MA _) ⟨(CU Ws fun x y h=>MB _ _ h),O⟩ fun r7 h=>gw (γ:=(fun y:(ac->ac->Option (ac×Int))=>Ba aU sG wa (fun(x:ac×ac)=>y x.1 x.2))) (y:=r7) zT (fH mK) (Y J) (p9 hI) (qV (Y J)) fun os13=>gw (γ:=(fun y:(ac->ac->Option (ac×Int))=>Ba aU sG wa (fun(x:ac×ac)=>y x.1 x.2))) (y:=vK) zT (fH mK) (Y J) (p9 hI) (qV (CU afc fun x y h=>Y7 _ _ h)) fun os14=>gw (γ:=(fun y:(ac->ac->Option (ac×Int))=>Ba aU sG wa (fun(x:ac×ac)=>y x.1 x.2))) (y:=xV) zT (fH mK) (Y J) (p9 hI) (qV (CU afb fun x y h=>Y6 _ _ h)) fun os15=>?_;exact Q J<|aM J<|Pz 0 J<|so h▸av J J

def acq{l:Option Nat}{c:Nat}{xs s:List ac}{lo:Int}{R}(hs:eS xs lo (xs.length:Int)=some s)(h:ij s=some R):ea aU 163 [tV (qU 4 l c lo.toNat s.length)] [ff ae 57 l c xs] (fun i:OI=>my (i.h 0).1 (i.h 0).2 R) (fun i=>[ff ae 57 (i.h 0).1 (i.h 0).2 R,ff ae 57 l c xs]):=by
 refine ea.of Tryz.func163 J J J fun w0 S0=>Z<|T (bp qa)<|bB<|aE<|Q J<|KO (r:=ae) jE (.head _) hs (Y J) J fun isnil hisnil=>bB<|rJ (Y J) (fun hc=>?_) (fun hc=>?_)
 ·have V:=hisnil hc
  have h:some EH=some R:=by simpa [ij,app,V] using h
  exact Z<|bQ false ae 57<|T (bp qa)<|cK<|af<|so h▸pt J (oi none 0) J J (fun _ _ h=>h)
 ·exact dZ<|Z<|mo (r:=ae) (ys:=EH) (xs:=[]) jE an J J J J J trivial J fun l1 c1=>Q J<|ci h fun x q_x h=>IV an J J J J jE J J (Y J) (.tail _ (.head _)) hs (Y J) q_x fun l2 c2=>aM J<|so h▸pt J (oi l2 c2) J J (fun _ _ h=>h)

def VT(b:Nat)(l:Option Nat)(c:Nat) stack k{R}(h:mH stack k=some R):ea aU 162 [bD k,tV (ba b 0)] [bx rV 53 b (bw l c stack.length),ff ae 57 l c stack] (fun i:OI=>cr (ae) R.1) (fun i=>[bx rV 53 b (bw (i.h 0).1 (i.h 0).2 R.2.length),ff ae 57 (i.h 0).1 (i.h 0).2 R.2]):=by
 refine ea.of Tryz.func162 J J J fun w0 S0=>Z<|dO (ae)<|bB<|Z<|T (jA Ln (.head _) (Y J))<|T (jA Ln (.head _) (Y J))<|T (fO jE (.tail _ (.head _)) (Y J))<|Q J<|T (dX (Y J) (Y J))<|ci h fun y q_y h=>T (qq jE an J (.tail _ (.head _)) (Y J) (Y J) q_y)<|o5 (.tail _ (.head _)) q_y fun hv=>bu<|ci h fun r q_r h=>Ex [ff ae 57 l c stack] _ J afa (acq q_y q_r) ⟨(Y J),O⟩ J fun i=>?_;refine(show RG _ _ _ _ [_,_,_] _ from ?_);refine aC J<|Z<|T (jA Ln (.tail _ (.tail _ (.head _))) (Y J))<|T (jA Ln (.tail _ (.tail _ (.head _))) (Y J))<|T (fO jE (.tail _ (.head _)) (Y J))<|Q J<|T (dX (Y J) (Y J))<|ci h fun y1 q_y1 h=>T (mj jE an J (.tail _ (.head _)) (Y J) (Y J) q_y1)<|bu<|xJ q_y1<|gk<|dA Ln J ah J (Y J) (Uz (Y J))<|bB<|ax J<|aC J ?_;exact fD<|aP<|dU<|bN 3 J<|bN 11 J<|bN 4 J<|bN 18 J<|dQ 3 J<|aG<|bK<|bK<|so h▸pt J (oi l c) J J (fun _ _ h=>h)

def abN e do1{R}(h:j5 e do1=some R):bY aU 96 [tD cm e,(fL aU Xh wa (fun(x:bZ×(List ac))=>do1 x.1 x.2))] (tT [tD ae R.1,bD R.2]):=by
 refine co Tryz.func96 J<|Z<|bO J<|aQ an aL J fun b=>bh<|bB<|Pw<|Z<|bQ false ae 57<|aQ (x:=bw none 0 0) Ln (fun _=>HJ) J fun b1=>bB<|Z<|aQ an aL J fun b2=>aV 7 J<|bB<|Z<|T (Og (cts:=[tV (ba b1 0)]) (caps:=[.tmp 6]) ⟨(Y J),O⟩) ?_;refine aC J<|Z<|bh<|bB<|aA<|Px<|ap<|aE<|bg la gj uD J<|ck qC J<|T (cv hI)<|bB ?_;refine KZ (aF:=fun bad stack l c=>iP bad stack=some R) (Of:=fun bad stack l c=>[bx ae 57 b vn,bx rV 53 b1 (bw l c stack.length),ff ae 57 l c stack]) (Gf:=fun bad stack l c=>[(4,tV (ba b 0)),(6,tV (ba b1 0)),(7,bF ae vn),(9,bD bad)]) (fun bad stack l c h=>?_) (fun h2=>?_)
 ·skip
  refine ap<|aE<|Q J<|eN J<|bE h J (fun h=>?_) (fun h=>?_)
  ·exact Z<|bn an J<|Q J<|be an ah J<|aM J<|af<|BD<|aB 4 J<|aG<|aG<|so h▸bq J J ⟨aT an J J J,aN J,O⟩
  ·exact dZ<|Z<|T (jA Ln (.tail _ (.head _)) (Y J))<|ci h fun e1 q_e1 h=>T (cn jE an (.tail _ (.tail _ (.head _))) (Y J) hI q_e1)<|T (eE (r:=ae) (i:=(0:Int)) (foff:=0) an J J bz J (.tail _ (.tail _ (.head _))) q_e1 (Y J))<|be an ah J<|cd<|BD<|aB 4 J<|aG<|aG<|so h▸bq J J ⟨aT an J J J,aN J,O⟩
 ·skip
  refine aZ (k:=16) J fun hN=>bA<|fh<|fh<|mR ?_;refine aD (lQ (aF:=fun ls i bad1 stack1 l1 c1=>(e.Nodes.drop i=ls)/\fd do1 ls bad1 stack1=some R) (Of:=fun _ i bad1 stack1 l1 c1=>[bx ae 57 b vn,bx rV 53 b1 (bw l1 c1 stack1.length),ff ae 57 l1 c1 stack1]) (Gf:=fun _ i bad1 stack1 l1 c1=>[(1,(fL aU Xh wa (fun(x:bZ×(List ac))=>do1 x.1 x.2))),(4,tV (ba b 0)),(6,tV (ba b1 0)),(7,bF ae vn),(8,tC 162 [tV (ba b1 0)]),(9,bD bad1),(16,cr (cx) e.Nodes),(17,kP e.Nodes),(18,bD (i:Int))]) (fun i bad1 stack1 l1 c1 h=>?_) (fun e2 tl ih i bad1 stack1 l1 c1 h=>?_) e.Nodes 0 (0:Int) EH none 0 ⟨J,h⟩) (bf J)
  ·obtain⟨V,h⟩:=h
   refine eY V J ?_;exact ce (h2 bad1 stack1 l1 c1 h) (bf J)
  ·obtain⟨V,h⟩:=h
   refine eX V J<|aA<|am<|Z<|cW qC nw J (cD V)<|aQ nw qc J fun b3=>be nw ah J<|aV 11 J<|bB<|aA<|ci h fun r q_r h=>ci h fun r1 q_r1 h=>?_;refine ci h fun r2 q_r2 h=>?_
   refine lS 13 [tc ((fL aU Xh wa (fun(x:bZ×(List ac))=>do1 x.1 x.2))),tc (tD cx e2),tc (tC 162 [tV (ba b1 0)]),tc (bF cI e2.Tag),tc (bD e2.Tag),tc (bD r),tc (cr (ae) r1.1),tc (tT [tD ae r2.1,bD r2.2]),tc (tT [tD ae r2.1,bD r2.2]),tc (tD ae r2.1),tc (bD r2.2),([11],fun s=>tV (ba ((s.getD 0 sF).h 0).2 0)),tc (Ap)] [false,false,false,false,false,false,true,false,false,false,false,true,true] [([],fun _=>[bx ae 57 b vn,bx rV 53 b1 (bw l1 c1 stack1.length),ff ae 57 l1 c1 stack1]),([6],fun sg=>[bx rV 53 b1 (bw ((sg 6).h 0).1 ((sg 6).h 0).2 r1.2.length),ff ae 57 ((sg 6).h 0).1 ((sg 6).h 0).2 r1.2,bx ae 57 b vn]),([11],fun sg=>[bx ae 57 ((sg 11).h 0).2 vn,bx ae 57 b vn,bx rV 53 b1 (bw l1 c1 stack1.length),ff ae 57 l1 c1 stack1]),([6,11],fun sg=>[bx ae 57 ((sg 11).h 0).2 vn,bx rV 53 b1 (bw ((sg 6).h 0).1 ((sg 6).h 0).2 r1.2.length),ff ae 57 ((sg 6).h 0).1 ((sg 6).h 0).2 r1.2,bx ae 57 b vn]),([6,11,12],fun sg=>[bx ae 57 ((sg 11).h 0).2 r2.1,bx rV 53 b1 (bw ((sg 6).h 0).1 ((sg 6).h 0).2 r1.2.length),ff ae 57 ((sg 6).h 0).1 ((sg 6).h 0).2 r1.2,bx ae 57 b vn])] (fun _=>J) mixed J J J J
    ⟨⟨[⟨1,fun _=>(fL aU Xg Dr (fun(x:bZ×(List ac))=>do1 x.1 x.2)),none⟩],_,[[],[6],[11],[6,11]],J,⟨(fun _=>J),O⟩,J,J,J,J,J,⟨fun sg=>ai J (gL J),fun sg=>ai J (gL J),fun sg=>ai J (gL J),fun sg=>ai J (gL J),O⟩⟩,
    ⟨⟨[⟨11,fun _=>bF cx e2,none⟩],_,[[],[6],[11],[6,11]],J,⟨(fun _=>J),O⟩,J,J,J,J,J,⟨fun sg=>ai J (nE nw J J),fun sg=>ai J (nE nw J J),fun sg=>ai J (nE nw J J),fun sg=>ai J (nE nw J J),O⟩⟩,
    ⟨⟨[⟨8,fun _=>tC 162 [tV (ba b1 0)],none⟩],_,[[],[11]],J,⟨(fun _=>J),O⟩,J,J,J,J,J,⟨fun sg=>ai J (gL J),fun sg=>ai J (gL J),O⟩⟩,
    ⟨⟨[⟨11,fun _=>bF cx e2,none⟩],_,[[],[11]],J,⟨(fun _=>J),O⟩,J,J,J,J,J,⟨fun sg=>ai J (ic lX fc J J),fun sg=>ai J (ic lX fc J J),O⟩⟩,
    ⟨⟨[⟨26,fun _=>bF cI e2.Tag,some 3⟩],_,[[],[11]],J,⟨(fun _=>J),O⟩,J,J,J,J,J,⟨fun sg=>ai J (nE cj J J),fun sg=>ai J (nE cj J J),O⟩⟩,
    ⟨⟨[⟨27,fun _=>tD cI e2.Tag,some 4⟩],_,[[],[11]],J,⟨(fun _=>J),O⟩,J,J,J,J,J,⟨fun sg=>ai J (bo SW (GK _ q_r) ⟨(Y J),O⟩),fun sg=>ai J (bo SW (GK _ q_r) ⟨(Y J),O⟩),O⟩⟩,
    ⟨⟨[⟨25,fun _=>tC 162 [tV (ba b1 0)],some 2⟩,⟨28,fun _=>tD cI r,some 5⟩],_,[([],[6]),([11],[6,11])],J,⟨(fun _=>J),(fun _=>J),O⟩,J,J,J,J,J,⟨fun sg=>dS J (EffOK.fr2 (EffOK.fr2 (E8 (xs:=[.tmp 28]) (ts:=[tD cI r]) (cts:=[tV (ba b1 0)]) [bx rV 53 b1 (bw l1 c1 stack1.length),ff ae 57 l1 c1 stack1] _ J aaJ (VT b1 l1 c1 _ _ q_r1) (Y J) ⟨(Y J),O⟩ (fun _=>J)))),fun sg=>dS J (EffOK.post_imp (post:=fun x__=>(fun(sg:Nat->OI)=>[bx rV 53 b1 (bw ((sg 6).h 0).1 ((sg 6).h 0).2 r1.2.length),ff ae 57 ((sg 6).h 0).1 ((sg 6).h 0).2 r1.2,bx ae 57 ((sg 11).h 0).2 vn,bx ae 57 b vn]) (upd sg 6 x__)) (EffOK.fr3 (EffOK.fr3 (E8 (xs:=[.tmp 28]) (ts:=[tD cI r]) (cts:=[tV (ba b1 0)]) [bx rV 53 b1 (bw l1 c1 stack1.length),ff ae 57 l1 c1 stack1] _ J aaJ (VT b1 l1 c1 _ _ q_r1) (Y J) ⟨(Y J),O⟩ (fun _=>J)))) (fun h=>dN.pick [2,0,1,3] J h)),O⟩⟩,
    ⟨⟨[⟨23,fun _=>(fL aU Xg Dr (fun(x:bZ×(List ac))=>do1 x.1 x.2)),some 0⟩,⟨24,fun _=>tD cx e2,some 1⟩,⟨29,fun _=>tD cu r1.1,some 6⟩],_,[[6],[6,11]],J,⟨(fun _=>J),(fun _=>J),(fun _=>J),O⟩,J,J,J,J,J,⟨fun sg=>ai J (jV (args:=Xg) (res:=Dr) (f:=(fun(x:bZ×(List ac))=>do1 x.1 x.2)) (x:=((e2,r1.1):bZ×(List ac))) (Y J) q_r2 ⟨(Y J),(Y J),O⟩),fun sg=>ai J (jV (args:=Xg) (res:=Dr) (f:=(fun(x:bZ×(List ac))=>do1 x.1 x.2)) (x:=((e2,r1.1):bZ×(List ac))) (Y J) q_r2 ⟨(Y J),(Y J),O⟩),O⟩⟩,
    ⟨⟨[⟨30,fun _=>tT [tD ae r2.1,tD cI r2.2],some 7⟩],_,[[6],[6,11]],J,⟨(fun _=>J),O⟩,J,J,J,J,J,⟨fun sg=>ai J (gL J),fun sg=>ai J (gL J),O⟩⟩,
    ⟨⟨[⟨22,fun _=>tT [tD ae r2.1,tD cI r2.2],some 8⟩],_,[[6],[6,11]],J,⟨(fun _=>J),O⟩,J,J,J,J,J,⟨fun sg=>ai J (vo J J),fun sg=>ai J (vo J J),O⟩⟩,
    ⟨⟨[⟨22,fun _=>tT [tD ae r2.1,tD cI r2.2],some 8⟩],_,[[6],[6,11],[6,11,12]],J,⟨(fun _=>J),O⟩,J,J,J,J,J,⟨fun sg=>ai J (vo J J),fun sg=>ai J (vo J J),fun sg=>ai J (vo J J),O⟩⟩,
    ⟨⟨[],_,[([],[11]),([6],[6,11])],J,O,J,J,J,J,J,⟨fun sg=>dS J (sx an aL),fun sg=>dS J (sx an aL),O⟩⟩,
    ⟨⟨[⟨12,fun sg=>tV (ba ((sg 11).h 0).2 0),some 11⟩,⟨31,fun _=>tD ae r2.1,some 9⟩],_,[([6,11],[6,11,12])],J,⟨(fun _=>J),(fun _=>J),O⟩,J,J,J,J,J,⟨fun sg=>dS J (lC an J (oE ah) J (Y J) (Y J)),O⟩⟩,
    O⟩⟩⟩⟩⟩⟩⟩⟩⟩⟩⟩⟩⟩ (fun sg=>?_)
   refine(show RG _ _ _ _ [_,_,_,_] _ from ?_);refine aV 12 J<|aC J<|aE<|Q J<|eN J<|bE h J (fun h=>?_) (fun h=>?_)
   ·refine ax J<|aC J<|d7<|aH<|dd J<|aH<|aH<|cF<|bK<|bK<|aP ?_;exact ce (h2 r2.2 r1.2 ((sg 6).h 0).1 ((sg 6).h 0).2 h) (bf J)
   ·refine dZ<|au<|T (jA Ln (.head _) (Y J))<|bn an J<|T (aI (r:=ae) (ys:=[r2.1]) (xs:=[.tmp 37]) jE an J J J J J ⟨(Y J),O⟩)<|bu<|ci h fun l2 q_l2 h=>bW an J J J J jE J J (Y J) (Y J) q_l2 fun l3 c2=>bu<|dA Ln J ah J (Y J) (Uz (Y J))<|aY<|dR V hN J<|bK<|bK<|aP ?_;exact aR (aD (ih (i+1) bad1 l2 l3 c2 ⟨cH V,h⟩) (bf J))

end Go.Proofs.YtpgjgkdpeagjbaaGreatDoor

