/- eJ of this claim: P5. -/
import Derived.Test.YtpgjgkdpeagjbaaGreatDoorJaT
import Derived.Test.YtpgjgkdpeagjbaaGreatDoorJaP4
set_option linter.all false
namespace Go.Proofs.YtpgjgkdpeagjbaaGreatDoor
open Go
set_option maxRecDepth 100000

def Ya a1 b{R}(h:zu a1 b=some R):C1 aU 42 [cr (cu) a1,cr (cu) b] (fun(x:Int×(List ac))=>[bD x.1,cr (ae) x.2]) R:=by
 exact C1.of Tryz.func42 J J J fun w0 S0=>Z<|bO J<|bO J<|T (bp hV)<|bB<|Z<|F9 (O1:=[]) (cts:=[bF ei a1,bF ei b]) (caps:=[.tmp 2,.tmp 3]) J agA (ab0 a1 b) ⟨(Y J),(Y J),O⟩ J fun v fp=>aM J<|so h▸PA J J

def YJ do1 a1 b{R}(h:nq do1 a1 b=some R):bY aU 207 [tD ae a1,tD ae b,bF (rT ((fL aU sG wa (fun(x:ac×ac)=>do1 x.1 x.2)))) ()] (tT [tD ae R.1,bD R.2]):=by
 exact co Tryz.func207 J<|Z<|bO J<|bO J<|aQ an aL J fun b1=>bh<|bB<|Z<|T (wr Z7 (Y J))<|bn an J<|bn an J<|ci h fun r q_r h=>T (jV (args:=sG) (res:=Dr) (f:=(fun(x:ac×ac)=>do1 x.1 x.2)) (x:=((b,a1):ac×ac)) (Y J) q_r ⟨(Y J),(Y J),O⟩)<|bv J J<|bv J J<|be an ah J<|aV 5 J<|aM J<|so h▸bq J J ⟨aT an J J J,aN J,O⟩

def Zc do1{R}(h:FY do1=some R):bY aU 148 [(fL aU sG wa (fun(x:ac×ac)=>do1 x.1 x.2))] ((fL aU sG wa (fun(x:ac×ac)=>R x.1 x.2))):=by
 exact co Tryz.func148 J<|Z<|T (Gy (Y J))<|T (bp hV)<|bB<|Z<|T ((show cz _ _ _ _ ((fL aU sG wa (fun(x:ac×ac)=>(nq do1) x.1 x.2)))from kg (cts:=[bF (rT ((fL aU sG wa (fun(x:ac×ac)=>do1 x.1 x.2)))) ()]) (caps:=[.tmp 1]) aeO ⟨(Y J),O⟩ (fun x y h=>YJ _ _ _ h)))<|aM J<|so h▸av J J

def MD b{R}(h:rN b=some R):bY aU 130 [gM b] (tD ae R):=by
 refine co Tryz.func130 J<|Z<|aQ an aL J fun b1=>bB<|Z<|T (bM (y:=Ti) an jg aL (⟨_,_,_,_,_,J,lu,J,hI,J⟩))<|aQ an aL J fun b2=>be an ah J<|bB ?_;refine fi (aF:=fun v=>xx v=some R) (Of:=fun v=>[bx ae 57 b1 vn,bx ae 57 b2 v]) (Gf:=fun v=>[(2,tV (ba b1 0)),(3,tV (ba b2 0))]) (fun v h=>?_) (fun h2=>?_)
 ·skip
  exact Z<|T (bR an J J bz (.tail _ (.head _)) (Y J))<|be an ah J<|aV 2 J<|cK<|aG<|so h▸fT J an J J J
 ·skip
  refine ax J<|bE h J (fun h=>?_) (fun h=>?_)
  ·refine au<|eZ 1 fC J<|dA wd J nf J (Y J) hI<|aY<|bK ?_;exact ce (h2 (ac.mk Ti.Kind (1:Int) Ti.U Ti.S) h) (bf J)
  ·refine bc<|bK ?_;exact ce (h2 Ti h) (bf J)

def MC{R}(h:rM=some R):bY aU 141 [] (tD ae R):=by
 exact co Tryz.func141 J<|Z<|aQ an aL J fun b=>bB<|Z<|T (bM an jg aL J)<|be an ah J<|aV 0 J<|cK<|so h▸fT J an J J J

def Sb l{R}(h:se l=some R):bY aU 267 [cr (ae) l] (bD R):=by
 refine co Tryz.func267 J<|Z<|bh<|bB<|aE<|Q J<|ck jE J<|T (cv hI)<|bB<|am<|aZ (k:=6) J fun hN=>bA ?_;refine aD (eI (aF:=fun ls i=>(l.drop i=ls)/\kV ls=some R) (Of:=fun _ i=>[]) (Gf:=fun _ i=>[(6,cr (ae) l),(7,kP l),(8,bD (i:Int))]) (fun i h=>?_) (fun e tl ih i h=>?_) l 0 ⟨J,h⟩) (bf J)
 ·obtain⟨V,h⟩:=h
  exact eY V J<|ap<|Z<|cd<|so h▸av J J
 ·obtain⟨V,h⟩:=h
  refine eX V J<|aA<|am<|Z<|cW jE an J (cD V)<|aQ an aL J fun b=>be an ah J<|aV 4 J<|bB<|Z<|bn an J ?_;refine bS h Wg (Ir _) (bj J) fun r h=>aC J<|ax J<|eN J<|bE h J (fun h=>?_) (fun h=>?_)
  ·exact ax J<|aM J<|bT<|af<|bT<|so h▸av J J
  ·refine bc<|dR V hN J ?_;exact aR (aD (ih (i+1) ⟨cH V,h⟩) (bf J))

def QJ vals{R}(h:oX vals=some R):bY aU 77 [kq vals] (bD R):=by
 refine co Tryz.func77 J<|Z<|bh<|bB<|Z<|bh<|bB<|aE<|Q J<|ck fz J<|T (cv hI)<|bB<|am<|aZ (k:=6) J fun hN=>bA ?_;refine aD (eI (aF:=fun ls i=>(vals.drop i=ls)/\iC ls=some R) (Of:=fun _ i=>[]) (Gf:=fun _ i=>[(3,bD 0),(6,kq vals),(7,kP vals),(8,bD (i:Int))]) (fun i h=>?_) (fun e tl ih i h=>?_) vals 0 ⟨J,h⟩) (bf J)
 ·obtain⟨V,h⟩:=h
  exact eY V J<|ap<|ax J<|aM J<|so h▸av J J
 ·obtain⟨V,h⟩:=h
  refine eX V J<|aA<|am<|Z<|cW fz cj J (cD V)<|aC J<|ax J<|Q J<|T (d6 (Y J) (Y J)) ?_;refine bE h J (fun h=>?_) (fun h=>?_)
  ·exact ax J<|aM J<|bT<|af<|bT<|so h▸av J J
  ·refine bc<|dR V hN J ?_;exact aR (aD (ih (i+1) ⟨cH V,h⟩) (bf J))

def Sh p{R}(h:pN p=some R):bY aU 253 [bD p] (gM R):=by
 exact co Tryz.func253 J<|Z<|ca<|bB<|ax J<|Q J<|T (d6 (Y J) (Y J))<|aM J<|so h▸av J J

def So p y{R}(h:kj p y=some R):bY aU 198 [bD p,bD y] (bD R):=by
 refine co Tryz.func198 J<|Z<|bh<|bB<|ax J<|bS h aay (Sh _) (bj J) fun r h=>aC J<|ax J<|bS h aay (Sh _) (bj J) fun r1 h=>aC J<|aA<|aA ?_;refine au<|Q J<|bE h J (fun h=>?_) (fun h=>?_)
 ·refine aE<|Q J<|bE h J (fun h=>?_) (fun h=>?_)
  ·exact Z<|cd<|af<|af<|so h▸av J J
  ·exact dZ<|Z<|cd<|af<|so h▸av J J
 ·refine dZ<|aE<|Q J<|bE h J (fun h=>?_) (fun h=>?_)
  ·exact Z<|cd<|af<|so h▸av J J
  ·refine dZ<|aE<|Q J<|Q J<|kw J<|bE h J (fun h=>?_) (fun h=>?_)
   ·exact Z<|cd<|af<|so h▸av J J
   ·refine dZ<|aE<|Q J<|Q J<|T (dy (Y J) (Y J))<|bE h J (fun h=>?_) (fun h=>?_)
    ·exact Z<|cd<|af<|so h▸av J J
    ·exact dZ<|Z<|cd<|so h▸av J J

def Sf p{R}(h:mP p=some R):bY aU 254 [bD p] (gM R):=by
 exact co Tryz.func254 J<|Z<|ca<|bB<|ax J<|Q J<|T (d6 (Y J) (Y J))<|aM J<|so h▸av J J

def Sn p y{R}(h:i9 p y=some R):bY aU 199 [bD p,bD y] (bD R):=by
 refine co Tryz.func199 J<|Z<|bh<|bB<|ax J<|bS h aax (Sf _) (bj J) fun r h=>aC J<|ax J<|bS h aax (Sf _) (bj J) fun r1 h=>aC J<|aA<|aA ?_;refine au<|Q J<|bE h J (fun h=>?_) (fun h=>?_)
 ·refine aE<|Q J<|bE h J (fun h=>?_) (fun h=>?_)
  ·exact Z<|cd<|af<|af<|so h▸av J J
  ·exact dZ<|Z<|cd<|af<|so h▸av J J
 ·refine dZ<|aE<|Q J<|bE h J (fun h=>?_) (fun h=>?_)
  ·exact Z<|cd<|af<|so h▸av J J
  ·refine dZ<|aE<|Q J<|Q J<|kw J<|bE h J (fun h=>?_) (fun h=>?_)
   ·exact Z<|cd<|af<|so h▸av J J
   ·refine dZ<|aE<|Q J<|Q J<|T (dy (Y J) (Y J))<|bE h J (fun h=>?_) (fun h=>?_)
    ·exact Z<|cd<|af<|so h▸av J J
    ·exact dZ<|Z<|cd<|so h▸av J J

def Yc a1 b{R}(h:kG a1 b=some R):bY aU 291 [tD rS a1,tD rS b] (bD R):=by
 exact co Tryz.func291 J<|Z<|bh<|bB<|ax J<|Q J<|T (XG Tryz.func292 (by kernel_rfl) (by kernel_rfl) (by kernel_rfl) (by kernel_rfl) (Y J) (Y J))<|aM J<|so h▸av J J

def Ye a1 b{R}(h:rC a1 b=some R):bY aU 286 [tD rS a1,tD rS b] (bD R):=by
 exact co Tryz.func286 J<|Z<|bh<|bB<|ax J<|Q J<|bS h aef (Yc _ _) (bj J) fun r h=>aM J<|so h▸av J J

def Ym a1 b{R}(h:nd a1 b=some R):bY aU 268 [tD ae a1,tD ae b] (bD R):=by
 refine co Tryz.func268 J<|Z<|bO J<|bO J<|bh<|bB<|aE<|bn an J<|bS h ZC (Mn _) (bj J) fun r h=>T (dY (Y J))<|Q J<|ci h fun t q_t h=>aO J (fun H=>nE an J J) ?_
 obtain⟨r1,h1t,h0t⟩:=og q_t
 have q_r1g:=fun M=>(h1t M).1
 refine aO J (fun H=>bo ZC (Mn _ (q_r1g H)) ⟨(bG J H),O⟩)<|aO J (nI J)<|T (eC (Y J) (fun M=>(bG J (pQ M))) (fun M=>(h1t M).2) h0t)<|bE h J (fun h=>?_) (fun h=>?_)
 ·exact Z<|cd<|af<|so h▸av J J
 ·refine dZ<|aA<|ci h fun r2 q_r2 h=>ci h fun r3 q_r3 h=>ci h fun r4 q_r4 h=>ci h fun r5 q_r5 h=>?_
  refine iQ (ts:=[_,_,_,_,_,_,_,_,_,_,_,_,_,_,_,_,_,_]) mixed J J
   ⟨jH 2 J J (ic cY bC J J),
   ⟨dh 0 cj J J,
   ⟨jH 3 J J (ic cY bC J J),
   ⟨dh 2 cj J J,
   ⟨cM 14 1 16 3 J J J (bo aaF (So _ _ q_r2) ⟨(Y J),(Y J),O⟩),
   ⟨jH 2 J J (ic fC cE J J),
   ⟨dh 5 wd J J,
   ⟨jH 3 J J (ic fC cE J J),
   ⟨dh 7 wd J J,
   ⟨cM 19 6 21 8 J J J (bo aaE (Sn _ _ q_r3) ⟨(Y J),(Y J),O⟩),
   ⟨jH 2 J J (ic k7 eH J J),
   ⟨dh 10 EL J J,
   ⟨jH 3 J J (ic k7 eH J J),
   ⟨dh 12 EL J J,
   ⟨cM 24 11 26 13 J J J (bo aeh (Ye _ _ q_r4) ⟨(Y J),(Y J),O⟩),
   ⟨JQ 17 4 22 9 27 14 J J J J (aI (r:=cI) (ys:=[r2,r3,r4]) (xs:=[.tmp 17,.tmp 22,.tmp 27]) fz cj J J J J J ⟨(Y J),(Y J),(Y J),O⟩),
   ⟨cT 28 15 J J (bo acP (QJ _ q_r5) ⟨(Y J),O⟩),
   ⟨cT 29 16 J J (sE J),
   O⟩⟩⟩⟩⟩⟩⟩⟩⟩⟩⟩⟩⟩⟩⟩⟩⟩⟩ ?_
  exact ap<|fD<|so h▸av J J

def Sm a1 b is1{R}(h:tF a1 b is1=some R):bY aU 208 [tD ae a1,tD ae b,(fL aU Nk qd (fun(x:Int)=>is1 x))] (tT [tD ae R.1,bD R.2]):=by
 refine co Tryz.func208 J<|Z<|bO J<|bO J<|aQ an aL J fun b1=>bh<|bB<|aE<|bn an J<|bn an J<|T (aI (r:=ae) (ys:=[a1,b]) (xs:=[.tmp 10,.tmp 11]) jE an J J J J J ⟨(Y J),(Y J),O⟩)<|bS h aau (Sb _) (bj J) fun r h=>aC J<|ax J<|eN J ?_;refine bE h J (fun h=>?_) (fun h=>?_)
 ·exact Z<|T (bM an jg aL J)<|Q J<|be an ah J<|aM J<|af<|aB 6 J<|so h▸bq J J ⟨aT an J J J,aN J,O⟩
 ·refine dZ<|Z<|bg cY bC cj J<|bP J<|Q J<|aO J (cZ cY bC J J)<|aO J (cN cj J J)<|aO J (fV J)<|fj J<|aC J<|aA<|am<|Z<|bg cY bC cj J<|bP J<|Q J<|aO J (cZ cY bC J J) ?_;refine aO J (cN cj J J)<|aO J (fV J)<|fj J<|Q J<|aO J (cG J)<|aO J (nI J)<|aO J (mJ J)<|cB J J J J (fun H=>ic cY bC J J)<|cB J J J J (fun H=>cJ cj J J (bG J H))<|cB J J J J (fun H=>ic cY bC J J)<|cB J J J J (fun H=>cJ cj J J (bG J H))<|cB J J J J (fun H=>d6 (bG J H) (bG J H))<|aO J (fun H=>gG (bG J H) (fun M=>(bG J (nC H M))))<|fj J<|aC J<|gp h J (fun h=>?_) (fun h=>?_)
  ·exact Z<|T (bM an jg aL J)<|be an ah J<|cd<|bT<|aB 6 J<|so h▸bq J J ⟨aT an J J J,aN J,O⟩
  ·refine ax J<|aC J<|gp h J (fun h=>?_) (fun h=>?_)
   ·exact Z<|bS h Wt MC trivial fun r1 h=>be an ah J<|cd<|bT<|aB 6 J<|so h▸bq J J ⟨aT an J J J,aN J,O⟩
   ·exact bc<|ay<|ap<|ax J<|bn an J<|bn an J<|bS h aeq (Ym _ _) (bj J) fun r2 h=>ci h fun r3 q_r3 h=>T (jV (args:=(fun(x:Int)=>[tD cI x])) (res:=Nm) (f:=(fun(x:Int)=>is1 x)) (x:=((r2):Int)) (Y J) q_r3 ⟨(Y J),O⟩)<|bS h Wu (MD _) (bj J) fun r4 h=>be an ah J<|cd<|aB 6 J<|so h▸bq J J ⟨aT an J J J,aN J,O⟩

def YI c{R}(h:Dv c=some R):bY aU 209 [bD c] (gM R):=by
 exact co Tryz.func209 J<|Z<|ca<|bB<|ax J<|T (du (Y J) hI)<|aM J<|so h▸av J J

def MB a1 b{R}(h:qg a1 b=some R):bY aU 149 [tD ae a1,tD ae b] (tT [tD ae R.1,bD R.2]):=by
 exact co Tryz.func149 J<|Z<|bO J<|bO J<|aQ an aL J fun b1=>bh<|bB<|Z<|bn an J<|bn an J<|bS h aaD (Sm _ _ _) ⟨(Y J),(Y J),(CU aeN fun x y h=>YI _ h),O⟩ fun r h=>bv J J<|bv J J<|be an ah J<|aV 4 J<|aM J<|so h▸bq J J ⟨aT an J J J,aN J,O⟩

def YH do1 a1 x{R}(h:oS do1 a1 x=some R):bY aU 210 [tD ae a1,tD ae x,bF (rT ((fL aU Dq wa (fun(x:ac)=>do1 x)))) ()] (tT [tD ae R.1,bD R.2]):=by
 exact co Tryz.func210 J<|Z<|bO J<|bO J<|aQ an aL J fun b=>bh<|bB<|Z<|T (wr adk (Y J))<|bn an J<|ci h fun r q_r h=>T (jV (args:=Dq) (res:=Dr) (f:=(fun(x:ac)=>do1 x)) (x:=((a1):ac)) (Y J) q_r ⟨(Y J),O⟩)<|bv J J<|bv J J<|be an ah J<|aV 5 J<|aM J<|so h▸bq J J ⟨aT an J J J,aN J,O⟩

def Sx do1{R}(h:CY do1=some R):bY aU 150 [(fL aU Dq wa (fun(x:ac)=>do1 x))] ((fL aU sG wa (fun(x:ac×ac)=>R x.1 x.2))):=by
 exact co Tryz.func150 J<|Z<|T (Gy (Y J))<|T (bp hV)<|bB<|Z<|T ((show cz _ _ _ _ ((fL aU sG wa (fun(x:ac×ac)=>(oS do1) x.1 x.2)))from kg (cts:=[bF (rT ((fL aU Dq wa (fun(x:ac)=>do1 x)))) ()]) (caps:=[.tmp 1]) aeL ⟨(Y J),O⟩ (fun x y h=>YH _ _ _ h)))<|aM J<|so h▸av J J

def Io n{R}(h:qE n=some R):bY aU 84 [bD n] (tD ae R):=by
 exact co Tryz.func84 J<|Z<|aQ an aL J fun b=>bB<|ax J<|T (bM (y:=(⟨(2:Int),n,(0:Int),[]⟩:ac)) an jg aL (⟨_,_,_,_,_,J,lu,J,hI,⟨_,_,_,_,_,J,nf,J,(Y J),J⟩⟩))<|be an ah J<|aV 2 J<|cK<|so h▸fT J an J J J

def GJ kind l{R}(h:sy kind l=some R):bY aU 202 [bD kind,cr (ae) l] (bD R):=by
 refine co Tryz.func202 J<|Z<|bh<|bB<|Z<|bh<|bB<|aE<|Q J<|ck jE J<|T (cv hI)<|bB<|am<|aZ (k:=8) J fun hN=>bA ?_;refine aD (ol (aF:=fun ls i e=>(l.drop i=ls)/\lY kind ls e=some R) (Of:=fun _ i e=>[]) (Gf:=fun _ i e=>[(0,bD kind),(5,bD e),(8,cr (ae) l),(9,kP l),(10,bD (i:Int))]) (fun i e h=>?_) (fun e1 tl ih i e h=>?_) l 0 (0:Int) ⟨J,h⟩) (bf J)
 ·obtain⟨V,h⟩:=h
  exact eY V J<|ap<|ax J<|aM J<|so h▸av J J
 ·obtain⟨V,h⟩:=h
  refine eX V J<|aA<|am<|Z<|cW jE an J (cD V)<|aQ an aL J fun b=>be an ah J<|aV 7 J<|bB<|aE ?_;refine bn an J<|bS h Wg (Ir _) (bj J) fun r h=>eN J<|bE h J (fun h=>?_) (fun h=>?_)
  ·exact Z<|cd<|af<|bT<|af<|bT<|so h▸av J J
  ·refine dZ<|Z<|bg cY bC cj J<|eN J<|Q J<|aw J (cZ cY bC J J)<|aw J (cN cj J J)<|aw J (cG J)<|aw J (fun H=>d6 (bG J H) (bG J H))<|dv J<|bE h J (fun h=>?_) (fun h=>?_)
   ·refine au<|bh<|aY<|dR V hN J ?_;exact aR (aD (ih (i+1) (2:Int) ⟨cH V,h⟩) (bf J))
   ·refine bc<|dR V hN J ?_;exact aR (aD (ih (i+1) e ⟨cH V,h⟩) (bf J))

def GI a1 b to1{R}(h:uU a1 b to1=some R):bY aU 214 [tD ae a1,tD ae b,(fL aU (fun(x:Int×Int)=>[bD x.1,bD x.2]) (fun(x:Int×Bool)=>tT [bD x.1,gM x.2]) (fun(x:Int×Int)=>to1 x.1 x.2))] (tT [tD ae R.1,bD R.2]):=by
 refine co Tryz.func214 J<|Z<|bO J<|bO J<|aQ an aL J fun b1=>bh<|bB<|aE<|bn an J<|bn an J<|T (aI (r:=ae) (ys:=[a1,b]) (xs:=[.tmp 11,.tmp 12]) jE an J J J J J ⟨(Y J),(Y J),O⟩)<|bS h SV (GJ _ _) (bj J) fun r h=>aC J<|ax J<|eN J ?_;refine bE h J (fun h=>?_) (fun h=>?_)
 ·exact Z<|T (bM an jg aL J)<|Q J<|be an ah J<|aM J<|af<|aB 6 J<|so h▸bq J J ⟨aT an J J J,aN J,O⟩
 ·refine dZ<|aE<|bg cY bC cj J<|bP J<|Q J<|aO J (cZ cY bC J J)<|aO J (cN cj J J)<|aO J (fV J)<|fj J<|bE h J (fun h=>?_) (fun h=>?_)
  ·exact Z<|bS h Wt MC trivial fun r1 h=>be an ah J<|cd<|af<|aB 6 J<|so h▸bq J J ⟨aT an J J J,aN J,O⟩
  ·refine dZ<|ax J<|bg fC cE wd J<|bg fC cE wd J<|ci h fun r2 q_r2 h=>T (jV (args:=(fun(x:Int×Int)=>[tD cI x.1,tD cI x.2])) (res:=(fun(x:Int×Bool)=>tT [tD cI x.1,tD rB x.2])) (f:=(fun(x:Int×Int)=>to1 x.1 x.2)) (x:=((a1.N,b.N):Int×Int)) (Y J) q_r2 ⟨(Y J),(Y J),O⟩)<|Q J<|bv J J<|bv J J<|dC J<|aC J<|aE<|Q J<|T (dY (Y J))<|aY ?_;refine ap<|gp h J (fun h=>?_) (fun h=>?_)
   ·exact Z<|T (bM an jg aL J)<|be an ah J<|cd<|af<|aB 6 J<|so h▸bq J J ⟨aT an J J J,aN J,O⟩
   ·exact dZ<|ax J<|bS h Wc (Io _) (bj J) fun r3 h=>be an ah J<|cd<|aB 6 J<|so h▸bq J J ⟨aT an J J J,aN J,O⟩

def YD a1 b{R}(h:sC a1 b=some R):bY aU 216 [bD a1,bD b] (tT [bD R.1,gM R.2]):=by
 refine co Tryz.func216 J<|Z<|bh<|ca<|bB<|ax J<|Q J<|T (dX (Y J) (Y J))<|aC J<|ax J<|Q J<|Q J<|T (EW (Y J) (Y J))<|Q J<|Q J<|T (EW (Y J) (Y J)) ?_;exact T (EY (Y J) (Y J))<|T (eF (Y J) hI)<|dC J<|aM J<|so h▸bH J J J

def Su a1 b{R}(h:yA a1 b=some R):bY aU 155 [tD ae a1,tD ae b] (tT [tD ae R.1,bD R.2]):=by
 exact co Tryz.func155 J<|Z<|bO J<|bO J<|aQ an aL J fun b1=>bh<|bB<|Z<|bn an J<|bn an J<|bS h SU (GI _ _ _) ⟨(Y J),(Y J),(CU aeH fun x y h=>YD _ _ h),O⟩ fun r h=>bv J J<|bv J J<|be an ah J<|aV 4 J<|aM J<|so h▸bq J J ⟨aT an J J J,aN J,O⟩

def Zb a1{R}(h:Bw a1=some R):bY aU 151 [tD ae a1] (tT [tD ae R.1,bD R.2]):=by
 refine co Tryz.func151 J<|Z<|bO J<|aQ an aL J fun b=>bh<|bB<|aA<|ci h fun r q_r h=>ci h fun r1 q_r1 h=>?_
 refine BN 5 (ts:=[tD ae r,tD ae a1,tT [tD ae r1.1,bD r1.2],tD ae r1.1,bD r1.2]) mixed J J J
  ⟨PI J (bo Wc (Io _ q_r) ⟨hI,O⟩),
  ⟨jH 1 J J (nE an J J),
  ⟨cM 4 0 5 1 J J J (bo aaL (Su _ _ q_r1) ⟨(Y J),(Y J),O⟩),
  ⟨cT 6 2 J J (vo J J),
  ⟨cT 6 2 J J (vo J J),
  O⟩⟩⟩⟩⟩ ?_
 exact be an ah J<|aV 2 J<|aM J<|so h▸bq J J ⟨aT an J J J,aN J,O⟩

def Yl v{R}(h:Am v=some R):bY aU 269 [tD ae v] (bD R):=by
 refine co Tryz.func269 J<|Z<|bO J<|bh<|bB<|aE<|bg cY bC cj J<|bP J<|bE h J (fun h=>?_) (fun h=>?_)
 ·exact Z<|cd<|af<|so h▸av J J
 ·exact dZ<|Z<|bg fC cE wd J<|T (xF hI (Y J))<|aM J<|so h▸av J J

def Mw to1 l{R}(h:qf to1 l=some R):bY aU 211 [(fL aU (fun(x:(List Int))=>[kq x]) BM (fun(x:(List Int))=>to1 x)),cr (ae) l] (tT [tD ae R.1,bD R.2]):=by
 refine co Tryz.func211 J<|Z<|aQ an aL J fun b=>bh<|bB<|aE<|Q J<|bS h aau (Sb _) (bj J) fun r h=>aC J<|ax J<|eN J<|bE h J (fun h=>?_) (fun h=>?_)
 ·exact Z<|T (bM an jg aL J)<|Q J<|be an ah J<|aM J<|af<|aB 4 J<|so h▸bq J J ⟨aT an J J J,aN J,O⟩
 ·refine dZ<|Z<|bQ false cI 3<|T (bp qa)<|bB<|aE<|Q J<|ck jE J<|T (cv hI)<|bB<|am<|aZ (k:=16) J fun hN=>bA ?_;refine aD (lQ (aF:=fun ls i n l1 c x=>(l.drop i=ls)/\nJ to1 ls n x=some R) (Of:=fun _ i n l1 c x=>[ff cI 3 l1 c n,bx ae 57 b x]) (Gf:=fun _ i n l1 c x=>[(0,(fL aU (fun(x:(List Int))=>[kq x]) BM (fun(x:(List Int))=>to1 x))),(4,tV (ba b 0)),(7,my l1 c n),(16,cr (ae) l),(17,kP l),(18,bD (i:Int))]) (fun i n l1 c x h=>?_) (fun e tl ih i n l1 c x h=>?_) l 0 BL none 0 vn ⟨J,h⟩) (bf J)
  ·obtain⟨V,h⟩:=h
   refine eY V J<|ap<|ax J<|Q J<|gm<|dn 7 J<|dn 33 J<|ci h fun r1 q_r1 h=>T (jV (args:=(fun(x:(List Int))=>[tD Ak x])) (res:=Xd) (f:=(fun(x:(List Int))=>to1 x)) (x:=((n):(List Int))) (Y J) q_r1 ⟨(km (Y J)),O⟩)<|ci h fun e1 q_e1 h=>T (Uk (r:=qH ae 3) (x:=gv0) gm0 gr0 (fE Tryz.underlying260 an J adF (Y J) q_e1)) ?_;exact bn an J<|bu<|be an ah J<|cd<|aB 4 J<|aG<|so h▸bq J J ⟨aT an J J J,aN J,O⟩
  ·obtain⟨V,h⟩:=h
   refine eX V J<|aA<|am<|Z<|cW jE an J (cD V)<|aQ an aL J fun b1=>be an ah J<|aV 9 J<|bB<|aE ?_;refine bg cY bC cj J<|T (dy (Y J) hI)<|bE h J (fun h=>?_) (fun h=>?_)
   ·exact Z<|T (bM an jg aL J)<|bu<|be an ah J<|cd<|af<|bT<|af<|bT<|aB 4 J<|aG<|so h▸bq J J ⟨aT an J J J,aN J,O⟩
   ·refine dZ<|au<|Q J<|bn an J<|bS h aep (Yl _) (bj J) fun r2 h=>T (aI (r:=cI) (ys:=[r2]) (xs:=[.tmp 28]) fz cj J J J J J ⟨(Y J),O⟩)<|ci h fun n1 q_n1 h=>bW cj J J J J fz J J (Y J) (Y J) q_n1 fun l2 c1=>dC J<|aY<|dR V hN J ?_;exact aR (aD (ih (i+1) n1 l2 c1 x ⟨cH V,h⟩) (bf J))

end Go.Proofs.YtpgjgkdpeagjbaaGreatDoor

