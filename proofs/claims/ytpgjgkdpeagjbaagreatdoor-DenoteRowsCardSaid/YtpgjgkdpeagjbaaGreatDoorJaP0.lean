/- eJ of this claim: P0. -/
import Derived.Test.YtpgjgkdpeagjbaaGreatDoorJaT
import Derived.Test.YtpgjgkdpeagjbaaGreatDoorJaF
set_option linter.all false
namespace Go.Proofs.YtpgjgkdpeagjbaaGreatDoor
open Go
abbrev abe:=fun(mc:aX) (mx:aq)=>(iv mc mx).map fun mr=>(mr,mc)
abbrev abd:=fun(mc:aX) (mx:aq)=>(jn mc mx).map fun mr=>(mr,mc)
abbrev abi:=fun(mc:aX) (mx:aq)=>(iw mc mx).map fun mr=>(mr,mc)
abbrev abf:=fun(mc:aX) (mx:aq)=>(iW mc mx).map fun mr=>(mr,mc)
abbrev abj:=fun(mc:aX) (mx:aq)=>(hY mc mx).map fun mr=>(mr,mc)
abbrev abk:=fun(mc:aX) (mx:aq)=>(gI mc mx).map fun mr=>(mr,mc)
abbrev abh:=fun(mc:aX) (mx:aq)=>(iT mc mx).map fun mr=>(mr,mc)
abbrev abg:=fun(mc:aX) (mx:aq)=>(iU mc mx).map fun mr=>(mr,mc)
abbrev Xi:=eO (eO (eO (eO (eO (eO (eO (eO ([]:List (Int×(aX->aq->Option (((List Int)×Bool)×aX)))) (1:Int) abe) (2:Int) abd) (3:Int) abi) (4:Int) abf) (5:Int) abj) (6:Int) abk) (7:Int) abh) (8:Int) abg
abbrev aa6:=fun(mc:fy) (mx:aq)=>(mO mc mx).map fun mr=>(mr,mc)
abbrev aa5:=fun(mc:fy) (mx:aq)=>(lD mc mx).map fun mr=>(mr,mc)
abbrev aba:=fun(mc:fy) (mx:aq)=>(lk mc mx).map fun mr=>(mr,mc)
abbrev aa7:=fun(mc:fy) (mx:aq)=>(kM mc mx).map fun mr=>(mr,mc)
abbrev abb:=fun(mc:fy) (mx:aq)=>(kL mc mx).map fun mr=>(mr,mc)
abbrev abc:=fun(mc:fy) (mx:aq)=>(j7 mc mx).map fun mr=>(mr,mc)
abbrev aa9:=fun(mc:fy) (mx:aq)=>(mu mc mx).map fun mr=>(mr,mc)
abbrev aa8:=fun(mc:fy) (mx:aq)=>(mv mc mx).map fun mr=>(mr,mc)
abbrev Z1:=eO (eO (eO (eO (eO (eO (eO (eO ([]:List (Int×(fy->aq->Option (((List (List ac))×Int)×fy)))) (1:Int) aa6) (2:Int) aa5) (3:Int) aba) (4:Int) aa7) (5:Int) abb) (6:Int) abc) (7:Int) aa9) (8:Int) aa8
abbrev cu:=f9 ae
abbrev sG:=fun(x:ac×ac)=>[tD ae x.1,tD ae x.2]
abbrev wa:=fun(x:ac×Int)=>tT [tD ae x.1,bD x.2]
abbrev vn:=(⟨(0:Int),(0:Int),(0:Int),[]⟩:ac)
abbrev cI:=rI .i64
abbrev uB:=fun(x:aq)=>[tD aW x]
abbrev Jf:=fun(x:(List ac)×(List ac))=>[cr (ae) x.1,cr (ae) x.2]
abbrev FF:=fun(x:(List Int)×Bool)=>tT [kq x.1,gM x.2]
abbrev Cw:=min (Int.toNat (32:Int)) IntKind.u64.bits
abbrev Nl:=(⟨[]⟩:cy)
abbrev Lf:=(⟨(0:Int),(0:Int),(0:Int),(0:Int),[],false,Nl,[],[],[],[],(0:Int)⟩:aq)
abbrev u7:=fun(x:(List (List ac))×Int)=>tT [cr (cu) x.1,bD x.2]
abbrev Dr:=fun(x:ac×Int)=>tT [tD ae x.1,tD cI x.2]
abbrev qd:=fun(x:Bool)=>gM x
abbrev ei:=f9 cu
abbrev Dq:=fun(x:ac)=>[tD ae x]
abbrev yN:=([]:List (List ac))
abbrev Th:=List.replicate 8 (0:Int)
abbrev Le:=(⟨Th,false⟩:d8)
abbrev BM:=fun(x:Int)=>bD x
abbrev Ti:=(⟨(1:Int),(0:Int),(0:Int),[]⟩:ac)
abbrev o8:=rI .u64
abbrev Xh:=fun(x:bZ×(List ac))=>[tD cx x.1,cr (ae) x.2]
abbrev Xg:=fun(x:bZ×(List ac))=>[tD cx x.1,tD cu x.2]
abbrev tE:=kvI .i64
abbrev BL:=([]:List Int)
abbrev EH:=([]:List ac)
abbrev Xf:=fun(x:bZ×(List Int))=>[tD cx x.1,kq x.2]
abbrev Nm:=fun(x:Bool)=>tD rB x
abbrev Nk:=fun(x:Int)=>[bD x]
abbrev Ak:=f9 cI
abbrev aa4:=fun(x:bZ×(List Int))=>[tD cx x.1,tD Ak x.2]
abbrev aa3:=fun(x:(List ac)×(List ac))=>[tD cu x.1,tD cu x.2]
abbrev Xe:=fun(x:Int×Int)=>tT [bD x.1,bD x.2]
abbrev yM:=(-1:Int)
abbrev UE:=fun(x:jG)=>[tD gU x]
abbrev UD:=(⟨(1:Int),Nl⟩:jt)
abbrev aa2:=fun(x:Int×Int)=>tT [tD cI x.1,tD cI x.2]
abbrev Xd:=fun(x:Int)=>tD cI x
abbrev GZ:=2^Cw
abbrev Xc:=(⟨[],[]⟩:eg)
abbrev aa1:=([]:List (List (List ac)))
abbrev Xb:=(⟨[]⟩:dg)
set_option maxRecDepth 100000

def YP s f{R}(h:ne s f=some R):bY aU 186 [kq s,(fL aU Nk qd (fun(x:Int)=>f x))] (bD R):=by
 refine co Tryz.func186 J<|Z<|bh<|bB<|aE<|Q J<|ck fz J<|T (cv hI)<|bB<|am<|aZ (k:=6) J fun hN=>bA ?_;refine aD (eI (aF:=fun ls i=>(s.drop i=ls)/\ie f ls i=some R) (Of:=fun _ i=>[]) (Gf:=fun _ i=>[(0,kq s),(1,(fL aU Nk qd (fun(x:Int)=>f x))),(7,kP s),(8,bD (i:Int))]) (fun i h=>?_) (fun e tl ih i h=>?_) s 0 ⟨J,h⟩) (bf J)
 ·obtain⟨V,h⟩:=h
  exact eY V J<|ap<|Z<|cd<|so h▸av J J
 ·obtain⟨V,h⟩:=h
  refine eX V J<|aA<|am<|ax J<|aC J<|ax J<|Q J<|Q J<|Dt fz cj J (cD V) ?_;refine bn cj J<|ci h fun r q_r h=>T (jV (args:=(fun(x:Int)=>[tD cI x])) (res:=Nm) (f:=(fun(x:Int)=>f x)) (x:=((e):Int)) (Y J) q_r ⟨(Y J),O⟩)<|bE h J (fun h=>?_) (fun h=>?_)
  ·exact ax J<|aM J<|bT<|af<|bT<|so h▸av J J
  ·refine bc<|dR V hN J ?_;exact aR (aD (ih (i+1) ⟨cH V,h⟩) (bf J))

def GL s f{R}(h:dD s f=some R):bY aU 132 [kq s,(fL aU Nk qd (fun(x:Int)=>f x))] (gM R):=by
 exact co Tryz.func132 J<|Z<|ca<|bB<|ax J<|Q J<|bS h aeU (YP _ _) (bj J) fun r h=>T (eF (Y J) hI)<|aM J<|so h▸av J J

def YW k{R}(h:FT k=some R):bY aU 177 [bD k] (gM R):=by
 exact co Tryz.func177 J<|Z<|ca<|bB<|ax J<|bP J<|Q J<|aO J (cG J)<|aO J (fV J)<|fj J<|Q J<|aO J (cG J)<|aO J (fV J)<|fj J<|aM J<|so h▸av J J

def YX k{R}(h:k6 k=some R):bY aU 176 [bD k] (gM R):=by
 exact co Tryz.func176 J<|Z<|ca<|bB<|ax J<|bS h ae1 (YW _) (bj J) fun r h=>T (dY (Y J))<|aM J<|so h▸av J J

def acE(b:Nat)(ix:OI) c n{R}(h:iv c n=some R):ea aU 119 [tV (ba b 0),tD aW n] (fJ b c ix) (fun _:OI=>tT [kq R.1,gM R.2]) (fun _=>(fJ b c ix)):=by
 refine ea.of Tryz.func119 J J J fun w0 S0=>?_;refine(show CG _ _ _ [bx (rH cg [(1,bw (ix.h 0).1 (ix.h 0).2 c.kinds.length),(2,bw (ix.h 1).1 (ix.h 1).2 c.first.length)]) 108 b c,gO sH 39 (ix.h 0).1 (ix.h 0).2 c.kinds,gO cI 3 (ix.h 1).1 (ix.h 1).2 c.first] _ from ?_);refine Z<|bO J<|dO cI<|ca<|bB<|Z<|T (bp (show bk _ _ _ ((fL aU Nk qd (fun(x:Int)=>k6 x)))from(CU ae2 fun x y h=>YX _ h)))<|bB<|Z<|bg qX jp cj J<|T (eF (Y J) hI)<|Q J<|aw J (cZ qX jp J J)<|aw J (cN cj J J)<|aw J (fun H=>du (bG J H) hI)<|dv J<|Q J<|aw J (cZ pU iZ J J) ?_;refine aw J (cN eQ J J)<|aw J (jJ fz J)<|aw J (fun H=>eF (bG J H) hI)<|dv J<|Q J<|aw J (cZ pU iZ J J)<|aw J (cN eQ J J)<|aw J (jJ fz J)<|aw J (fun H=>jm (bG J H) hI)<|dv J<|aC J<|aA<|ci h fun t q_t h=>?_
 obtain⟨r,h1t,h0t⟩:=og q_t
 have q_rg:=fun M=>(h1t M).1
 refine iQ (ts:=[_,_,_,_,_,_,_,_,_,_,_,_]) mixed J J
  ⟨jH 3 J J (ic pU iZ J J),
  ⟨dh 0 eQ J J,
  ⟨dc J J,
  ⟨cT 30 2 J J (gL J),
  ⟨jF 3 31 3 J J J (bU J J J J (fun H=>ic pU iZ J J)),
  ⟨fq 32 4 31 3 J J J (bU J J J J (fun H=>cJ eQ J J (bG J H))),
  ⟨jF 6 31 3 J J J (bU J J J J (fun H=>gL J)),
  ⟨lZ 33 5 34 6 31 3 J J J J (bU J J J J (fun H=>bo SX (GL _ _ (q_rg H)) ⟨(bG J H),(bG J H),O⟩)),
  ⟨fq 35 7 31 3 J J J (bU J J J J (fun H=>dY (bG J H))),
  ⟨cM 31 3 36 8 J J J (cQ (Y J) (fun M=>(bG J M)) (fun M=>(h1t M).2) h0t),
  ⟨cT 29 1 J J (sE J),
  ⟨cT 37 9 J J (sE J),
  O⟩⟩⟩⟩⟩⟩⟩⟩⟩⟩⟩⟩ ?_
 exact ap<|fD<|aP<|aP<|aP<|so h▸fS (ts:=[kq n.Kinds,gM t]) (rvs:=[.tmp 4,.tmp 5]) J J ⟨aN J,aN J,O⟩ sF J J

def VO n{R}(h:nF n=some R):fR aU 242 [tV (.slice none 0 0),bD n] false cI 3 R:=by
 refine fR.of Tryz.func242 J J J fun w0 S0=>Z<|bQ false cI 3<|T (bp qa)<|bB ?_;refine yF (aF:=oD n=some R) (Of:=[]) (Gf:=[(0,tV (.slice none 0 0)),(1,bD n)]) (fun h=>?_) (fun h2=>?_)
 ·skip
  refine vY (aF:=fun s l c=>oC s=some R) (Of:=fun s l c=>[ff cI 3 l c s]) (Gf:=fun s l c=>[(0,my l c s)]) (fun s l c h=>?_) (fun K1=>?_)
  ·skip
   exact ax J<|aM J<|so h▸fY J J
  ·skip
   refine ax J<|Q J<|T (vS fz (Y J))<|Q J<|T (vR fz (Y J))<|T (dX (Y J) (Y J))<|T (dX (Y J) (Y J))<|aC J<|ax J<|T (dy (Y J) hI)<|bE h J (fun h=>?_) (fun h=>?_)
   ·refine au<|Q J<|Q J<|T (vS fz (Y J))<|T (AI fz cj (Y J) (Y J))<|Q J<|ci h fun u q_u h=>ci h fun mk q_mk h=>C3 (AX (r:=cI) (x:=(0:Int)) cj J J J J fz mK (fun _=>J) (Y J) (Y J) (Ib q_u) q_mk) J fun i=>Q J<|T (vR fz (Y J))<|ci h fun y q_y h=>T (mj fz cj J (.head _) (Y J) (Y J) q_y)<|xJ q_y<|dC J<|aY ?_;exact ce (K1 y (i.h 0).1 (i.h 0).2 h) (bf J)
   ·refine bc<|Ja false cI 3 ?_;exact ce (K1 BL none 0 h) (bf J)
 ·skip
  refine ax J<|T (du (Y J) hI)<|bE h J (fun h=>?_) (fun h=>?_)
  ·refine au ?_;exact(nn h).elim
  ·refine bc<|aG ?_;exact ce (h2 h) (bf J)
def VS slices{R}(h:ky slices=some R):fR aU 178 [cr (sH) slices] false cI 3 R:=by
 refine fR.of Tryz.func178 J J J fun w0 S0=>Z<|bQ false cI 3<|T (bp qa)<|bB<|Z<|bh<|bB<|aE<|Q J<|ck xP J<|T (cv hI)<|bB<|am<|aZ (k:=9) J fun hN=>bA<|mI ?_;refine aD (ol (aF:=fun ls i size=>(slices.drop i=ls)/\kR slices ls size=some R) (Of:=fun _ i size=>[]) (Gf:=fun _ i size=>[(0,cr (sH) slices),(3,bD size),(9,cr (sH) slices),(10,kP slices),(11,bD (i:Int))]) (fun i size h=>?_) (fun e tl ih i size h=>?_) slices 0 (0:Int) ⟨J,h⟩) (bf J)
 ·obtain⟨V,h⟩:=h
  refine eY V J<|ap<|ax J<|lI h aew (VO _) ⟨hV,(Y J),O⟩ fun r h l c=>aC J<|aE ?_;refine Q J<|ck xP J<|T (cv hI)<|bB<|am<|aZ (k:=25) J fun hN1=>bA ?_;refine aD (iR (aF:=fun ls1 i1 newslice l1 c1=>(slices.drop i1=ls1)/\kQ ls1 newslice=some R) (Of:=fun _ i1 newslice l1 c1=>[ff cI 3 l1 c1 newslice]) (Gf:=fun _ i1 newslice l1 c1=>[(6,my l1 c1 newslice),(25,cr (sH) slices),(26,kP slices),(27,bD (i1:Int))]) (fun i1 newslice l1 c1 h=>?_) (fun e1 tl1 ih1 i1 newslice l1 c1 h=>?_) slices 0 r l c ⟨J,h⟩) (bf J)
  ·obtain⟨hx1,h⟩:=h
   exact eY hx1 J<|ap<|ax J<|aM J<|so h▸fY J J
  ·obtain⟨hx1,h⟩:=h
   refine eX hx1 J<|aA<|am<|Z<|cW xP eQ J (cD hx1)<|aC J<|au<|Q J<|Q J<|ci h fun newslice1 q_newslice1 h=>bW cj J J J J fz J J (Y J) (Y J) q_newslice1 fun l2 c2=>?_;refine dC J<|aY<|dR hx1 hN1 J ?_;exact aR (aD (ih1 (i1+1) newslice1 l2 c2 ⟨cH hx1,h⟩) (bf J))
 ·obtain⟨V,h⟩:=h
  refine eX V J<|aA<|am<|Z<|cW xP eQ J (cD V)<|aC J<|ax J<|Q J<|ck fz J ?_;refine T (eG (Y J) (Y J))<|aC J<|ax J<|T (du (Y J) hI)<|bE h J (fun h=>?_) (fun h=>?_)
  ·refine au ?_;exact(nn h).elim
  ·refine bc<|dR V hN J ?_;exact aR (aD (ih (i+1) (IntKind.i64.wrap (size+(e.length:Int))) ⟨cH V,h⟩) (bf J))
def YV slices{R}(h:ky slices=some R):bY aU 178 [cr (sH) slices] (kq R):=(VS _ h).spec

def GK tag{R}(h:r0 tag=some R):bY aU 164 [bD tag] (bD R):=by
 refine co Tryz.func164 J<|Z<|bh<|bB<|aA<|am<|ax J<|bP J<|Q J<|aO J (cG J)<|aO J (fV J)<|fj J<|aC J<|gp h J (fun h=>?_) (fun h=>?_)
 ·exact Z<|cd<|bT<|so h▸av J J
 ·refine ax J<|T (eF (Y J) hI)<|Q J<|aw J (cG J)<|aw J (fun H=>jm (bG J H) hI)<|dv J<|aC J<|gp h J (fun h=>?_) (fun h=>?_)
  ·exact Z<|cd<|bT<|so h▸av J J
  ·refine ax J<|T (eF (Y J) hI)<|Q J<|aw J (cG J)<|aw J (fun H=>jm (bG J H) hI)<|dv J<|aC J<|gp h J (fun h=>?_) (fun h=>?_)
   ·exact Z<|cd<|bT<|so h▸av J J
   ·exact bc<|ay<|ap<|Z<|cd<|so h▸av J J

def Zt v{R}(h:An v=some R):bY aU 106 [tD ae v] (tD ae R):=by
 refine co Tryz.func106 J<|Z<|vI (Y J) J fun b=>aQ an aL J fun b1=>bB<|aE<|eZ 0 cY J<|T (bR cj J J bC (.tail _ (.head _)) (Y J))<|bB ?_;refine K0 (aF:=fun v1=>mz v1=some R) (Of:=fun v1=>[bx ae 57 b v1,bx ae 57 b1 vn]) (Gf:=fun v1=>[(1,tV (ba b 0)),(2,tV (ba b1 0))]) (fun v1 h=>?_) (fun h2=>?_)
 ·skip
  exact ap<|Z<|T (bR an J J bz (.head _) (Y J))<|bu<|be an ah J<|aV 2 J<|cK<|aG<|so h▸fT J an J J J
 ·skip
  refine aA<|am<|aA<|am<|aA ?_;refine K0 (aF:=fun v2=>sN v2=some R) (Of:=fun v2=>[bx ae 57 b v2,bx ae 57 b1 vn]) (Gf:=fun v2=>[(1,tV (ba b 0)),(2,tV (ba b1 0))]) (fun v2 h=>?_) (fun K1=>?_)
  ·skip
   refine ap<|Z<|eZ 0 cY J<|dA cj J lu J (Y J) hI<|bB<|d7<|dd J<|aH<|dd J<|aH<|cF ?_;exact ce (h2 (ac.mk (0:Int) v2.N v2.U v2.S) h) (bf J)
  ·skip
   refine aA ?_;refine Uu (aF:=sM v=some R) (Of:=[bx ae 57 b v,bx ae 57 b1 vn]) (Gf:=[(1,tV (ba b 0)),(2,tV (ba b1 0))]) (fun h=>?_) (fun K2=>?_)
   ·skip
    refine ap<|au<|eZ 1 fC J<|dA wd J nf J (Y J) hI<|aY<|ay ?_;exact ce (K1 (ac.mk v.Kind (0:Int) v.U v.S) h) (bf J)
   ·skip
    refine aA<|am<|aA<|aE<|bP J<|aC J<|gp h J (fun h=>?_) (fun h=>?_)
    ·refine d7<|aH<|aH<|cF<|ap<|Z<|eZ 1 fC J<|T (bR wd J J cE (.tail _ (.head _)) (Y J))<|eN J<|Q J<|aw J (fun H=>tp 1 fC J J J)<|aw J (fun H=>bR wd J J cE (.tail _ (.head _)) (bG J H))<|aw J (sK J)<|dv J<|bE h J (fun h=>?_) (fun h=>?_)
     ·refine d7<|dd J<|aH<|dd J<|aH<|dd J<|aH<|dd J<|aH<|cF<|bK ?_;exact ce (h2 v h) (bf J)
     ·refine bc<|ay<|bK ?_;exact ce (K2 h) (bf J)
    ·refine dZ<|aE<|bP J<|aC J<|gp h J (fun h=>?_) (fun h=>?_)
     ·refine d7<|aH<|aH<|dd J<|aH<|cF<|bK ?_;exact ce (K2 h) (bf J)
     ·refine dZ<|aE<|bP J<|aC J<|gp h J (fun h=>?_) (fun h=>?_)
      ·refine d7<|aH<|aH<|dd J<|aH<|dd J<|aH<|cF<|bK ?_;exact ce (K1 v h) (bf J)
      ·refine dZ<|aE<|bP J<|aC J<|gp h J (fun h=>?_) (fun h=>?_)
       ·refine d7<|aH<|aH<|dd J<|aH<|dd J<|aH<|dd J<|aH<|cF<|ap ?_;refine fi (aF:=fun v3=>sL v3=some R) (Of:=fun v3=>[bx ae 57 b v3,bx ae 57 b1 vn]) (Gf:=fun v3=>[(1,tV (ba b 0)),(2,tV (ba b1 0))]) (fun v3 h=>?_) (fun K3=>?_)
        ·skip
         refine d7<|dd J<|aH<|cF ?_;exact ce (h2 v3 h) (bf J)
        ·skip
         refine Z<|eZ 3 k7 J<|T (bR EL J J eH (.tail _ (.head _)) (Y J))<|T (ur yJ (Y J))<|T (jm (Y J) hI)<|bE h J (fun h=>?_) (fun h=>?_)
         ·refine au<|eZ 0 cY J<|bu<|dA cj J lu J (Y J) hI<|eZ 3 k7 J<|dA EL J PU J (Y J) hS<|aY ?_;exact ce (K3 (ac.mk (0:Int) v.N v.U ([])) h) (bf J)
         ·refine bc<|bK ?_;exact ce (K3 v h) (bf J)
       ·refine dZ<|Z<|bP J<|aC J<|gp h J (fun h=>?_) (fun h=>?_)
        ·refine d7<|aH<|dd J<|aH<|dd J<|aH<|dd J<|aH<|dd J<|aH<|cF<|ap<|Z<|eZ 0 cY J<|bu<|dA cj J lu J (Y J) hI<|eZ 1 fC J<|dA wd J nf J (Y J) hI<|eZ 2 rY J<|dA hU J yU J (Y J) hI<|bB<|d7 ?_;refine cF ?_;exact ce (h2 (ac.mk (0:Int) (0:Int) (0:Int) v.S) h) (bf J)
        ·refine dZ<|d7<|dd J<|aH<|dd J<|aH<|dd J<|aH<|dd J<|aH<|dd J<|aH<|cF<|bK ?_;exact ce (h2 v h) (bf J)

def Ir v{R}(h:mT v=some R):bY aU 56 [tD ae v] (bD R):=by
 refine co Tryz.func56 J<|Z<|bO J<|bh<|bB<|aE<|bn an J<|bS h afM (Zt _) (bj J) fun r h=>T (bM an jg aL J)<|T (LP Iw (Y J) (Y J))<|bE h J (fun h=>?_) (fun h=>?_)
 ·exact Z<|cd<|af<|so h▸av J J
 ·exact dZ<|Z<|cd<|so h▸av J J

def Mn v{R}(h:ou v=some R):bY aU 94 [tD ae v] (gM R):=by
 exact co Tryz.func94 J<|Z<|bO J<|ca<|bB<|Z<|bn an J<|bS h Wg (Ir _) (bj J) fun r h=>bP J<|Q J<|aw J (cZ cY bC J J)<|aw J (cN cj J J)<|aw J (sK J)<|dv J<|aM J<|so h▸av J J

def YK n{R}(h:xo n=some R):bY aU 205 [tD cx n] (gM R):=by
 refine co Tryz.func205 J<|Z<|bO J<|ca<|bB<|aE<|bg lX fc cj J<|bB<|am<|Z<|bP J<|aC J<|gp h J (fun h=>?_) (fun h=>?_)
 ·exact Z<|bg wB mE an J<|bS h ZC (Mn _) (bj J) fun r h=>Q J<|aw J (cZ qW i6 J J)<|aw J (cN cj J J)<|aw J (fV J)<|dv J<|aM J<|bT<|so h▸av J J
 ·refine Z<|bP J<|aC J<|gp h J (fun h=>?_) (fun h=>?_)
  ·exact Z<|bg wB mE an J<|T (bM an jg aL J)<|T (uu Iw (Y J) (Y J))<|Q J<|aw J (cZ qW i6 J J)<|aw J (cN cj J J)<|aw J (fun H=>eF (bG J H) hI)<|dv J<|Q J<|aw J (cZ qW i6 J J)<|aw J (cN cj J J)<|aw J (fun H=>du (bG J H) hI)<|dv J<|aM J<|bT<|so h▸av J J
  ·exact bc<|ay<|ap<|Z<|bg wB mE an J<|T (bM an jg aL J)<|T (uu Iw (Y J) (Y J))<|Q J<|aw J (cZ qW i6 J J)<|aw J (cN cj J J)<|aw J (fV J)<|dv J<|aM J<|so h▸av J J

def Zd e{R}(h:AW e=some R):bY aU 145 [tD cm e] (tT [kq R.1,gM R.2]):=by
 refine co Tryz.func145 J<|Z<|bO J<|dO cI<|ca<|bB<|Z<|bQ false cI 3<|T (bp qa)<|bQ false cI 3<|T (bp qa)<|bB<|aE<|bg la gj uD J<|ck qC J<|T (cv hI)<|aY ?_;refine ap<|am<|aZ (k:=15) J fun hN=>bA<|fh ?_;refine aD (Pq (aF:=fun ls i all l c open1 l1 c1=>(e.Nodes.drop i=ls)/\mF ls i all open1=some R) (Of:=fun _ i all l c open1 l1 c1=>[ff cI 3 l c all,ff cI 3 l1 c1 open1]) (Gf:=fun _ i all l c open1 l1 c1=>[(4,my l c all),(5,my l1 c1 open1),(15,cr (cx) e.Nodes),(16,kP e.Nodes),(17,bD (i:Int))]) (fun i all l c open1 l1 c1 h=>?_) (fun e1 tl ih i all l c open1 l1 c1 h=>?_) e.Nodes 0 BL none 0 BL none 0 ⟨J,h⟩) (bf J)
 ·obtain⟨V,h⟩:=h
  refine eY V J<|ap<|ax J<|Q J<|T (fO fz (.tail _ (.head _)) (Y J))<|bP J<|Q J<|aw J (cG J)<|aw J (fun H=>fO fz (.head _) (bG J H))<|aw J (fun H=>jm (bG J H) hI)<|dv J ?_;exact dC J<|aM J<|dU<|bN 4 J<|bN 84 J<|bN 2 J<|dQ 2 J<|aG<|aG<|so h▸bH J J J
 ·obtain⟨V,h⟩:=h
  refine eX V J<|aA<|am<|ax J<|cW qC nw J (cD V)<|aQ nw qc J fun b=>dC J<|be nw ah J<|aV 7 J<|bB<|aA ?_;refine au<|bg lX fc cj J<|bS h SW (GK _) (bj J) fun r h=>aC J<|aE<|Q J<|T (du (Y J) hI)<|Q J<|aO J (cG J)<|aO J (cG J)<|aO J (fun H=>fO fz (.tail _ (.head _)) (bG J H))<|aO J (fun H=>dy (bG J H) (bG J H))<|fj J<|Q J<|ci h fun t q_t h=>aO J (fun H=>nE nw J J) ?_
  obtain⟨r1,h1t,h0t⟩:=og q_t
  have q_r1g:=fun M=>(h1t M).1
  refine aO J (fun H=>bo aeP (YK _ (q_r1g H)) ⟨(bG J H),O⟩)<|aO J (nI J)<|T (eC (Y J) (fun M=>(bG J (pQ M))) (fun M=>(h1t M).2) h0t)<|bE h J (fun h=>?_) (fun h=>?_)
  ·exact Z<|dO cI<|ca<|cK<|af<|bT<|af<|bT<|aG<|aG<|so h▸bH J J J
  ·refine dZ<|ax J<|Q J<|T (fO fz (.tail _ (.head _)) (Y J))<|Q J<|T (dX (Y J) (Y J))<|ci h fun y q_y h=>T (qq fz cj J (.tail _ (.head _)) (Y J) (Y J) q_y)<|o5 (.tail _ (.head _)) q_y fun hv=>aC J<|Z<|T (Km (r:=cI) (ys:=[yM,yM]) (xs:=[.const (.int .i64 (-1)),.const (.int .i64 (-1))]) Tryz.underlying216 cj J Nu J J ⟨hI,hI,O⟩)<|aQ (r:=(qH cI 2)) (x:=(List.replicate 2 (0:Int))) Nu (fun _=>Es (r:=cI) 2 (fun _=>J) _) J fun b1=>be Nu ah J<|bB<|Z ?_;refine Q J<|aC J<|aE<|Q J<|T (XE fz (.tail _ (.tail _ (.head _))) q_y (Y J))<|T (cv hI)<|bB<|am ?_
   have hN1:=hv.2
   refine bA<|mR<|mR ?_;refine aD (yC (aF:=fun ls1 i1 first at1=>(y.drop i1=ls1)/\n9 (mF tl) i e1 all open1 r ls1 i1 first at1=some R) (Of:=fun _ i1 first at1=>[ff cI 3 l c all,ff cI 3 l1 c1 open1,bx (qH cI 2) 216 b1 at1]) (Gf:=fun _ i1 first at1=>[(4,my l c all),(5,my l1 c1 open1),(6,bD (i:Int)),(7,bF cx e1),(8,bD r),(10,tV (ba b1 0)),(11,bD first),(15,cr (cx) e.Nodes),(16,kP e.Nodes),(17,bD (i:Int)),(46,tV (qU 1 l1 c1 (IntKind.i64.wrap ((open1.length:Int)-r)).toNat y.length)),(47,kP y),(48,bD (i1:Int))]) (fun i1 first at1 h=>?_) (fun e2 tl1 ih1 i1 first at1 h=>?_) y 0 (i:Int) ([yM,yM]) ⟨J,h⟩) (bf J)
   ·obtain⟨hx1,h⟩:=h
    refine eY hx1 J<|ap<|aE<|T (bR Nu J J bz (.tail _ (.tail _ (.head _))) (Y J))<|bg E5 ua cj J<|bg AV qr cj J<|T (Km (r:=cI) (ys:=[e1.L,e1.R]) (xs:=[.tmp 65,.tmp 67]) Tryz.underlying216 cj J Nu J J ⟨(Y J),(Y J),O⟩)<|T (LP ad0 (Y J) (Y J))<|aY ?_;refine ap<|gp h J (fun h=>?_) (fun h=>?_)
    ·exact Z<|dO cI<|ca<|cK<|af<|bT<|af<|bT<|aG<|aG<|aG<|so h▸bH J J J
    ·refine dZ<|ax J<|Q J<|T (aI (r:=cI) (ys:=[first]) (xs:=[.tmp 71]) fz cj J J J J J ⟨(Y J),O⟩)<|ci h fun all1 q_all1 h=>bW cj J J J J fz J J (Y J) (Y J) q_all1 fun l2 c2=>aC J<|au<|Q J<|Q J<|T (fO fz (.tail _ (.head _)) (Y J))<|Q J<|T (dX (Y J) (Y J))<|ci h fun y1 q_y1 h=>T (mj fz cj J (.tail _ (.head _)) (Y J) (Y J) q_y1)<|Q J<|T (aI (r:=cI) (ys:=[(i:Int)]) (xs:=[.tmp 80]) fz cj J J J J J ⟨(Y J),O⟩)<|bu<|xJ q_y1 ?_;refine ci h fun open2 q_open2 h=>bW cj J J J J fz J J (Y J) (Y J) q_open2 fun l3 c3=>dC J<|aY<|dR V hN J<|aP<|aG<|bK ?_;exact aR (aD (ih (i+1) all1 l2 c2 open2 l3 c3 ⟨cH V,h⟩) (bf J))
   ·obtain⟨hx1,h⟩:=h
    refine eX hx1 J<|aA<|am<|ax J<|T (Ju fz cj J (.tail _ (.head _)) q_y (Y J) (Y J) (cD hx1))<|T (eE (r:=cI) (i:=((IntKind.i64.wrap ((open1.length:Int)-r))+(i1:Int))) (foff:=0) cj J J bz J (.tail _ (.head _)) (Hf q_y (cD hx1)).1 (Y J))<|dC J<|aC J<|ci h fun e3 q_e3 h=>ci h fun e4 q_e4 h=>ci h fun ar q_ar h=>?_
    refine lS 10 [tc (bD (i1:Int)),tc (bD e2),tc (bD first),tc (my l c all),tc (bD e2),tc (tV (sa l (e2.toNat*1+0))),tc (bD e3),tc (bD (min first e3)),tc (tV (ba b1 ((i1:Int).toNat*1))),tc (Ap)] [false,false,false,false,false,false,false,false,false,true] [([],fun _=>[ff cI 3 l c all,ff cI 3 l1 c1 open1,bx (qH cI 2) 216 b1 at1]),([9],fun sg=>[bx (qH cI 2) 216 b1 ar,ff cI 3 l c all,ff cI 3 l1 c1 open1])] (fun _=>J) mixed J J J J
     ⟨⟨[⟨12,fun _=>tD cI (i1:Int),none⟩],_,[[]],J,⟨(fun _=>J),O⟩,J,J,J,J,J,⟨fun sg=>ai J (gL J),O⟩⟩,
     ⟨⟨[⟨13,fun _=>tD cI e2,none⟩],_,[[]],J,⟨(fun _=>J),O⟩,J,J,J,J,J,⟨fun sg=>ai J (gL J),O⟩⟩,
     ⟨⟨[⟨11,fun _=>tD cI first,none⟩],_,[[],[9]],J,⟨(fun _=>J),O⟩,J,J,J,J,J,⟨fun sg=>ai J (gL J),fun sg=>ai J (gL J),O⟩⟩,
     ⟨⟨[⟨4,fun _=>tV (bw l c all.length),none⟩],_,[[],[9]],J,⟨(fun _=>J),O⟩,J,J,J,J,J,⟨fun sg=>ai J (gL J),fun sg=>ai J (gL J),O⟩⟩,
     ⟨⟨[⟨13,fun _=>tD cI e2,none⟩],_,[[],[9]],J,⟨(fun _=>J),O⟩,J,J,J,J,J,⟨fun sg=>ai J (gL J),fun sg=>ai J (gL J),O⟩⟩,
     ⟨⟨[⟨56,fun _=>tV (bw l c all.length),some 3⟩,⟨57,fun _=>tD cI e2,some 4⟩],_,[[],[9]],J,⟨(fun _=>J),(fun _=>J),O⟩,J,J,J,J,J,⟨fun sg=>ai J (cn fz cj (.head _) (Y J) (Y J) q_e3),fun sg=>ai J (cn fz cj (.tail _ (.head _)) (Y J) (Y J) q_e3),O⟩⟩,
     ⟨⟨[⟨58,fun _=>tV (sa l (e2.toNat*1+0)),some 5⟩],_,[[],[9]],J,⟨(fun _=>J),O⟩,J,J,J,J,J,⟨fun sg=>ai J (eE (r:=cI) (i:=e2) (foff:=0) cj J J bz J (.head _) q_e3 (Y J)),fun sg=>ai J (eE (r:=cI) (i:=e2) (foff:=0) cj J J bz J (.tail _ (.head _)) q_e3 (Y J)),O⟩⟩,
     ⟨⟨[⟨55,fun _=>tD cI first,some 2⟩,⟨59,fun _=>tD cI e3,some 6⟩],_,[[],[9]],J,⟨(fun _=>J),(fun _=>J),O⟩,J,J,J,J,J,⟨fun sg=>ai J (LR (Y J) (Y J)),fun sg=>ai J (LR (Y J) (Y J)),O⟩⟩,
     ⟨⟨[⟨10,fun _=>tV (ba b1 0),none⟩,⟨53,fun _=>tD cI (i1:Int),some 0⟩],_,[[]],J,⟨(fun _=>J),(fun _=>J),O⟩,J,J,J,J,J,⟨fun sg=>ai J (Jt Tryz.underlying216 cj (.tail _ (.tail _ (.head _))) (Y J) (Y J) q_e4),O⟩⟩,
     ⟨⟨[⟨61,fun _=>tV (ba b1 ((i1:Int).toNat*1)),some 8⟩,⟨54,fun _=>tD cI e2,some 1⟩],_,[([],[9])],J,⟨(fun _=>J),(fun _=>J),O⟩,J,J,J,J,J,⟨fun sg=>dS J (EffOK.fr2 (QQ cj J q_e4 (so q_ar) (Y J) (Y J))),O⟩⟩,
     O⟩⟩⟩⟩⟩⟩⟩⟩⟩⟩ (fun sg=>?_)
    refine(show RG _ _ _ _ [_,_,_] _ from ?_);refine dC J<|aY<|dR hx1 hN1 J<|aP<|aP ?_;exact aR (aD (ih1 (i1+1) (min first e3) ar ⟨cH hx1,h⟩) (bf J))

end Go.Proofs.YtpgjgkdpeagjbaaGreatDoor

