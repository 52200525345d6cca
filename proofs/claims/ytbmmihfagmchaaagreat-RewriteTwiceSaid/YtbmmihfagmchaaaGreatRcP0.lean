/- cW of this claim: P0. -/
import Derived.Test.YtbmmihfagmchaaaGreatRcT
import Derived.Test.YtbmmihfagmchaaaGreatRcF
set_option linter.all false
namespace Go.Proofs.YtbmmihfagmchaaaGreat
open Go
abbrev N7:=fun(mc:au) (mx:aa)=>(gn mc mx).map fun mr=>(mr,mc)
abbrev N6:=fun(mc:au) (mx:aa)=>(gp mc mx).map fun mr=>(mr,mc)
abbrev Oc:=fun(mc:au) (mx:aa)=>(fx mc mx).map fun mr=>(mr,mc)
abbrev N8:=fun(mc:au) (mx:aa)=>(fS mc mx).map fun mr=>(mr,mc)
abbrev Od:=fun(mc:au) (mx:aa)=>(fe mc mx).map fun mr=>(mr,mc)
abbrev Oe:=fun(mc:au) (mx:aa)=>(eF mc mx).map fun mr=>(mr,mc)
abbrev Oa:=fun(mc:au) (mx:aa)=>(fQ mc mx).map fun mr=>(mr,mc)
abbrev N9:=fun(mc:au) (mx:aa)=>(fR mc mx).map fun mr=>(mr,mc)
abbrev Lw:=eM (eM (eM (eM (eM (eM (eM (eM ([]:List (Int×(au->aa->Option (((List Int)×Bool)×au)))) (1:Int) N7) (2:Int) N6) (3:Int) Oc) (4:Int) N8) (5:Int) Od) (6:Int) Oe) (7:Int) Oa) (8:Int) N9
abbrev kI:=(⟨[]⟩:ai)
abbrev Jm:=(⟨(0:Int),(0:Int),(0:Int),(0:Int),[],false,kI,[],[],[],[],(0:Int)⟩:aa)
abbrev cN:=rI .i64
abbrev yy:=fun(x:(List Int)×Bool)=>tT [lO x.1,gC x.2]
abbrev xC:=fun(x:aa)=>[H ak x]
abbrev Bg:=(⟨[]⟩:aw)
abbrev H0:=(⟨(0:Int),(0:Int),(0:Int),[]⟩:bN)
abbrev HY:=fun(x:am×Int)=>tT [H aq x.1,cE x.2]
abbrev pA:=(-1:Int)
abbrev PC:=(⟨(1:Int),pA,pA,(1:Int),[(2:Int)],false,kI,[],[],[],[],(0:Int)⟩:aa)
abbrev PB:=(⟨(1:Int),pA,pA,(0:Int),[(2:Int)],false,kI,[],[],[],[],(0:Int)⟩:aa)
abbrev xD:=fun(x:am×Bool)=>[H aq x.1,gC x.2]
abbrev rh:=fun(x:Bool)=>gC x
abbrev oF:=(⟨Bg,Jm,[]⟩:am)
abbrev vO:=gJ af
abbrev Lv:=fun(x:aj×(List ai))=>[H ap x.1,H vO x.2]
abbrev Lu:=fun(x:aj×(List ai))=>[H ap x.1,gk (af) x.2]
abbrev vP:=([]:List ai)
abbrev Jl:=(⟨(1:Int),(0:Int),(0:Int),[]⟩:bN)
abbrev Lt:=fun(x:aj×(List Int))=>[H ap x.1,lO x.2]
abbrev Ls:=fun(x:ai×Int)=>tT [H af x.1,H cN x.2]
abbrev Lr:=fun(x:gQ×gQ)=>[H dl x.1,H dl x.2]
abbrev Lq:=fun(x:ai×Int)=>tT [H af x.1,cE x.2]
abbrev Fz:=fun(x:Bool)=>H rB x
abbrev rU:=RY .i64
abbrev vN:=gJ cN
abbrev N5:=fun(x:aj×(List Int))=>[H ap x.1,H vN x.2]
abbrev y0:=([]:List Int)
abbrev Lp:=fun(x:Int×Int)=>tT [cE x.1,cE x.2]
abbrev N4:=fun(x:aa×aa)=>[H ak x.1,H ak x.2]
abbrev N3:=(⟨(16:Int),(0:Int),(0:Int),(0:Int),H0⟩:aj)
abbrev CI:=([]:List aj)
abbrev Jk:=fun(x:jU)=>[H eQ x]
abbrev NZ:=fun(x:ai×ai)=>[H af x.1,H af x.2]
abbrev Lo:=fun(x:aj)=>[H ap x]
abbrev NY:=fun(x:Int×Int)=>tT [H cN x.1,H cN x.2]
abbrev Bs:=gJ ak
abbrev Ln:=fun(x:ai)=>[H af x]
abbrev Jj:=fun(x:Int)=>[cE x]
abbrev Br:=gJ aq
abbrev Fy:=([]:List am)
abbrev Ll:=([]:List aa)
abbrev NX:=aL none 0 (Ll.length)
abbrev CH:=nQ cN 2
abbrev NW:=yI (fun y:Bool=>gC y)
abbrev Ji:=nQ vO 3
abbrev Lm:=([]:List gQ)
set_option maxRecDepth 100000

def MG k{R}(h:yL k=some R):cK bh 126 [cE k] (gC R):=by
 exact ep Tryz.func126 M<|aV<|cn<|cb<|aZ M<|dz M<|bu M<|cw M (fV M)<|cw M (nw M)<|nv M<|bu M<|cw M (fV M)<|cw M (nw M)<|nv M<|bG M<|so h▸bB M M

def MH k{R}(h:jH k=some R):cK bh 125 [cE k] (gC R):=by
 exact ep Tryz.func125 M<|aV<|cn<|cb<|aZ M<|eu h Rk (MG _) (co M) fun r h=>K (iY (D M))<|bG M<|so h▸bB M M

def Mw s f{R}(h:jQ s f=some R):cK bh 148 [lO s,(kK bh Jj rh (fun(x:Int)=>f x))] (cE R):=by
 refine ep Tryz.func148 M<|aV<|dj<|cb<|bl<|bu M<|cA gr M<|K (ci hI)<|cb<|av<|bA (k:=6) M fun hN=>cd ?_;refine aP (jq (h3:=fun ls i=>(s.drop i=ls)/\fg f ls i=some R) (Of:=fun _ i=>[]) (Gf:=fun _ i=>[(0,lO s),(1,(kK bh Jj rh (fun(x:Int)=>f x))),(7,jw s),(8,cE (i:Int))]) (fun i h=>?_) (fun e tl ih i h=>?_) s 0 ⟨M,h⟩) (bv M)
 ·obtain⟨I,h⟩:=h
  exact fa I M<|aB<|aV<|fY<|so h▸bB M M
 ·obtain⟨I,h⟩:=h
  refine eZ I M<|aI<|av<|aZ M<|aY M<|aZ M<|bu M<|bu M<|zE gr ck M (fy I) ?_;refine bw ck M<|cC h fun r q_r h=>K (mZ (args:=(fun(x:Int)=>[H cN x])) (res:=Fz) (f:=(fun(x:Int)=>f x)) (x:=((e):Int)) (D M) q_r ⟨(D M),aR⟩)<|dv h M (fun h=>?_) (fun h=>?_)
  ·exact aZ M<|bG M<|eN<|an<|eN<|so h▸bB M M
  ·refine cc<|dU I hN M ?_;exact bg (aP (ih (i+1) ⟨dH I,h⟩) (bv M))

def Hy s f{R}(h:dX s f=some R):cK bh 127 [lO s,(kK bh Jj rh (fun(x:Int)=>f x))] (gC R):=by
 exact ep Tryz.func127 M<|aV<|cn<|cb<|aZ M<|bu M<|eu h Q9 (Mw _ _) (co M) fun r h=>K (gX (D M) hI)<|bG M<|so h▸bB M M

def QC(b:Nat)(ix:OI) c n{R}(h:gn c n=some R):fz bh 91 [tV (ax b 0),H ak n] (dL b c ix) (fun _:OI=>tT [lO R.1,gC R.2]) (fun _=>(dL b c ix)):=by
 refine fz.of Tryz.func91 M M M fun w0 S0=>?_;refine(show CG _ _ _ [bx (rH bc [(1,aL (ix.h 0).1 (ix.h 0).2 c.kinds.length),(2,aL (ix.h 1).1 (ix.h 1).2 c.first.length)]) 102 b c,hX px 23 (ix.h 0).1 (ix.h 0).2 c.kinds,hX cN 3 (ix.h 1).1 (ix.h 1).2 c.first] _ from ?_);refine aV<|dh M<|oI cN<|cn<|cb<|aV<|K (bF (show aF _ _ _ ((kK bh Jj rh (fun(x:Int)=>jH x)))from(Mb Rl fun x y h=>MH _ h)))<|cb<|aV<|bP yd q8 ck M<|K (gX (D M) hI)<|bu M<|aE M (ez yd q8 M M)<|aE M (ev ck M M)<|aE M (fun T=>mL (df M T) hI)<|fZ M<|bu M<|aE M (ez pY kR M M) ?_;refine aE M (ev eK M M)<|aE M (p5 gr M)<|aE M (fun T=>gX (df M T) hI)<|fZ M<|bu M<|aE M (ez pY kR M M)<|aE M (ev eK M M)<|aE M (p5 gr M)<|aE M (fun T=>oV (df M T) hI)<|fZ M<|aY M<|aI<|cC h fun t q_t h=>?_
 obtain⟨r,h1t,h0t⟩:=og q_t
 have q_rg:=fun V=>(h1t V).1
 refine hD (ts:=[_,_,_,_,_,_,_,_,_,_,_,_]) mixed M M
  ⟨qd 3 M M (nN pY kR M M),
  ⟨jf 0 eK M M,
  ⟨iJ M M,
  ⟨fb 30 2 M M (nb M),
  ⟨tN 3 31 3 M M M (cz M M M M (fun T=>nN pY kR M M)),
  ⟨iM 32 4 31 3 M M M (cz M M M M (fun T=>ir eK M M (df M T))),
  ⟨tN 6 31 3 M M M (cz M M M M (fun T=>nb M)),
  ⟨BQ 33 5 34 6 31 3 M M M M (cz M M M M (fun T=>cm NP (Hy _ _ (q_rg T)) ⟨(df M T),(df M T),aR⟩)),
  ⟨iM 35 7 31 3 M M M (cz M M M M (fun T=>iY (df M T))),
  ⟨gg 31 3 36 8 M M M (dS (D M) (fun V=>(df M V)) (fun V=>(h1t V).2) h0t),
  ⟨fb 29 1 M M (Bi M),
  ⟨fb 37 9 M M (Bi M),
  aR⟩⟩⟩⟩⟩⟩⟩⟩⟩⟩⟩⟩ ?_
 exact aB<|mo<|aJ<|aJ<|aJ<|so h▸js (ts:=[lO n.Kinds,gC t]) (rvs:=[.tmp 4,.tmp 5]) M M ⟨aQ M,aQ M,aR⟩ qt M M

def Ky n{R}(h:j3 n=some R):gP bh 149 [tV (.slice none 0 0),cE n] false cN 3 R:=by
 refine gP.of Tryz.func149 M M M fun w0 S0=>aV<|bL false cN 3<|K (bF tK)<|cb ?_;refine I2 (h3:=kM n=some R) (Of:=[]) (Gf:=[(0,tV (.slice none 0 0)),(1,cE n)]) (fun h=>?_) (fun ah=>?_)
 ·skip
  refine I0 (h3:=fun s l c=>kL s=some R) (Of:=fun s l c=>[fD cN 3 l c s]) (Gf:=fun s l c=>[(0,tB l c s)]) (fun s l c h=>?_) (fun K1=>?_)
  ·skip
   exact aZ M<|bG M<|so h▸hG M M
  ·skip
   refine aZ M<|bu M<|K (B3 gr (D M))<|bu M<|K (B2 gr (D M))<|K (gc (D M) (D M))<|K (gc (D M) (D M))<|aY M<|aZ M<|K (uy (D M) hI)<|dv h M (fun h=>?_) (fun h=>?_)
   ·refine aG<|bu M<|bu M<|K (B3 gr (D M))<|K (Eh gr ck (D M) (D M))<|bu M<|cC h fun u q_u h=>cC h fun mk q_mk h=>GS (Fc (r:=cN) (x:=(0:Int)) ck M M M M gr qb (fun _=>M) (D M) (D M) (J8 q_u) q_mk) M fun i=>bu M<|K (B2 gr (D M))<|cC h fun y q_y h=>K (nE gr ck M (.head _) (D M) (D M) q_y)<|yl q_y<|jy M<|bt ?_;exact c9 (K1 y (i.h 0).1 (i.h 0).2 h) (bv M)
   ·refine cc<|Le false cN 3 ?_;exact c9 (K1 y0 none 0 h) (bv M)
 ·skip
  refine aZ M<|K (mL (D M) hI)<|dv h M (fun h=>?_) (fun h=>?_)
  ·refine aG ?_;exact(nn h).elim
  ·refine cc<|aN ?_;exact c9 (ah h) (bv M)
def KA slices{R}(h:hM slices=some R):gP bh 128 [gk (px) slices] false cN 3 R:=by
 refine gP.of Tryz.func128 M M M fun w0 S0=>aV<|bL false cN 3<|K (bF tK)<|cb<|aV<|dj<|cb<|bl<|bu M<|cA sY M<|K (ci hI)<|cb<|av<|bA (k:=9) M fun hN=>cd<|pu ?_;refine aP (jp (h3:=fun ls i size=>(slices.drop i=ls)/\io slices ls size=some R) (Of:=fun _ i size=>[]) (Gf:=fun _ i size=>[(0,gk (px) slices),(3,cE size),(9,gk (px) slices),(10,jw slices),(11,cE (i:Int))]) (fun i size h=>?_) (fun e tl ih i size h=>?_) slices 0 (0:Int) ⟨M,h⟩) (bv M)
 ·obtain⟨I,h⟩:=h
  refine fa I M<|aB<|aZ M<|ri h Q8 (Ky _) ⟨hV,(D M),aR⟩ fun r h l c=>aY M<|bl ?_;refine bu M<|cA sY M<|K (ci hI)<|cb<|av<|bA (k:=25) M fun hN1=>cd ?_;refine aP (rf (h3:=fun ls1 i1 newslice l1 c1=>(slices.drop i1=ls1)/\im ls1 newslice=some R) (Of:=fun _ i1 newslice l1 c1=>[fD cN 3 l1 c1 newslice]) (Gf:=fun _ i1 newslice l1 c1=>[(6,tB l1 c1 newslice),(25,gk (px) slices),(26,jw slices),(27,cE (i1:Int))]) (fun i1 newslice l1 c1 h=>?_) (fun e1 tl1 ih1 i1 newslice l1 c1 h=>?_) slices 0 r l c ⟨M,h⟩) (bv M)
  ·obtain⟨hx1,h⟩:=h
   exact fa hx1 M<|aB<|aZ M<|bG M<|so h▸hG M M
  ·obtain⟨hx1,h⟩:=h
   refine eZ hx1 M<|aI<|av<|aV<|gF sY eK M (fy hx1)<|aY M<|aG<|bu M<|bu M<|cC h fun newslice1 q_newslice1 h=>dE ck M M M M gr M M (D M) (D M) q_newslice1 fun l2 c2=>?_;refine jy M<|bt<|dU hx1 hN1 M ?_;exact bg (aP (ih1 (i1+1) newslice1 l2 c2 ⟨dH hx1,h⟩) (bv M))
 ·obtain⟨I,h⟩:=h
  refine eZ I M<|aI<|av<|aV<|gF sY eK M (fy I)<|aY M<|aZ M<|bu M<|cA gr M ?_;refine K (lD (D M) (D M))<|aY M<|aZ M<|K (mL (D M) hI)<|dv h M (fun h=>?_) (fun h=>?_)
  ·refine aG ?_;exact(nn h).elim
  ·refine cc<|dU I hN M ?_;exact bg (aP (ih (i+1) (IntKind.i64.wrap (size+(e.length:Int))) ⟨dH I,h⟩) (bv M))
def MF slices{R}(h:hM slices=some R):cK bh 128 [gk (px) slices] (lO R):=(KA _ h).spec

def Db tag{R}(h:nt tag=some R):cK bh 79 [cE tag] (cE R):=by
 refine ep Tryz.func79 M<|aV<|dj<|cb<|aI<|av<|aZ M<|dz M<|bu M<|cw M (fV M)<|cw M (nw M)<|nv M<|aY M<|oH h M (fun h=>?_) (fun h=>?_)
 ·exact aV<|fY<|eN<|so h▸bB M M
 ·refine aZ M<|K (gX (D M) hI)<|bu M<|aE M (fV M)<|aE M (fun T=>oV (df M T) hI)<|fZ M<|aY M<|oH h M (fun h=>?_) (fun h=>?_)
  ·exact aV<|fY<|eN<|so h▸bB M M
  ·refine aZ M<|K (gX (D M) hI)<|bu M<|aE M (fV M)<|aE M (fun T=>oV (df M T) hI)<|fZ M<|aY M<|oH h M (fun h=>?_) (fun h=>?_)
   ·exact aV<|fY<|eN<|so h▸bB M M
   ·exact cc<|bj<|aB<|aV<|fY<|so h▸bB M M

def Mr v{R}(h:uh v=some R):cK bh 155 [H dA v] (H dA R):=by
 refine ep Tryz.func155 M<|aV<|rN (D M) M fun b=>aA pU mQ M fun b1=>cb<|bl<|bJ 0 yb M<|K (be ck M M tk (.tail _ (.head _)) (D M))<|cb ?_;refine Cv (h3:=fun v1=>jg v1=some R) (Of:=fun v1=>[bx dA 61 b v1,bx dA 61 b1 H0]) (Gf:=fun v1=>[(1,tV (ax b 0)),(2,tV (ax b1 0))]) (fun v1 h=>?_) (fun ah=>?_)
 ·skip
  exact aB<|aV<|K (be pU M M bO (.head _) (D M))<|aT<|aO pU ac M<|aD 2 M<|da<|aN<|so h▸gR M pU M M M
 ·skip
  refine aI<|av<|aI<|av<|aI ?_;refine Cv (h3:=fun v2=>nT v2=some R) (Of:=fun v2=>[bx dA 61 b v2,bx dA 61 b1 H0]) (Gf:=fun v2=>[(1,tV (ax b 0)),(2,tV (ax b1 0))]) (fun v2 h=>?_) (fun K1=>?_)
  ·skip
   refine aB<|aV<|bJ 0 yb M<|dd ck M qL M (D M) hI<|cb<|iz<|bY M<|aM<|bY M<|aM<|dW ?_;exact c9 (ah (bN.mk (0:Int) v2.N v2.U v2.S) h) (bv M)
  ·skip
   refine aI ?_;refine I6 (h3:=nS v=some R) (Of:=[bx dA 61 b v,bx dA 61 b1 H0]) (Gf:=[(1,tV (ax b 0)),(2,tV (ax b1 0))]) (fun h=>?_) (fun K2=>?_)
   ·skip
    refine aB<|aG<|bJ 1 AJ M<|dd PF M s4 M (D M) hI<|bt<|bj ?_;exact c9 (K1 (bN.mk v.Kind (0:Int) v.U v.S) h) (bv M)
   ·skip
    refine aI<|av<|aI<|bl<|dz M<|aY M<|oH h M (fun h=>?_) (fun h=>?_)
    ·refine iz<|aM<|aM<|dW<|aB<|aV<|bJ 1 AJ M<|K (be PF M M wo (.tail _ (.head _)) (D M))<|lH M<|bu M<|aE M (fun T=>rW 1 AJ M M M)<|aE M (fun T=>be PF M M wo (.tail _ (.head _)) (df M T))<|aE M (BR M)<|fZ M<|dv h M (fun h=>?_) (fun h=>?_)
     ·refine iz<|bY M<|aM<|bY M<|aM<|bY M<|aM<|bY M<|aM<|dW<|bq ?_;exact c9 (ah v h) (bv M)
     ·refine cc<|bj<|bq ?_;exact c9 (K2 h) (bv M)
    ·refine kF<|bl<|dz M<|aY M<|oH h M (fun h=>?_) (fun h=>?_)
     ·refine iz<|aM<|aM<|bY M<|aM<|dW<|bq ?_;exact c9 (K2 h) (bv M)
     ·refine kF<|bl<|dz M<|aY M<|oH h M (fun h=>?_) (fun h=>?_)
      ·refine iz<|aM<|aM<|bY M<|aM<|bY M<|aM<|dW<|bq ?_;exact c9 (K1 v h) (bv M)
      ·refine kF<|bl<|dz M<|aY M<|oH h M (fun h=>?_) (fun h=>?_)
       ·refine iz<|aM<|aM<|bY M<|aM<|bY M<|aM<|bY M<|aM<|dW<|aB ?_;refine jd (h3:=fun v3=>nR v3=some R) (Of:=fun v3=>[bx dA 61 b v3,bx dA 61 b1 H0]) (Gf:=fun v3=>[(1,tV (ax b 0)),(2,tV (ax b1 0))]) (fun v3 h=>?_) (fun K3=>?_)
        ·skip
         refine iz<|bY M<|aM<|dW ?_;exact c9 (ah v3 h) (bv M)
        ·skip
         refine aV<|bJ 3 Gr M<|K (be PE M M th (.tail _ (.head _)) (D M))<|K (Hj DE (D M))<|K (oV (D M) hI)<|dv h M (fun h=>?_) (fun h=>?_)
         ·refine aG<|bJ 0 yb M<|aT<|dd ck M qL M (D M) hI<|bJ 3 Gr M<|dd PE M z7 M (D M) hS<|bt ?_;exact c9 (K3 (bN.mk (0:Int) v.N v.U ([])) h) (bv M)
         ·refine cc<|bq ?_;exact c9 (K3 v h) (bv M)
       ·refine kF<|aV<|dz M<|aY M<|oH h M (fun h=>?_) (fun h=>?_)
        ·refine iz<|aM<|bY M<|aM<|bY M<|aM<|bY M<|aM<|bY M<|aM<|dW<|aB<|aV<|bJ 0 yb M<|aT<|dd ck M qL M (D M) hI<|bJ 1 AJ M<|dd PF M s4 M (D M) hI<|bJ 2 OL M<|dd Qe M FP M (D M) hI<|cb<|iz ?_;refine dW ?_;exact c9 (ah (bN.mk (0:Int) (0:Int) (0:Int) v.S) h) (bv M)
        ·refine kF<|iz<|bY M<|aM<|bY M<|aM<|bY M<|aM<|bY M<|aM<|bY M<|aM<|dW<|bq ?_;exact c9 (ah v h) (bv M)

def Mz v{R}(h:rk v=some R):cK bh 142 [H dA v] (cE R):=by
 refine ep Tryz.func142 M<|aV<|dh M<|dj<|cb<|bl<|bw pU M<|eu h Q2 (Mr _) (co M) fun r h=>K (bR pU J9 mQ M)<|K (wW MR (D M) (D M))<|dv h M (fun h=>?_) (fun h=>?_)
 ·exact aV<|fY<|an<|so h▸bB M M
 ·exact kF<|aV<|fY<|so h▸bB M M

def MM v{R}(h:rj v=some R):cK bh 114 [H dA v] (gC R):=by
 exact ep Tryz.func114 M<|aV<|dh M<|cn<|cb<|aV<|bw pU M<|eu h Rc (Mz _) (co M) fun r h=>dz M<|bu M<|aE M (ez yb tk M M)<|aE M (ev ck M M)<|aE M (BR M)<|fZ M<|bG M<|so h▸bB M M

def OQ n{R}(h:rJ n=some R):cK bh 80 [H ap n] (gC R):=by
 refine ep Tryz.func80 M<|aV<|dh M<|cn<|cb<|bl<|bP lF eH ck M<|cb<|av<|aV<|dz M<|aY M<|oH h M (fun h=>?_) (fun h=>?_)
 ·exact aV<|bP ya kS pU M<|eu h Rt (MM _) (co M) fun r h=>bu M<|aE M (ez oZ ie M M)<|aE M (ev ck M M)<|aE M (nw M)<|fZ M<|bG M<|eN<|so h▸bB M M
 ·refine aV<|dz M<|aY M<|oH h M (fun h=>?_) (fun h=>?_)
  ·exact aV<|bP ya kS pU M<|K (bR pU J9 mQ M)<|K (CX MR (D M) (D M))<|bu M<|aE M (ez oZ ie M M)<|aE M (ev ck M M)<|aE M (fun T=>gX (df M T) hI)<|fZ M<|bu M<|aE M (ez oZ ie M M)<|aE M (ev ck M M)<|aE M (fun T=>mL (df M T) hI)<|fZ M<|bG M<|eN<|so h▸bB M M
  ·exact cc<|bj<|aB<|aV<|bP ya kS pU M<|K (bR pU J9 mQ M)<|K (CX MR (D M) (D M))<|bu M<|aE M (ez oZ ie M M)<|aE M (ev ck M M)<|aE M (nw M)<|fZ M<|bG M<|so h▸bB M M

def Kp e{R}(h:pO e=some R):cK bh 54 [H af e] (tT [lO R.1,gC R.2]):=by
 refine ep Tryz.func54 M<|aV<|dh M<|oI cN<|cn<|cb<|aV<|bL false cN 3<|K (bF tK)<|bL false cN 3<|K (bF tK)<|cb<|bl<|bP dq cG iU M<|cA na M<|K (ci hI)<|bt ?_;refine aB<|av<|bA (k:=15) M fun hN=>cd<|dn ?_;refine aP (Fm (h3:=fun ls i all l c open1 l1 c1=>(e.Nodes.drop i=ls)/\jm ls i all open1=some R) (Of:=fun _ i all l c open1 l1 c1=>[fD cN 3 l c all,fD cN 3 l1 c1 open1]) (Gf:=fun _ i all l c open1 l1 c1=>[(4,tB l c all),(5,tB l1 c1 open1),(15,gk (ap) e.Nodes),(16,jw e.Nodes),(17,cE (i:Int))]) (fun i all l c open1 l1 c1 h=>?_) (fun e1 tl ih i all l c open1 l1 c1 h=>?_) e.Nodes 0 y0 none 0 y0 none 0 ⟨M,h⟩) (bv M)
 ·obtain⟨I,h⟩:=h
  refine fa I M<|aB<|aZ M<|bu M<|K (fj gr (.tail _ (.head _)) (D M))<|dz M<|bu M<|aE M (fV M)<|aE M (fun T=>fj gr (.head _) (df M T))<|aE M (fun T=>oV (df M T) hI)<|fZ M ?_;exact jy M<|bG M<|o9<|fN 4 M<|fN 84 M<|fN 2 M<|pc 2 M<|aN<|aN<|so h▸fm M M M
 ·obtain⟨I,h⟩:=h
  refine eZ I M<|aI<|av<|aZ M<|gF na fc M (fy I)<|aA fc iB M fun b=>jy M<|aO fc ac M<|aD 7 M<|cb<|aI ?_;refine aG<|bP lF eH ck M<|eu h Na (Db _) (co M) fun r h=>aY M<|bl<|bu M<|K (mL (D M) hI)<|bu M<|cw M (fV M)<|cw M (fV M)<|cw M (fun T=>fj gr (.tail _ (.head _)) (df M T))<|cw M (fun T=>uy (df M T) (df M T))<|nv M<|bu M<|cC h fun t q_t h=>cw M (fun T=>pe fc M M) ?_
  obtain⟨r1,h1t,h0t⟩:=og q_t
  have q_r1g:=fun V=>(h1t V).1
  refine cw M (fun T=>cm Sl (OQ _ (q_r1g T)) ⟨(df M T),aR⟩)<|cw M (zG M)<|K (qV (D M) (fun V=>(df M (CY V))) (fun V=>(h1t V).2) h0t)<|dv h M (fun h=>?_) (fun h=>?_)
  ·exact aV<|oI cN<|cn<|da<|an<|eN<|an<|eN<|aN<|aN<|so h▸fm M M M
  ·refine kF<|aZ M<|bu M<|K (fj gr (.tail _ (.head _)) (D M))<|bu M<|K (gc (D M) (D M))<|cC h fun y q_y h=>K (pJ gr ck M (.tail _ (.head _)) (D M) (D M) q_y)<|oC (.tail _ (.head _)) q_y fun hv=>aY M<|aV<|K (u0 (r:=cN) (ys:=[pA,pA]) (xs:=[.const (.int .i64 (-1)),.const (.int .i64 (-1))]) zt ck M wG M M ⟨hI,hI,aR⟩)<|aA (r:=CH) (x:=(List.replicate 2 (0:Int))) wG (fun _=>AZ (r:=cN) 2 (fun _=>M) _) M fun b1=>aO wG ac M<|cb<|aV ?_;refine bu M<|aY M<|bl<|bu M<|K (LP gr (.tail _ (.tail _ (.head _))) q_y (D M))<|K (ci hI)<|cb<|av ?_
   have hN1:=hv.2
   refine cd<|fi<|fi ?_;refine aP (uO (h3:=fun ls1 i1 first at1=>(y.drop i1=ls1)/\ko (jm tl) i e1 all open1 r ls1 i1 first at1=some R) (Of:=fun _ i1 first at1=>[fD cN 3 l c all,fD cN 3 l1 c1 open1,bx CH 116 b1 at1]) (Gf:=fun _ i1 first at1=>[(4,tB l c all),(5,tB l1 c1 open1),(6,cE (i:Int)),(7,bC ap e1),(8,cE r),(10,tV (ax b1 0)),(11,cE first),(15,gk (ap) e.Nodes),(16,jw e.Nodes),(17,cE (i:Int)),(46,tV (mR 1 l1 c1 (IntKind.i64.wrap ((open1.length:Int)-r)).toNat y.length)),(47,jw y),(48,cE (i1:Int))]) (fun i1 first at1 h=>?_) (fun e2 tl1 ih1 i1 first at1 h=>?_) y 0 (i:Int) ([pA,pA]) ⟨M,h⟩) (bv M)
   ·obtain⟨hx1,h⟩:=h
    refine fa hx1 M<|aB<|bl<|K (be wG M M bO (.tail _ (.tail _ (.head _))) (D M))<|bP oj kU ck M<|bP oh kT ck M<|K (u0 (r:=cN) (ys:=[e1.L,e1.R]) (xs:=[.tmp 65,.tmp 67]) zt ck M wG M M ⟨(D M),(D M),aR⟩)<|K (wW QM (D M) (D M))<|bt ?_;refine aB<|oH h M (fun h=>?_) (fun h=>?_)
    ·exact aV<|oI cN<|cn<|da<|an<|eN<|an<|eN<|aN<|aN<|aN<|so h▸fm M M M
    ·refine kF<|aZ M<|bu M<|K (aW (r:=cN) (ys:=[first]) (xs:=[.tmp 71]) gr ck M M M M M ⟨(D M),aR⟩)<|cC h fun all1 q_all1 h=>dE ck M M M M gr M M (D M) (D M) q_all1 fun l2 c2=>aY M<|aG<|bu M<|bu M<|K (fj gr (.tail _ (.head _)) (D M))<|bu M<|K (gc (D M) (D M))<|cC h fun y1 q_y1 h=>K (nE gr ck M (.tail _ (.head _)) (D M) (D M) q_y1)<|bu M<|K (aW (r:=cN) (ys:=[(i:Int)]) (xs:=[.tmp 80]) gr ck M M M M M ⟨(D M),aR⟩)<|aT<|yl q_y1 ?_;refine cC h fun open2 q_open2 h=>dE ck M M M M gr M M (D M) (D M) q_open2 fun l3 c3=>jy M<|bt<|dU I hN M<|aJ<|aN<|bq ?_;exact bg (aP (ih (i+1) all1 l2 c2 open2 l3 c3 ⟨dH I,h⟩) (bv M))
   ·obtain⟨hx1,h⟩:=h
    refine eZ hx1 M<|aI<|av<|aZ M<|K (Bx gr ck M (.tail _ (.head _)) q_y (D M) (D M) (fy hx1))<|K (dm (r:=cN) (i:=((IntKind.i64.wrap ((open1.length:Int)-r))+(i1:Int))) (foff:=0) ck M M bO M (.tail _ (.head _)) (zU q_y (fy hx1)).1 (D M))<|jy M<|aY M<|cC h fun e3 q_e3 h=>cC h fun e4 q_e4 h=>cC h fun ar q_ar h=>?_
    refine jN 10 [tc (cE (i1:Int)),tc (cE e2),tc (cE first),tc (tB l c all),tc (cE e2),tc (tV (jn l (e2.toNat*1+0))),tc (cE e3),tc (cE (min first e3)),tc (tV (ax b1 ((i1:Int).toNat*1))),tc (vR)] [false,false,false,false,false,false,false,false,false,true] [fun _=>[fD cN 3 l c all,fD cN 3 l1 c1 open1,bx CH 116 b1 at1],fun sg=>[bx CH 116 b1 ar,fD cN 3 l c all,fD cN 3 l1 c1 open1]] M mixed M M M M M
     ⟨⟨[⟨12,fun _=>H cN (i1:Int),none⟩],_,0,0,M,⟨(fun _=>M),aR⟩,M,M,M,M,M,fun _ sg _ _=>ae M (nb M)⟩,
     ⟨⟨[⟨13,fun _=>H cN e2,none⟩],_,0,0,M,⟨(fun _=>M),aR⟩,M,M,M,M,M,fun _ sg _ _=>ae M (nb M)⟩,
     ⟨⟨[⟨11,fun _=>H cN first,none⟩],_,0,1,M,⟨(fun _=>M),aR⟩,M,M,M,M,M,fun _ sg _ _=>ae M (nb M)⟩,
     ⟨⟨[⟨4,fun _=>tV (aL l c all.length),none⟩],_,0,1,M,⟨(fun _=>M),aR⟩,M,M,M,M,M,fun _ sg _ _=>ae M (nb M)⟩,
     ⟨⟨[⟨13,fun _=>H cN e2,none⟩],_,0,1,M,⟨(fun _=>M),aR⟩,M,M,M,M,M,fun _ sg _ _=>ae M (nb M)⟩,
     ⟨⟨[⟨56,fun _=>tV (aL l c all.length),some 3⟩,⟨57,fun _=>H cN e2,some 4⟩],_,0,1,M,⟨(fun _=>M),(fun _=>M),aR⟩,M,M,M,M,M,xE (fun sg=>ae M (bX gr ck (.head _) (D M) (D M) q_e3)) (sw (fun sg=>ae M (bX gr ck (.tail _ (.head _)) (D M) (D M) q_e3)))⟩,
     ⟨⟨[⟨58,fun _=>tV (jn l (e2.toNat*1+0)),some 5⟩],_,0,1,M,⟨(fun _=>M),aR⟩,M,M,M,M,M,xE (fun sg=>ae M (dm (r:=cN) (i:=e2) (foff:=0) ck M M bO M (.head _) q_e3 (D M))) (sw (fun sg=>ae M (dm (r:=cN) (i:=e2) (foff:=0) ck M M bO M (.tail _ (.head _)) q_e3 (D M))))⟩,
     ⟨⟨[⟨55,fun _=>H cN first,some 2⟩,⟨59,fun _=>H cN e3,some 6⟩],_,0,1,M,⟨(fun _=>M),(fun _=>M),aR⟩,M,M,M,M,M,fun _ sg _ _=>ae M (ru (D M) (D M))⟩,
     ⟨⟨[⟨10,fun _=>tV (ax b1 0),none⟩,⟨53,fun _=>H cN (i1:Int),some 0⟩],_,0,0,M,⟨(fun _=>M),(fun _=>M),aR⟩,M,M,M,M,M,sw (fun sg=>ae M (ge zt ck (.tail _ (.tail _ (.head _))) (D M) (D M) q_e4))⟩,
     ⟨⟨[⟨61,fun _=>tV (ax b1 ((i1:Int).toNat*1)),some 8⟩,⟨54,fun _=>H cN e2,some 1⟩],_,M,⟨(fun _=>M),(fun _=>M),aR⟩,M,M,M,fun sg=>cD M (EffOK.fr2 (GA ck M q_e4 (so q_ar) (D M) (D M)))⟩,
     aR⟩⟩⟩⟩⟩⟩⟩⟩⟩⟩ (fun sg=>?_)
    refine(show RG _ _ _ _ [_,_,_] _ from ?_);refine jy M<|bt<|dU hx1 hN1 M<|aJ<|aJ ?_;exact bg (aP (ih1 (i1+1) (min first e3) ar ⟨dH hx1,h⟩) (bv M))

end Go.Proofs.YtbmmihfagmchaaaGreat

