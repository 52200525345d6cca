/- cW of this claim: P1. -/
import Derived.Test.YtbmmihfagmchaaaGreatRcT
import Derived.Test.YtbmmihfagmchaaaGreatRcP0
set_option linter.all false
namespace Go.Proofs.YtbmmihfagmchaaaGreat
open Go
set_option maxRecDepth 100000

def AM e{R}(h:me e=some R):cK bh 24 [H af e] (cE R):=by
 refine ep Tryz.func24 M<|aV<|dh M<|dj<|cb<|bl<|bw aU M<|eu h QT (Kp _) (co M) fun r h=>bu M<|bZ M M<|bZ M M<|jy M<|aY M<|aZ M<|K (iY (D M)) ?_;refine dv h M (fun h=>?_) (fun h=>?_)
 ·exact aV<|fY<|an<|so h▸bB M M
 ·exact kF<|aV<|fY<|so h▸bB M M

def QG(l:Option Nat)(c:Nat) s{R}(h:iW s=some R):fz bh 51 [tB l c s] [fD cN 3 l c s] (fun i:OI=>tB (i.h 0).1 (i.h 0).2 R) (fun i=>[fD cN 3 (i.h 0).1 (i.h 0).2 R]):=by
 refine fz.of Tryz.func51 M M M fun w0 S0=>aV<|bL false cN 3<|K (bF tK)<|cb<|bl<|bu M<|K (fj gr (.tail _ (.head _)) (D M))<|K (mL (D M) hI)<|dv h M (fun h=>?_) (fun h=>?_)
 ·exact aZ M<|bG M<|an<|aN<|so h▸m9 M (oi l c) M M (fun _ _ h=>h)
 ·refine kF<|bl<|dj<|cb<|av<|gj (.tail _ (.head _)) fun hN=>cd<|pu ?_;refine aP (jq (h3:=fun ls i=>(s.drop i=ls)/\eD s ls i=some R) (Of:=fun _ i=>[fD cN 3 l c s]) (Gf:=fun _ i=>[(0,tB l c s),(3,cE (i:Int))]) (fun i h=>?_) (fun e tl ih i h=>?_) (s.drop (1)) 1 ⟨M,h⟩) (bv M)
  ·obtain⟨I,h⟩:=h
   exact kw<|bl<|bu M<|bu M<|K (fj gr (.head _) (D M))<|zD M<|cb<|xx (D M) (NI I)<|iz<|aM<|aM<|dW<|aB<|aZ M<|bG M<|so h▸m9 M (oi l c) M M (fun _ _ h=>h)
  ·obtain⟨I,h⟩:=h
   refine kw<|bl<|bu M<|bu M<|K (fj gr (.head _) (D M))<|zD M<|cb<|xw (D M) (KK I)<|kF<|aI<|av<|aI<|cC h fun e1 q_e1 h=>?_
   refine hD (ts:=[_,_,_,_,_,_,_,_,_,_]) mixed M M
    ⟨iJ M M,
    ⟨iJ M M,
    ⟨gg 16 0 17 1 M M M (bX gr ck (.head _) (D M) (D M) (fy I)),
    ⟨fb 18 2 M M (dm (r:=cN) (i:=(i:Int)) (foff:=0) ck M M bO M (.head _) (fy I) (D M)),
    ⟨iJ M M,
    ⟨iJ M M,
    ⟨fb 21 5 M M (gc (D M) hI),
    ⟨gg 20 4 22 6 M M M (bX gr ck (.head _) (D M) (D M) q_e1),
    ⟨fb 23 7 M M (dm (r:=cN) (i:=(IntKind.i64.wrap ((i:Int)-(1:Int)))) (foff:=0) ck M M bO M (.head _) q_e1 (D M)),
    ⟨gg 19 3 24 8 M M M (gZ (D M) (D M)),
    aR⟩⟩⟩⟩⟩⟩⟩⟩⟩⟩ ?_
   refine aB<|oH h M (fun h=>?_) (fun h=>?_)
   ·refine aZ M<|bu M<|cC h fun y q_y h=>K (pJ gr ck M (.head _) (D M) (D M) q_y)<|oC (.head _) q_y fun hv=>aY M<|bl<|dj<|cb<|av<|cd ?_;refine aP (HQ (h3:=fun k1 i1 s1 k=>(y.length-i1=k1)/\dJ i y k1 i1 s1 k=some R) (Of:=fun _ i1 s1 k=>[fD cN 3 l c s1]) (Gf:=fun _ i1 s1 k=>[(0,tB l c s1),(3,cE k),(4,tV (mR 1 l c (i:Int).toNat y.length)),(5,cE (i1:Int))]) (fun i1 s1 k h=>?_) (fun k2 ih1 i1 s1 k h=>?_) (y.length-1) 1 s (i:Int) ⟨M,h⟩) (bv M)
    ·obtain⟨hx1,h⟩:=h
     refine kw<|bl<|bu M<|bu M<|K (Hi gr hv.1 (D M))<|zD M<|cb<|xx (D M) (Qo hx1)<|iz<|aM<|aM<|dW<|aB<|aZ M<|bu M<|cC h fun y1 q_y1 h=>K (pJ gr ck M (.head _) (D M) (D M) q_y1)<|oC (.head _) q_y1 fun hv1=>cC h fun cl q_cl h=>?_;exact IV ck M M gr (fun _=>M) M q_y1 (D M) (so q_cl)<|gA (Ck q_y1 (so q_cl)) 0 M<|gA (Ck q_y1 (so q_cl)) 54 M<|cb<|aZ M<|bu M<|cC h fun y2 q_y2 h=>K (nE gr ck M (.head _) (D M) (D M) q_y2)<|yl q_y2<|bG M<|eN<|an<|eN<|so h▸m9 M (oi l c) M M (fun _ _ h=>h)
    ·obtain⟨hx1,h⟩:=h
     refine kw<|bl<|bu M<|bu M<|K (Hi gr hv.1 (D M))<|zD M<|cb<|xw (D M) (Qn hx1)<|kF<|aI<|av<|aI<|cC h fun e3 q_e3 h=>cC h fun e4 q_e4 h=>?_
     refine hD (ts:=[_,_,_,_,_,_,_,_,_,_]) mixed M M
      ⟨iJ M M,
      ⟨iJ M M,
      ⟨gg 35 0 36 1 M M M (sf gr ck M (.head _) (xH q_y) (D M) (D M) q_e3),
      ⟨fb 37 2 M M (dm (r:=cN) (i:=((i:Int)+(i1:Int))) (foff:=0) ck M M bO M (.head _) (u6 q_e3).2.2 (D M)),
      ⟨iJ M M,
      ⟨iJ M M,
      ⟨fb 40 5 M M (gc (D M) hI),
      ⟨gg 39 4 41 6 M M M (sf gr ck M (.head _) (xH q_y) (D M) (D M) q_e4),
      ⟨fb 42 7 M M (dm (r:=cN) (i:=((i:Int)+(IntKind.i64.wrap ((i1:Int)-(1:Int))))) (foff:=0) ck M M bO M (.head _) (u6 q_e4).2.2 (D M)),
      ⟨gg 38 3 43 8 M M M (jt (D M) (D M)),
      aR⟩⟩⟩⟩⟩⟩⟩⟩⟩⟩ ?_
     refine aB<|oH h M (fun h=>?_) (fun h=>?_)
     ·refine aZ M<|bu M<|bu M<|bu M<|cC h fun e5 q_e5 h=>K (sf gr ck M (.head _) (xH q_y) (D M) (D M) q_e5)<|K (dm (r:=cN) (i:=((i:Int)+(i1:Int))) (foff:=0) ck M M bO M (.head _) (u6 q_e5).2.2 (D M))<|cC h fun e6 q_e6 h=>K (bX gr ck (.head _) (D M) (D M) q_e6)<|cC h fun st q_st h=>ku ck M ac M q_e6 (so q_st) (D M) (D M)<|gA (d8 (so q_st)) 0 M<|gA (d8 (so q_st)) 45 M<|cb<|aG<|bu M<|K (lD (D M) hI)<|jy M<|bt<|bj<|aB ?_;refine aG<|bu M<|K (wX (LT hx1 (Qq hv.2)) (D M) hI)<|jy M<|bt ?_;exact bg (aP (ih1 (i1+1) st (IntKind.i64.wrap (k+(1:Int))) ⟨LS hx1,h⟩) (bv M))
     ·refine cc<|bj<|aB<|aG<|bu M<|K (wX (LT hx1 (Qq hv.2)) (D M) hI)<|jy M<|bt ?_;exact bg (aP (ih1 (i1+1) s1 k ⟨LS hx1,h⟩) (bv M))
   ·refine cc<|PO I hN M ?_;exact bg (aP (ih (i+1) ⟨dH I,h⟩) (bv M))

def Dc e{R}(h:kq e=some R):gP bh 56 [H af e] false cN 3 R:=by
 refine gP.of Tryz.func56 M M M fun w0 S0=>aV<|dh M<|bL false cN 3<|K (bF tK)<|cb<|bl<|bw aU M<|eu h KT (AM _) (co M) fun r h=>lH M<|dv h M (fun h=>?_) (fun h=>?_)
 ·exact aV<|bL false cN 3<|K (bF tK)<|da<|an<|so h▸hG M M
 ·refine kF<|aV<|bL false cN 3<|K (bF tK)<|cb<|bl<|bP dq cG iU M<|cA na M<|K (ci hI)<|cb<|av<|bA (k:=10) M fun hN=>cd<|dn<|pu ?_;refine aP (rf (h3:=fun ls i out l c=>(e.Nodes.drop i=ls)/\iw ls out=some R) (Of:=fun _ i out l c=>[fD cN 3 l c out]) (Gf:=fun _ i out l c=>[(3,tB l c out),(10,gk (ap) e.Nodes),(11,jw e.Nodes),(12,cE (i:Int))]) (fun i out l c h=>?_) (fun e1 tl ih i out l c h=>?_) e.Nodes 0 y0 none 0 ⟨M,h⟩) (bv M)
  ·obtain⟨I,h⟩:=h
   refine fa I M<|aB<|aZ M<|cC h fun srt q_srt h=>?_;refine K5 (n:=out.length) (ys:=srt) Dr ?_ SG ?_ ?_ ?_ ?_ ?_
   ·rfl
   ·exact q_srt
   ·exact(D M)
   ·rfl
   ·rfl
   intro hl
   refine Fj hl 3 M<|Fj hl 25 M<|cb<|aZ M<|cC h fun r1 q_r1 h=>xr [fD cN 3 l c srt] _ M SF (QG l c _ q_r1) ⟨(D M),aR⟩ M fun i1=>?_;refine(show RG _ _ _ _ [_] ((28,tB (i1.h 0).1 (i1.h 0).2 r1)::_)from ?_);exact bG M<|so h▸hG M M
  ·obtain⟨I,h⟩:=h
   refine eZ I M<|aI<|av<|aV<|gF na fc M (fy I)<|aA fc iB M fun b=>aO fc ac M<|aD 5 M<|cb<|aV<|pB lF eH M ?_;refine bw ck M<|dz M<|dv h M (fun h=>?_) (fun h=>?_)
   ·refine aG<|bu M<|bP oZ ie ck M<|K (aW (r:=cN) (ys:=[e1.Col]) (xs:=[.tmp 21]) gr ck M M M M M ⟨(D M),aR⟩)<|cC h fun out1 q_out1 h=>dE ck M M M M gr M M (D M) (D M) q_out1 fun l2 c2=>jy M<|bt<|dU I hN M ?_;exact bg (aP (ih (i+1) out1 l2 c2 ⟨dH I,h⟩) (bv M))
   ·refine cc<|dU I hN M ?_;exact bg (aP (ih (i+1) out l c ⟨dH I,h⟩) (bv M))
def Dd s{R}(h:cu s=some R):gP bh 44 [lO s] false cN 3 R:=by
 refine gP.of Tryz.func44 M M M fun w0 S0=>aV<|bL false cN 3<|K (bF tK)<|cb<|bl<|bu M<|uM gr (D M) M fun isnil hisnil=>cb<|pw (D M) (fun hc=>?_) (fun hc=>?_)
 ·have I:=hisnil hc
  have h:some y0=some R:=by simpa [cu,jT,I] using h
  exact aV<|bL false cN 3<|K (bF tK)<|da<|an<|so h▸hG M M
 ·exact kF<|aV<|fC (r:=cN) (ys:=y0) (xs:=[]) gr ck M M M M M trivial M fun l c=>bu M<|cC h fun x q_x h=>dE ck M M M M gr M M (D M) (D M) q_x fun l1 c1=>bG M<|so h▸hG M M
def Kq s{R}(h:cu s=some R):cK bh 44 [lO s] (lO R):=(Dd _ h).spec

def QI{l:Option Nat}{c:Nat}{xs s:List Int}{lo:Int}{R}(hs:dk xs lo (xs.length:Int)=some s)(h:cu s=some R):fz bh 44 [tV (mR 1 l c lo.toNat s.length)] [fD cN 3 l c xs] (fun i:OI=>tB (i.h 0).1 (i.h 0).2 R) (fun i=>[fD cN 3 (i.h 0).1 (i.h 0).2 R,fD cN 3 l c xs]):=by
 refine fz.of Tryz.func44 M M M fun w0 S0=>aV<|K (bF tK)<|cb<|bl<|bu M<|Cp (r:=cN) gr (.head _) hs (D M) M fun isnil hisnil=>cb<|pw (D M) (fun hc=>?_) (fun hc=>?_)
 ·have I:=hisnil hc
  have h:some y0=some R:=by simpa [cu,jT,I] using h
  exact aV<|bL false cN 3<|K (bF tK)<|da<|an<|so h▸m9 M (oi none 0) M M (fun _ _ h=>h)
 ·exact kF<|aV<|fC (r:=cN) (ys:=y0) (xs:=[]) gr ck M M M M M trivial M fun l1 c1=>bu M<|cC h fun x q_x h=>A2 ck M M M M gr M M (D M) (.tail _ (.head _)) hs (D M) q_x fun l2 c2=>bG M<|so h▸m9 M (oi l2 c2) M M (fun _ _ h=>h)

def Pf(b:Nat)(l:Option Nat)(c:Nat) stack k{R}(h:ne stack k=some R):fz bh 158 [cE k,tV (ax b 0)] [bx rV 23 b (aL l c stack.length),fD cN 3 l c stack] (fun i:OI=>lO R.1) (fun i=>[bx rV 23 b (aL (i.h 0).1 (i.h 0).2 R.2.length),fD cN 3 (i.h 0).1 (i.h 0).2 R.2]):=by
 refine fz.of Tryz.func158 M M M fun w0 S0=>aV<|oI cN<|cb<|aV<|K (k5 eK (.head _) (D M))<|K (k5 eK (.head _) (D M))<|K (fj gr (.tail _ (.head _)) (D M))<|bu M<|K (gc (D M) (D M))<|cC h fun y q_y h=>K (pJ gr ck M (.tail _ (.head _)) (D M) (D M) q_y)<|oC (.tail _ (.head _)) q_y fun hv=>aT<|cC h fun r q_r h=>xr [fD cN 3 l c stack] _ M KQ (QI q_y q_r) ⟨(D M),aR⟩ M fun i=>?_;refine(show RG _ _ _ _ [_,_,_] _ from ?_);refine aY M<|aV<|K (k5 eK (.tail _ (.tail _ (.head _))) (D M))<|K (k5 eK (.tail _ (.tail _ (.head _))) (D M))<|K (fj gr (.tail _ (.head _)) (D M))<|bu M<|K (gc (D M) (D M))<|cC h fun y1 q_y1 h=>K (nE gr ck M (.tail _ (.head _)) (D M) (D M) q_y1)<|aT<|yl q_y1<|dy<|dd eK M ac M (D M) (BC (D M))<|cb<|aZ M<|aY M ?_;exact mo<|aJ<|o9<|fN 3 M<|fN 11 M<|fN 4 M<|fN 18 M<|pc 3 M<|aN<|bq<|bq<|so h▸m9 M (oi l c) M M (fun _ _ h=>h)

def Mu e do1{R}(h:m6 e do1=some R):cK bh 151 [H af e,(kK bh Lt Lp (fun(x:aj×(List Int))=>do1 x.1 x.2))] (tT [cE R.1,cE R.2]):=by
 refine ep Tryz.func151 M<|aV<|dh M<|dj<|dj<|cb<|Bc<|aV<|bL false cN 3<|aA (x:=aL none 0 0) eK (fun _=>JB) M fun b=>cb<|aV<|dj<|cb<|aV<|K (Ei (cts:=[tV (ax b 0)]) (caps:=[.tmp 6]) ⟨(D M),aR⟩)<|jy M ?_;refine cb<|aV<|dj<|cb<|aI<|Bd<|aB<|bl<|bP dq cG iU M<|cA na M<|K (ci hI)<|cb ?_;refine Cu (h3:=fun bad stack l c=>km bad stack=some R) (Of:=fun bad stack l c=>[bx rV 23 b (aL l c stack.length),fD cN 3 l c stack]) (Gf:=fun bad stack l c=>[(6,tV (ax b 0)),(7,cE 0),(9,cE bad)]) (fun bad stack l c h=>?_) (fun ah=>?_)
 ·skip
  refine aB<|bl<|bu M<|lH M<|dv h M (fun h=>?_) (fun h=>?_)
  ·exact aZ M<|bu M<|jy M<|bG M<|an<|qB<|aN<|aN<|so h▸fm M M M
  ·exact kF<|aV<|K (k5 eK (.head _) (D M))<|cC h fun e1 q_e1 h=>K (bX gr ck (.tail _ (.head _)) (D M) hI q_e1)<|K (dm (r:=cN) (i:=(0:Int)) (foff:=0) ck M M bO M (.tail _ (.head _)) q_e1 (D M))<|jy M<|fY<|qB<|aN<|aN<|so h▸fm M M M
 ·skip
  refine bA (k:=16) M fun hN=>cd ?_;refine aP (m8 (h3:=fun ls i bad1 stack1 l1 c1=>(e.Nodes.drop i=ls)/\gz do1 ls bad1 stack1=some R) (Of:=fun _ i bad1 stack1 l1 c1=>[bx rV 23 b (aL l1 c1 stack1.length),fD cN 3 l1 c1 stack1]) (Gf:=fun _ i bad1 stack1 l1 c1=>[(1,(kK bh Lt Lp (fun(x:aj×(List Int))=>do1 x.1 x.2))),(6,tV (ax b 0)),(7,cE 0),(8,tC 158 [tV (ax b 0)]),(9,cE bad1),(16,gk (ap) e.Nodes),(17,jw e.Nodes),(18,cE (i:Int))]) (fun i bad1 stack1 l1 c1 h=>?_) (fun e2 tl ih i bad1 stack1 l1 c1 h=>?_) e.Nodes 0 (0:Int) y0 none 0 ⟨M,h⟩) (bv M)
  ·obtain⟨I,h⟩:=h
   refine fa I M ?_;exact c9 (ah bad1 stack1 l1 c1 h) (bv M)
  ·obtain⟨I,h⟩:=h
   refine eZ I M<|aI<|av<|aV<|gF na fc M (fy I)<|aA fc iB M fun b1=>aO fc ac M<|aD 11 M<|cb<|aI<|cC h fun r q_r h=>cC h fun r1 q_r1 h=>?_;refine cC h fun r2 q_r2 h=>?_
   refine jN 12 [tc ((kK bh Lt Lp (fun(x:aj×(List Int))=>do1 x.1 x.2))),tc (H ap e2),tc (tC 158 [tV (ax b 0)]),tc (bC cN e2.Tag),tc (cE e2.Tag),tc (cE r),tc (lO r1.1),tc (tT [cE r2.1,cE r2.2]),tc (tT [cE r2.1,cE r2.2]),tc (cE r2.1),tc (cE r2.2),tc (cE r2.1)] [false,false,false,false,false,false,true,false,false,false,false,false] [fun _=>[bx rV 23 b (aL l1 c1 stack1.length),fD cN 3 l1 c1 stack1],fun sg=>[bx rV 23 b (aL ((sg 6).h 0).1 ((sg 6).h 0).2 r1.2.length),fD cN 3 ((sg 6).h 0).1 ((sg 6).h 0).2 r1.2]] M mixed M M M M M
    ⟨⟨[⟨1,fun _=>(kK bh N5 NY (fun(x:aj×(List Int))=>do1 x.1 x.2)),none⟩],_,0,1,M,⟨(fun _=>M),aR⟩,M,M,M,M,M,fun _ sg _ _=>ae M (nb M)⟩,
    ⟨⟨[⟨11,fun _=>bC ap e2,none⟩],_,0,1,M,⟨(fun _=>M),aR⟩,M,M,M,M,M,fun _ sg _ _=>ae M (pe fc M M)⟩,
    ⟨⟨[⟨8,fun _=>tC 158 [tV (ax b 0)],none⟩],_,0,0,M,⟨(fun _=>M),aR⟩,M,M,M,M,M,fun _ sg _ _=>ae M (nb M)⟩,
    ⟨⟨[⟨11,fun _=>bC ap e2,none⟩],_,0,0,M,⟨(fun _=>M),aR⟩,M,M,M,M,M,fun _ sg _ _=>ae M (nN lF eH M M)⟩,
    ⟨⟨[⟨26,fun _=>bC cN e2.Tag,some 3⟩],_,0,0,M,⟨(fun _=>M),aR⟩,M,M,M,M,M,fun _ sg _ _=>ae M (pe ck M M)⟩,
    ⟨⟨[⟨27,fun _=>H cN e2.Tag,some 4⟩],_,0,0,M,⟨(fun _=>M),aR⟩,M,M,M,M,M,fun _ sg _ _=>ae M (cm Na (Db _ q_r) ⟨(D M),aR⟩)⟩,
    ⟨⟨[⟨25,fun _=>tC 158 [tV (ax b 0)],some 2⟩,⟨28,fun _=>H cN r,some 5⟩],_,M,⟨(fun _=>M),(fun _=>M),aR⟩,M,M,M,fun sg=>cD M (EffOK.fr1 (EffOK.fr1 (yf (xs:=[.tmp 28]) (ts:=[H cN r]) (cts:=[tV (ax b 0)]) [bx rV 23 b (aL l1 c1 stack1.length),fD cN 3 l1 c1 stack1] _ M Q0 (Pf b l1 c1 _ _ q_r1) (D M) ⟨(D M),aR⟩ (fun _=>M))))⟩,
    ⟨⟨[⟨23,fun _=>(kK bh N5 NY (fun(x:aj×(List Int))=>do1 x.1 x.2)),some 0⟩,⟨24,fun _=>H ap e2,some 1⟩,⟨29,fun _=>H vN r1.1,some 6⟩],_,1,1,M,⟨(fun _=>M),(fun _=>M),(fun _=>M),aR⟩,M,M,M,M,M,fun _ sg _ _=>ae M (mZ (args:=N5) (res:=NY) (f:=(fun(x:aj×(List Int))=>do1 x.1 x.2)) (x:=((e2,r1.1):aj×(List Int))) (D M) q_r2 ⟨(D M),(D M),aR⟩)⟩,
    ⟨⟨[⟨30,fun _=>tT [H cN r2.1,H cN r2.2],some 7⟩],_,1,1,M,⟨(fun _=>M),aR⟩,M,M,M,M,M,fun _ sg _ _=>ae M (nb M)⟩,
    ⟨⟨[⟨22,fun _=>tT [H cN r2.1,H cN r2.2],some 8⟩],_,1,1,M,⟨(fun _=>M),aR⟩,M,M,M,M,M,fun _ sg _ _=>ae M (Bh M M)⟩,
    ⟨⟨[⟨22,fun _=>tT [H cN r2.1,H cN r2.2],some 8⟩],_,1,1,M,⟨(fun _=>M),aR⟩,M,M,M,M,M,fun _ sg _ _=>ae M (Bh M M)⟩,
    ⟨⟨[⟨31,fun _=>H cN r2.1,some 9⟩],_,1,1,M,⟨(fun _=>M),aR⟩,M,M,M,M,M,fun _ sg _ _=>ae M (Bi M)⟩,
    aR⟩⟩⟩⟩⟩⟩⟩⟩⟩⟩⟩⟩ (fun sg=>?_)
   refine(show RG _ _ _ _ [_,_] _ from ?_);refine aY M<|bl<|bu M<|lH M<|dv h M (fun h=>?_) (fun h=>?_)
   ·refine aZ M<|aY M<|iz<|aM<|bY M<|aM<|aM<|dW ?_;exact c9 (ah r2.2 r1.2 ((sg 6).h 0).1 ((sg 6).h 0).2 h) (bv M)
   ·refine kF<|aG<|K (k5 eK (.head _) (D M))<|bu M<|K (aW (r:=cN) (ys:=[r2.1]) (xs:=[.tmp 37]) gr ck M M M M M ⟨(D M),aR⟩)<|aT<|cC h fun l2 q_l2 h=>dE ck M M M M gr M M (D M) (D M) q_l2 fun l3 c2=>aT<|dd eK M ac M (D M) (BC (D M))<|bt<|dU I hN M ?_;exact bg (aP (ih (i+1) bad1 l2 l3 c2 ⟨dH I,h⟩) (bv M))

def Kn tag{R}(h:pZ tag=some R):cK bh 74 [cE tag] (gC R):=by
 exact ep Tryz.func74 M<|aV<|cn<|cb<|aZ M<|dz M<|bu M<|cw M (fV M)<|cw M (fun T=>gX (df M T) hI)<|cw M (yA M)<|mh M M M M (fun T=>nb M)<|mh M M M M (fun T=>oV (df M T) hI)<|cw M (fun T=>qW (df M T) (fun V=>(df M (Dq T V))))<|nv M<|bG M<|so h▸bB M M

def Mt kinds n l{R}(h:iH kinds n l=some R):cK bh 152 [H ap n,lO l,bC px kinds] (tT [cE R.1,cE R.2]):=by
 refine ep Tryz.func152 M<|aV<|dh M<|dj<|dj<|cb<|aV<|dj<|cb<|bl<|bu M<|cA gr M<|K (ci hI)<|cb<|av<|bA (k:=12) M fun hN=>cd ?_;refine aP (jp (h3:=fun ls i own=>(l.drop i=ls)/\kp kinds n ls own=some R) (Of:=fun _ i own=>[]) (Gf:=fun _ i own=>[(2,bC px kinds),(3,bC ap n),(7,cE own),(12,lO l),(13,jw l),(14,cE (i:Int))]) (fun i own h=>?_) (fun e tl ih i own h=>?_) l 0 (0:Int) ⟨M,h⟩) (bv M)
 ·obtain⟨I,h⟩:=h
  refine fa I M<|aB<|aZ M<|aY M<|aV<|dj<|cb ?_;refine aI<|av<|aV<|bP lF eH ck M<|dz M<|aY M<|oH h M (fun h=>?_) (fun h=>?_)
  ·exact aV<|pB ya kS M<|bP yb tk ck M<|jy M<|fY<|eN<|so h▸fm M M M
  ·refine aV<|bP lF eH ck M<|dz M<|aY M<|oH h M (fun h=>?_) (fun h=>?_)
   ·exact aV<|bw eK M<|bP oZ ie ck M<|cC h fun e1 q_e1 h=>gF gr ck M q_e1<|jy M<|fY<|eN<|so h▸fm M M M
   ·refine aV<|bP lF eH ck M<|eu h QS (Kn _) (co M) fun r h=>aY M<|oH h M (fun h=>?_) (fun h=>?_)
    ·refine aG<|dj<|dj<|bt<|bj<|aB<|bl<|bu M<|dz M<|bu M<|cw M (fV M)<|cw M (BR M)<|cw M (yA M)<|mh M M M M (fun T=>nb M)<|mh M M M M (fun T=>nb M)<|mh M M M M (fun T=>jt (df M T) (df M T))<|cw M (fun T=>qW (df M T) (fun V=>(df M (Dq T V))))<|nv M<|dv h M (fun h=>?_) (fun h=>?_)
     ·exact aV<|dj<|fY<|an<|so h▸fm M M M
     ·exact kF<|aZ M<|jy M<|fY<|so h▸fm M M M
    ·refine aV<|bP lF eH ck M<|dz M<|bu M<|cw M (ez lF eH M M)<|cw M (ev ck M M)<|cw M (nw M)<|nv M<|bu M<|cw M (ez lF eH M M)<|cw M (ev ck M M)<|cw M (nw M)<|nv M<|aY M<|oH h M (fun h=>?_) (fun h=>?_)
     ·refine aG<|dj<|bt<|bj<|aB<|bl<|bu M<|dz M<|bu M<|cw M (fV M)<|cw M (BR M)<|cw M (yA M)<|mh M M M M (fun T=>nb M)<|mh M M M M (fun T=>nb M)<|mh M M M M (fun T=>jt (df M T) (df M T))<|cw M (fun T=>qW (df M T) (fun V=>(df M (Dq T V))))<|nv M<|dv h M (fun h=>?_) (fun h=>?_)
      ·exact aV<|dj<|fY<|an<|so h▸fm M M M
      ·exact kF<|aZ M<|jy M<|fY<|so h▸fm M M M
     ·refine cc<|bj<|aB<|bl<|bu M<|dz M<|bu M<|cw M (fV M)<|cw M (BR M)<|cw M (yA M)<|mh M M M M (fun T=>nb M)<|mh M M M M (fun T=>nb M)<|mh M M M M (fun T=>jt (df M T) (df M T))<|cw M (fun T=>qW (df M T) (fun V=>(df M (Dq T V))))<|nv M<|dv h M (fun h=>?_) (fun h=>?_)
      ·exact aV<|dj<|fY<|an<|so h▸fm M M M
      ·exact kF<|aZ M<|jy M<|fY<|so h▸fm M M M
 ·obtain⟨I,h⟩:=h
  refine eZ I M<|aI<|av<|aV<|gF gr ck M (fy I)<|aY M<|av<|aZ M<|dz M ?_;refine bu M<|cw M (fV M)<|cw M (fV M)<|cw M (fun T=>gZ (df M T) (df M T))<|nv M<|aY M<|oH h M (fun h=>?_) (fun h=>?_)
  ·refine cc<|bj<|dU I hN M ?_;exact bg (aP (ih (i+1) own ⟨dH I,h⟩) (bv M))
  ·refine aZ M<|dz M<|aY M<|oH h M (fun h=>?_) (fun h=>?_)
   ·refine aG<|bu M<|jy M<|bt<|bj<|dU I hN M ?_;exact bg (aP (ih (i+1) e ⟨dH I,h⟩) (bv M))
   ·refine aG<|dj<|bt<|bj<|dU I hN M ?_;exact bg (aP (ih (i+1) pA ⟨dH I,h⟩) (bv M))

def Df e kinds{R}(h:qy e kinds=some R):cK bh 132 [H af e,lO kinds] (tT [cE R.1,cE R.2]):=by
 refine ep Tryz.func132 M<|aV<|dh M<|dh M<|dj<|dj<|cb<|bl<|bw aU M<|eu h KT (AM _) (co M) fun r h=>aY M<|aZ M<|lH M<|cb ?_;refine oH h M (fun h=>?_) (fun h=>?_)
 ·exact aZ M<|dj<|bG M<|an<|so h▸fm M M M
 ·refine kF<|bl<|bw eK M<|cA gr M<|K (ci hI)<|cb<|av<|bA (k:=16) M fun hN=>cd ?_;refine aP (jq (h3:=fun ls i=>(kinds.drop i=ls)/\oq e kinds ls=some R) (Of:=fun _ i=>[]) (Gf:=fun _ i=>[(2,bC af e),(3,bC px kinds),(16,lO kinds),(17,jw kinds),(18,cE (i:Int))]) (fun i h=>?_) (fun e1 tl ih i h=>?_) kinds 0 ⟨M,h⟩) (bv M)
  ·obtain⟨I,h⟩:=h
   refine fa I M<|aB<|bl<|bw aU M<|ri h Pq (Dc _) (co M) fun r1 h l c=>K (fj gr (.head _) (D M))<|K (ci hI)<|cb<|av ?_;refine gj (.head _) fun hN1=>cd ?_;refine aP (jq (h3:=fun ls1 i1=>(r1.drop i1=ls1)/\kW e kinds ls1=some R) (Of:=fun _ i1=>[fD cN 3 l c r1]) (Gf:=fun _ i1=>[(2,bC af e),(3,bC px kinds),(30,tB l c r1),(31,jw r1),(32,cE (i1:Int))]) (fun i1 h=>?_) (fun e2 tl1 ih1 i1 h=>?_) r1 0 ⟨M,h⟩) (bv M)
   ·obtain⟨hx1,h⟩:=h
    refine fa hx1 M<|aB<|aV<|bw aU M<|K ((show bT _ _ _ _ ((kK bh Lt Lp (fun(x:aj×(List Int))=>(iH kinds) x.1 x.2)))from rx (cts:=[bC px kinds]) (caps:=[.tmp 3]) Q4 ⟨(D M),aR⟩ (fun x y h=>Mt _ _ _ h)))<|eu h Q5 (Mu _ _) (co M) fun r2 h=>bZ M M<|bZ M M<|jy M<|jy M<|bt ?_;exact aB<|mo<|aN<|so h▸fm M M M
   ·obtain⟨hx1,h⟩:=h
    refine eZ hx1 M<|aI<|av<|aV<|K (bX gr ck (.head _) (D M) (D M) (fy hx1))<|K (dm (r:=cN) (i:=(i1:Int)) (foff:=0) ck M M bO M (.head _) (fy hx1) (D M))<|aY M<|aZ M<|bw eK M<|cA gr M ?_;refine K (gX (D M) (D M))<|dv h M (fun h=>?_) (fun h=>?_)
    ·exact aV<|dj<|fY<|eN<|an<|eN<|aN<|so h▸fm M M M
    ·refine cc<|dU hx1 hN1 M ?_;exact bg (aP (ih1 (i1+1) ⟨dH hx1,h⟩) (bv M))
  ·obtain⟨I,h⟩:=h
   refine eZ I M<|aI<|av<|aV<|gF gr ck M (fy I)<|aY M<|aZ M<|K (mL (D M) hI)<|bu M ?_;refine cw M (fV M)<|cw M (fun T=>uy (df M T) hI)<|nv M<|dv h M (fun h=>?_) (fun h=>?_)
   ·exact aV<|dj<|fY<|eN<|an<|eN<|so h▸fm M M M
   ·refine cc<|dU I hN M ?_;exact bg (aP (ih (i+1) ⟨dH I,h⟩) (bv M))

end Go.Proofs.YtbmmihfagmchaaaGreat

