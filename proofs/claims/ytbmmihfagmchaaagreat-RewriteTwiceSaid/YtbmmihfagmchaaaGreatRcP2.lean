/- cW of this claim: P2. -/
import Derived.Test.YtbmmihfagmchaaaGreatRcT
import Derived.Test.YtbmmihfagmchaaaGreatRcP1
set_option linter.all false
namespace Go.Proofs.YtbmmihfagmchaaaGreat
open Go
set_option maxRecDepth 100000

def Hx e kinds{R}(h:pM e kinds=some R):cK bh 129 [H af e,lO kinds] (gC R):=by
 refine ep Tryz.func129 M<|aV<|dh M<|cn<|cb<|aV<|bw aU M<|bu M<|eu h KU (Df _ _) (co M) fun r h=>bu M<|bZ M M<|bZ M M<|jy M<|aY M<|aZ M<|dz M ?_;exact bu M<|aE M (fV M)<|aE M (nw M)<|aE M (yA M)<|oA M M M M (fun T=>nb M)<|oA M M M M (fun T=>gZ (df M T) hI)<|aE M (fun T=>uZ (df M T) (fun V=>(df M (Dq T (CY V)))))<|fZ M<|bG M<|so h▸bB M M

def QB(b:Nat)(ix:OI) c n{R}(h:gp c n=some R):fz bh 92 [tV (ax b 0),H ak n] (dL b c ix) (fun _:OI=>tT [lO R.1,gC R.2]) (fun _=>(dL b c ix)):=by
 refine fz.of Tryz.func92 M M M fun w0 S0=>?_;refine(show CG _ _ _ [bx (rH bc [(1,aL (ix.h 0).1 (ix.h 0).2 c.kinds.length),(2,aL (ix.h 1).1 (ix.h 1).2 c.first.length)]) 102 b c,hX px 23 (ix.h 0).1 (ix.h 0).2 c.kinds,hX cN 3 (ix.h 1).1 (ix.h 1).2 c.first] _ from ?_);refine aV<|dh M<|oI cN<|cn<|cb<|aI<|cC h fun e q_e h=>cC h fun e1 q_e1 h=>cC h fun r q_r h=>?_
 refine hD (ts:=[_,_,_,_,_,_,_,_,_,_,_,_,_,_,_,_,_,_,_]) mixed M M
  ⟨iJ M M,
  ⟨fb 7 0 M M (gY (D M)),
  ⟨fb 8 1 M M (rW 1 lN M M M),
  ⟨fb 9 2 M M (gy qG M (.head _) (.tail _ (.head _)) (D M)),
  ⟨qd 3 M M (nN jz eG M M),
  ⟨jf 4 ck M M,
  ⟨gg 10 3 12 5 M M M (bp sY eK M (mK (D M)) (D M) q_e),
  ⟨jf 6 eK M M,
  ⟨iJ M M,
  ⟨fb 15 8 M M (gY (D M)),
  ⟨fb 16 9 M M (rW 1 lN M M M),
  ⟨fb 17 10 M M (gy qG M (.head _) (.tail _ (.head _)) (D M)),
  ⟨qd 3 M M (nN ol jk M M),
  ⟨jf 12 ck M M,
  ⟨gg 18 11 20 13 M M M (bp sY eK M (mK (D M)) (D M) q_e1),
  ⟨jf 14 eK M M,
  ⟨gg 14 7 22 15 M M M (aW (r:=vN) (ys:=[e,e1]) (xs:=[.tmp 14,.tmp 22]) sY eK M M M M M ⟨(D M),(D M),aR⟩),
  ⟨fb 23 16 M M (cm Rj (MF _ q_r) ⟨(D M),aR⟩),
  ⟨fb 24 17 M M (Bi M),
  aR⟩⟩⟩⟩⟩⟩⟩⟩⟩⟩⟩⟩⟩⟩⟩⟩⟩⟩⟩ ?_
 exact aB<|aZ M<|bP ki fT aU M<|bu M<|eu h NO (Hx _ _) (co M) fun r1 h=>jy M<|bG M<|aJ<|aJ<|aJ<|so h▸js (ts:=[lO r,gC r1]) (rvs:=[.tmp 4,.tmp 5]) M M ⟨aQ M,aQ M,aR⟩ qt M M

def QA(b:Nat)(ix:OI) c n{R}(h:fx c n=some R):fz bh 93 [tV (ax b 0),H ak n] (dL b c ix) (fun _:OI=>tT [lO R.1,gC R.2]) (fun _=>(dL b c ix)):=by
 refine fz.of Tryz.func93 M M M fun w0 S0=>?_;refine(show CG _ _ _ [bx (rH bc [(1,aL (ix.h 0).1 (ix.h 0).2 c.kinds.length),(2,aL (ix.h 1).1 (ix.h 1).2 c.first.length)]) 102 b c,hX px 23 (ix.h 0).1 (ix.h 0).2 c.kinds,hX cN 3 (ix.h 1).1 (ix.h 1).2 c.first] _ from ?_);refine aV<|dh M<|oI cN<|cn<|cb<|aI<|cC h fun e q_e h=>cC h fun r q_r h=>?_
 refine hD (ts:=[_,_,_,_,_,_,_,_,_,_,_,_,_,_,_,_,_,_,_,_,_]) mixed M M
  ⟨iJ M M,
  ⟨fb 6 0 M M (gY (D M)),
  ⟨fb 7 1 M M (rW 1 lN M M M),
  ⟨fb 8 2 M M (gy qG M (.head _) (.tail _ (.head _)) (D M)),
  ⟨qd 3 M M (nN jz eG M M),
  ⟨jf 4 ck M M,
  ⟨gg 9 3 11 5 M M M (bp sY eK M (mK (D M)) (D M) q_e),
  ⟨jf 6 eK M M,
  ⟨qd 3 M M (nN ki fT M M),
  ⟨jf 8 aU M M,
  ⟨iJ M M,
  ⟨fb 16 10 M M (gY (D M)),
  ⟨fb 17 11 M M (rW 1 lN M M M),
  ⟨fb 18 12 M M (gy qG M (.head _) (.tail _ (.head _)) (D M)),
  ⟨qd 3 M M (nN jz eG M M),
  ⟨jf 14 ck M M,
  ⟨gg 19 13 21 15 M M M (bp sY eK M (mK (D M)) (D M) q_e),
  ⟨jf 16 eK M M,
  ⟨gg 15 9 23 17 M M M (cm NO (Hx _ _ q_r) ⟨(D M),(D M),aR⟩),
  ⟨fb 13 7 M M (Bi M),
  ⟨fb 24 18 M M (Bi M),
  aR⟩⟩⟩⟩⟩⟩⟩⟩⟩⟩⟩⟩⟩⟩⟩⟩⟩⟩⟩⟩⟩ ?_
 exact aB<|mo<|aJ<|aJ<|aJ<|so h▸js (ts:=[lO e,gC r]) (rvs:=[.tmp 4,.tmp 5]) M M ⟨aQ M,aQ M,aR⟩ qt M M

def Mv kinds c{R}(h:n8 kinds c=some R):cK bh 150 [cE c,bC px kinds] (gC R):=by
 exact ep Tryz.func150 M<|aV<|cn<|cb<|aZ M<|K (mL (D M) hI)<|bu M<|cw M (fV M)<|cw M (fun T=>pe eK M M)<|cw M (p5 gr M)<|cw M (fun T=>gX (df M T) (df M T))<|nv M<|bG M<|so h▸bB M M

def ME l kinds{R}(h:qm l kinds=some R):cK bh 130 [lO l,lO kinds] (gC R):=by
 exact ep Tryz.func130 M<|aV<|dh M<|cn<|cb<|aZ M<|K ((show bT _ _ _ _ ((kK bh Jj rh (fun(x:Int)=>(n8 kinds) x)))from rx (cts:=[bC px kinds]) (caps:=[.tmp 3]) Q6 ⟨(D M),aR⟩ (fun x y h=>Mv _ _ h)))<|eu h NP (Hy _ _) (co M) fun r h=>K (iY (D M))<|bG M<|so h▸bB M M

def MD a1 kinds{R}(h:u3 a1 kinds=some R):cK bh 131 [H dl a1,lO kinds] (tT [cE R.1,gC R.2]):=by
 refine ep Tryz.func131 M<|aV<|dh M<|dj<|cn<|cb<|bl<|bP C9 xg ck M<|dz M<|dv h M (fun h=>?_) (fun h=>?_)
 ·refine aI ?_
  refine hD (ts:=[_,_,_,_,_,_,_]) mixed M M
   ⟨qd 2 M M (nN uI q9 M M),
   ⟨fb 11 0 M M (nN dq cG M M),
   ⟨jf 1 iU M M,
   ⟨fb 13 2 M M (PM na M),
   ⟨fb 14 3 M M (PD M),
   ⟨Lg M (RS),
   ⟨fb 15 4 M M (Bi M),
   aR⟩⟩⟩⟩⟩⟩⟩ ?_
  exact aB<|mo<|an<|so h▸fm M M M
 ·refine kF<|aV<|bP uI q9 aU M<|bu M<|eu h KU (Df _ _) (co M) fun r h=>bu M<|bZ M M<|bZ M M<|jy M<|aY M<|bl<|bP C9 xg ck M<|cb<|av ?_;refine aV<|dz M<|aY M<|oH h M (fun h=>?_) (fun h=>?_)
  ·exact aZ M<|dz M<|dj<|bG M<|eN<|so h▸fm M M M
  ·refine aV<|dz M<|aY M<|oH h M (fun h=>?_) (fun h=>?_)
   ·exact aZ M<|dz M<|bu M<|aE M (fV M)<|aE M (nw M)<|aE M (yA M)<|oA M M M M (fun T=>nb M)<|oA M M M M (fun T=>gZ (df M T) hI)<|aE M (fun T=>uZ (df M T) (fun V=>(df M (Dq T (CY V)))))<|fZ M<|dj<|bG M<|eN<|so h▸fm M M M
   ·refine jd (h3:=fun x=>qn r x=some R) (Of:=fun x=>[]) (Gf:=fun x=>[(6,cE r.1),(7,cE r.2),(41,gC x)]) (fun x h=>?_) (fun ah=>?_)
    ·skip
     refine oH h M (fun h=>?_) (fun h=>?_)
     ·exact aZ M<|bu M<|dz M<|jy M<|bG M<|eN<|so h▸fm M M M
     ·exact cc<|bj<|aB<|aV<|dj<|cn<|da<|so h▸fm M M M
    ·skip
     refine aV<|dz M<|aY M<|oH h M (fun h=>?_) (fun h=>?_)
     ·refine cc ?_;exact c9 (ah (a1.Tag==(4:Int)) h) (bv M)
     ·refine aG<|dz M<|jy M<|bt ?_;exact c9 (ah (a1.Tag==(5:Int)) h) (bv M)

def Qz(b:Nat)(ix:OI) c n{R}(h:fS c n=some R):fz bh 94 [tV (ax b 0),H ak n] (dL b c ix) (fun _:OI=>tT [lO R.1,gC R.2]) (fun _=>(dL b c ix)):=by
 refine fz.of Tryz.func94 M M M fun w0 S0=>?_;refine(show CG _ _ _ [bx (rH bc [(1,aL (ix.h 0).1 (ix.h 0).2 c.kinds.length),(2,aL (ix.h 1).1 (ix.h 1).2 c.first.length)]) 102 b c,hX px 23 (ix.h 0).1 (ix.h 0).2 c.kinds,hX cN 3 (ix.h 1).1 (ix.h 1).2 c.first] _ from ?_);refine aV<|dh M<|oI cN<|cn<|cb<|aI<|cC h fun e q_e h=>?_
 refine hD (ts:=[_,_,_,_,_,_,_,_,_]) mixed M M
  ⟨iJ M M,
  ⟨fb 15 0 M M (gY (D M)),
  ⟨fb 16 1 M M (rW 1 lN M M M),
  ⟨fb 17 2 M M (gy qG M (.head _) (.tail _ (.head _)) (D M)),
  ⟨qd 3 M M (nN jz eG M M),
  ⟨jf 4 ck M M,
  ⟨gg 18 3 20 5 M M M (bp sY eK M (mK (D M)) (D M) q_e),
  ⟨jf 6 eK M M,
  ⟨fb 22 7 M M (Bi M),
  aR⟩⟩⟩⟩⟩⟩⟩⟩⟩ ?_
 refine aB<|aV<|bP o0 jR eK M<|cA gr M<|K (oV (D M) hI)<|bu M<|aE M (ez mO md M M)<|aE M (ev vk M M)<|aE M (p5 qc M)<|aE M (fun T=>oV (df M T) hI)<|fZ M<|bu M<|aE M (ez o0 jR M M)<|aE M (ev eK M M)<|aE M (p5 gr M)<|aE M (ez mO md M M)<|aE M (ev vk M M)<|aE M (p5 qc M)<|aE M (fun T=>lD (df M T) (df M T))<|aE M (fun T=>uy (df M T) hI)<|fZ M<|bu M ?_;refine cC h fun t q_t h=>aE M (ez o0 jR M M)<|aE M (ev eK M M)<|aE M (fV M) ?_
 obtain⟨r,h1t,h0t⟩:=og q_t
 have q_rg:=fun V=>(h1t V).1
 refine aE M (fun T=>cm Ri (ME _ _ (q_rg T)) ⟨(df M T),(df M T),aR⟩)<|K (dS (D M) (fun V=>(df M V)) (fun V=>(h1t V).2) h0t)<|aY M<|bl<|bu M<|K (iY (D M))<|dv h M (fun h=>?_) (fun h=>?_)
 ·exact aV<|oI cN<|cn<|da<|an<|aJ<|aJ<|aJ<|so h▸js (ts:=[lO ([]),gC false]) (rvs:=[.tmp 4,.tmp 5]) M M ⟨aQ M,aQ M,aR⟩ qt M M
 ·refine kF<|aV<|bL false cN 3<|K (bF tK)<|cb<|bl<|bP o0 jR eK M<|cA gr M<|K (ci hI)<|cb<|av<|bA (k:=52) M fun hN=>cd ?_;refine aP (rf (h3:=fun ls i out l c1=>(n.Keys.drop i=ls)/\fK n e t ls out=some R) (Of:=fun _ i out l c1=>[fD cN 3 l c1 out,bx (rH bc [(1,aL (ix.h 0).1 (ix.h 0).2 c.kinds.length),(2,aL (ix.h 1).1 (ix.h 1).2 c.first.length)]) 102 b c,hX px 23 (ix.h 0).1 (ix.h 0).2 c.kinds,hX cN 3 (ix.h 1).1 (ix.h 1).2 c.first]) (Gf:=fun _ i out l c1=>[(3,bC ak n),(6,lO e),(7,gC t),(8,tB l c1 out),(52,lO n.Keys),(53,jw n.Keys),(54,cE (i:Int))]) (fun i out l c1 h=>?_) (fun e1 tl ih i out l c1 h=>?_) n.Keys 0 y0 none 0 ⟨M,h⟩) (bv M)
  ·obtain⟨I,h⟩:=h
   refine fa I M<|aB<|bl<|bP mO md vk M<|cA qc M<|K (ci hI)<|cb<|av<|bA (k:=67) M fun hN1=>?_;refine cd ?_;refine aP (m8 (h3:=fun ls1 i1 out1 l1 c2 ok=>(n.Aggs.drop i1=ls1)/\eE e ls1 out1 ok=some R) (Of:=fun _ i1 out1 l1 c2 ok=>[fD cN 3 l1 c2 out1,bx (rH bc [(1,aL (ix.h 0).1 (ix.h 0).2 c.kinds.length),(2,aL (ix.h 1).1 (ix.h 1).2 c.first.length)]) 102 b c,hX px 23 (ix.h 0).1 (ix.h 0).2 c.kinds,hX cN 3 (ix.h 1).1 (ix.h 1).2 c.first]) (Gf:=fun _ i1 out1 l1 c2 ok=>[(6,lO e),(7,gC ok),(8,tB l1 c2 out1),(67,gk (dl) n.Aggs),(68,jw n.Aggs),(69,cE (i1:Int))]) (fun i1 out1 l1 c2 ok h=>?_) (fun e2 tl1 ih1 i1 out1 l1 c2 ok h=>?_) n.Aggs 0 out l c1 t ⟨M,h⟩) (bv M)
   ·obtain⟨hx1,h⟩:=h
    refine fa hx1 M<|aB<|aZ M<|bu M<|jy M<|bG M<|o9<|fN 8 M ?_;exact fN 88 M<|fN 4 M<|pc 4 M<|aN<|aJ<|aJ<|aJ<|so h▸js (ts:=[lO out1,gC ok]) (rvs:=[.tmp 4,.tmp 5]) M M ⟨aQ M,aQ M,aR⟩ qt M M
   ·obtain⟨hx1,h⟩:=h
    refine eZ hx1 M<|aI<|av<|aV<|gF qc qf M (fy hx1)<|aA qf CF M fun b1=>aO qf ac M<|aD 12 M<|cb<|aV<|bw qf M ?_;refine bu M<|eu h Rh (MD _ _) (co M) fun r1 h=>bu M<|bZ M M<|bZ M M<|jy M<|aY M<|aG<|bu M<|bu M<|K (aW (r:=cN) (ys:=[r1.1]) (xs:=[.tmp 80]) gr ck M M M M M ⟨(D M),aR⟩)<|cC h fun out2 q_out2 h=>dE ck M M M M gr M M (D M) (D M) q_out2 fun l2 c3=>bu M<|bu M<|aE M (fV M)<|fZ M<|jy M<|jy M<|bt<|bj ?_;refine aB<|aG<|K (RD (HB hx1 hN1) M)<|bu M<|bt ?_;exact bg (aP (ih1 (i1+1) out2 l2 c3 (ok&&r1.2) ⟨dH hx1,h⟩) (bv M))
  ·obtain⟨I,h⟩:=h
   refine eZ I M<|aI<|av<|aV<|gF gr ck M (fy I)<|aY M<|aG<|bu M<|bu M<|bu M<|cC h fun e3 q_e3 h=>?_;refine gF gr ck M q_e3<|K (aW (r:=cN) (ys:=[e3]) (xs:=[.tmp 62]) gr ck M M M M M ⟨(D M),aR⟩)<|cC h fun out3 q_out3 h=>dE ck M M M M gr M M (D M) (D M) q_out3 fun l3 c4=>jy M<|bt<|dU I hN M ?_;exact bg (aP (ih (i+1) out3 l3 c4 ⟨dH I,h⟩) (bv M))

def Qy(b:Nat)(ix:OI) c n{R}(h:fe c n=some R):fz bh 95 [tV (ax b 0),H ak n] (dL b c ix) (fun _:OI=>tT [lO R.1,gC R.2]) (fun _=>(dL b c ix)):=by
 refine fz.of Tryz.func95 M M M fun w0 S0=>?_;refine(show CG _ _ _ [bx (rH bc [(1,aL (ix.h 0).1 (ix.h 0).2 c.kinds.length),(2,aL (ix.h 1).1 (ix.h 1).2 c.first.length)]) 102 b c,hX px 23 (ix.h 0).1 (ix.h 0).2 c.kinds,hX cN 3 (ix.h 1).1 (ix.h 1).2 c.first] _ from ?_);refine aV<|dh M<|oI cN<|cn<|cb<|aV<|bP kh gM hZ M<|cA kX M<|K (gX (D M) hI)<|bu M<|aE M (ez kh gM M M)<|aE M (ev hZ M M)<|aE M (p5 kX M)<|aE M (fun T=>oV (df M T) hI)<|fZ M<|aY M<|aV ?_;refine bL false cN 3<|K (bF tK)<|cb<|bl<|bP kh gM hZ M<|cA kX M<|K (ci hI)<|cb<|av<|bA (k:=23) M fun hN=>cd ?_;refine aP (m8 (h3:=fun ls i out l c1 ok=>(n.Items.drop i=ls)/\eY c n ls out ok=some R) (Of:=fun _ i out l c1 ok=>[fD cN 3 l c1 out,bx (rH bc [(1,aL (ix.h 0).1 (ix.h 0).2 c.kinds.length),(2,aL (ix.h 1).1 (ix.h 1).2 c.first.length)]) 102 b c,hX px 23 (ix.h 0).1 (ix.h 0).2 c.kinds,hX cN 3 (ix.h 1).1 (ix.h 1).2 c.first]) (Gf:=fun _ i out l c1 ok=>[(0,tV (ax b 0)),(3,bC ak n),(6,gC ok),(7,tB l c1 out),(23,gk (af) n.Items),(24,jw n.Items),(25,cE (i:Int))]) (fun i out l c1 ok h=>?_) (fun e tl ih i out l c1 ok h=>?_) n.Items 0 y0 none 0 ((decide ((1:Int)<=(n.Items.length:Int)))&&(decide ((n.Items.length:Int)<=(16:Int)))) ⟨M,h⟩) (bv M)
 ·obtain⟨I,h⟩:=h
  refine fa I M<|aB<|aZ M<|bu M<|jy M<|bG M<|o9<|fN 7 M ?_;exact fN 52 M<|fN 4 M<|pc 4 M<|aN<|aJ<|aJ<|aJ<|so h▸js (ts:=[lO out,gC ok]) (rvs:=[.tmp 4,.tmp 5]) M M ⟨aQ M,aQ M,aR⟩ qt M M
 ·obtain⟨I,h⟩:=h
  refine eZ I M<|aI<|av<|aV<|gF kX aU M (fy I)<|aA aU cB M fun b1=>aO aU ac M<|aD 9 M<|cb<|aI<|cC h fun e1 q_e1 h=>cC h fun r q_r h=>?_
  refine hD (ts:=[_,_,_,_,_,_,_,_,_,_,_,_,_,_,_]) mixed M M
   ⟨qd 9 M M (pe aU M M),
   ⟨iJ M M,
   ⟨fb 31 1 M M (gY (D M)),
   ⟨fb 32 2 M M (rW 1 lN M M M),
   ⟨fb 33 3 M M (gy qG M (.tail _ (.head _)) (.tail _ (.tail _ (.head _))) (D M)),
   ⟨qd 3 M M (nN jz eG M M),
   ⟨jf 5 ck M M,
   ⟨gg 34 4 36 6 M M M (bp sY eK M (mK (D M)) (D M) q_e1),
   ⟨jf 7 eK M M,
   ⟨gg 30 0 38 8 M M M (cm KU (Df _ _ q_r) ⟨(D M),(D M),aR⟩),
   ⟨fb 39 9 M M (nb M),
   ⟨fb 29 10 M M (Bh M M),
   ⟨fb 29 10 M M (Bh M M),
   ⟨fb 40 11 M M (Bi M),
   ⟨fb 41 12 M M (Bi M),
   aR⟩⟩⟩⟩⟩⟩⟩⟩⟩⟩⟩⟩⟩⟩⟩ ?_
  refine aB<|aG<|bu M<|bu M<|K (aW (r:=cN) (ys:=[r.1]) (xs:=[.tmp 43]) gr ck M M M M M ⟨(D M),aR⟩)<|cC h fun out1 q_out1 h=>dE ck M M M M gr M M (D M) (D M) q_out1 fun l1 c2=>bu M<|bu M<|aE M (fV M)<|aE M (nw M)<|fZ M<|jy M<|jy M<|bt<|dU I hN M ?_;exact bg (aP (ih (i+1) out1 l1 c2 (ok&&(r.2==(0:Int))) ⟨dH I,h⟩) (bv M))

def Qx(b:Nat)(ix:OI) c n{R}(h:eF c n=some R):fz bh 96 [tV (ax b 0),H ak n] (dL b c ix) (fun _:OI=>tT [lO R.1,gC R.2]) (fun _=>(dL b c ix)):=by
 refine fz.of Tryz.func96 M M M fun w0 S0=>?_;refine(show CG _ _ _ [bx (rH bc [(1,aL (ix.h 0).1 (ix.h 0).2 c.kinds.length),(2,aL (ix.h 1).1 (ix.h 1).2 c.first.length)]) 102 b c,hX px 23 (ix.h 0).1 (ix.h 0).2 c.kinds,hX cN 3 (ix.h 1).1 (ix.h 1).2 c.first] _ from ?_);refine aV<|dh M<|oI cN<|cn<|cb<|aI<|cC h fun e q_e h=>?_
 refine hD (ts:=[_,_,_,_,_,_,_,_,_,_]) mixed M M
  ⟨iJ M M,
  ⟨fb 6 0 M M (gY (D M)),
  ⟨fb 7 1 M M (rW 1 lN M M M),
  ⟨fb 8 2 M M (gy qG M (.head _) (.tail _ (.head _)) (D M)),
  ⟨qd 3 M M (nN jz eG M M),
  ⟨jf 4 ck M M,
  ⟨gg 9 3 11 5 M M M (bp sY eK M (mK (D M)) (D M) q_e),
  ⟨jf 6 eK M M,
  ⟨fb 13 7 M M (Bi M),
  ⟨Lg M (RE),
  aR⟩⟩⟩⟩⟩⟩⟩⟩⟩⟩ ?_
 exact aB<|mo<|aJ<|aJ<|aJ<|so h▸js (ts:=[lO e,gC true]) (rvs:=[.tmp 4,.tmp 5]) M M ⟨aQ M,aQ M,aR⟩ qt M M

def Qw(b:Nat)(ix:OI) c n{R}(h:fQ c n=some R):fz bh 97 [tV (ax b 0),H ak n] (dL b c ix) (fun _:OI=>tT [lO R.1,gC R.2]) (fun _=>(dL b c ix)):=by
 refine fz.of Tryz.func97 M M M fun w0 S0=>?_;refine(show CG _ _ _ [bx (rH bc [(1,aL (ix.h 0).1 (ix.h 0).2 c.kinds.length),(2,aL (ix.h 1).1 (ix.h 1).2 c.first.length)]) 102 b c,hX px 23 (ix.h 0).1 (ix.h 0).2 c.kinds,hX cN 3 (ix.h 1).1 (ix.h 1).2 c.first] _ from ?_);refine aV<|dh M<|oI cN<|cn<|cb<|aI<|cC h fun e q_e h=>cC h fun e1 q_e1 h=>?_
 refine hD (ts:=[_,_,_,_,_,_,_,_,_,_,_,_,_,_,_,_,_,_]) mixed M M
  ⟨iJ M M,
  ⟨fb 12 0 M M (gY (D M)),
  ⟨fb 13 1 M M (rW 1 lN M M M),
  ⟨fb 14 2 M M (gy qG M (.head _) (.tail _ (.head _)) (D M)),
  ⟨qd 3 M M (nN jz eG M M),
  ⟨jf 4 ck M M,
  ⟨gg 15 3 17 5 M M M (bp sY eK M (mK (D M)) (D M) q_e),
  ⟨jf 6 eK M M,
  ⟨iJ M M,
  ⟨fb 20 8 M M (gY (D M)),
  ⟨fb 21 9 M M (rW 1 lN M M M),
  ⟨fb 22 10 M M (gy qG M (.head _) (.tail _ (.head _)) (D M)),
  ⟨qd 3 M M (nN ol jk M M),
  ⟨jf 12 ck M M,
  ⟨gg 23 11 25 13 M M M (bp sY eK M (mK (D M)) (D M) q_e1),
  ⟨jf 14 eK M M,
  ⟨fb 19 7 M M (Bi M),
  ⟨fb 27 15 M M (Bi M),
  aR⟩⟩⟩⟩⟩⟩⟩⟩⟩⟩⟩⟩⟩⟩⟩⟩⟩⟩ ?_
 refine aB<|bl<|bu M<|cA gr M<|bu M<|cA gr M<|K (jt (D M) (D M))<|dv h M (fun h=>?_) (fun h=>?_)
 ·exact aV<|oI cN<|cn<|da<|an<|aJ<|aJ<|aJ<|so h▸js (ts:=[lO ([]),gC false]) (rvs:=[.tmp 4,.tmp 5]) M M ⟨aQ M,aQ M,aR⟩ qt M M
 ·refine kF<|aZ M<|ri h KQ (Dd _) (co M) fun r h l c1=>aY M<|aV<|cn<|cb<|bl<|bu M<|cA gr M<|K (ci hI)<|cb<|av ?_;refine bA (k:=35) M fun hN=>cd ?_;refine aP (uO (h3:=fun ls i out ok=>(e1.drop i=ls)/\dp ls i out ok=some R) (Of:=fun _ i out ok=>[fD cN 3 l c1 out,bx (rH bc [(1,aL (ix.h 0).1 (ix.h 0).2 c.kinds.length),(2,aL (ix.h 1).1 (ix.h 1).2 c.first.length)]) 102 b c,hX px 23 (ix.h 0).1 (ix.h 0).2 c.kinds,hX cN 3 (ix.h 1).1 (ix.h 1).2 c.first]) (Gf:=fun _ i out ok=>[(8,tB l c1 out),(9,gC ok),(35,lO e1),(36,jw e1),(37,cE (i:Int))]) (fun i out ok h=>?_) (fun e2 tl ih i out ok h=>?_) e1 0 r true ⟨M,h⟩) (bv M)
  ·obtain⟨I,h⟩:=h
   refine fa I M<|aB<|aZ M<|bu M<|jy M<|bG M<|o9<|fN 8 M ?_;exact fN 65 M<|fN 4 M<|pc 4 M<|aN<|aJ<|aJ<|aJ<|so h▸js (ts:=[lO out,gC ok]) (rvs:=[.tmp 4,.tmp 5]) M M ⟨aQ M,aQ M,aR⟩ qt M M
  ·obtain⟨I,h⟩:=h
   refine eZ I M<|aI<|av<|aZ M<|gF gr ck M (fy I)<|jy M<|aY M ?_;refine jd (h3:=fun out1=>gK (dp tl) i e2 ok out1=some R) (Of:=fun out1=>[fD cN 3 l c1 out1,bx (rH bc [(1,aL (ix.h 0).1 (ix.h 0).2 c.kinds.length),(2,aL (ix.h 1).1 (ix.h 1).2 c.first.length)]) 102 b c,hX px 23 (ix.h 0).1 (ix.h 0).2 c.kinds,hX cN 3 (ix.h 1).1 (ix.h 1).2 c.first]) (Gf:=fun out1=>[(8,tB l c1 out1),(9,gC ok),(10,cE (i:Int)),(11,cE e2),(35,lO e1),(36,jw e1),(37,cE (i:Int))]) (fun out1 h=>?_) (fun ah=>?_)
   ·skip
    refine aG<|bu M<|bu M<|cC h fun t q_t h=>aE M (fV M)<|aE M (fV M) ?_
    obtain⟨e3,h1t,h0t⟩:=og q_t
    have q_e3g:=fun V=>(h1t V).1
    refine aE M (fun T=>bX gr ck (.head _) (df M T) (df M T) (q_e3g T))<|aE M (fun T=>dm (r:=cN) (i:=(i:Int)) (foff:=0) ck M M bO M (.head _) (q_e3g T) (df M T))<|aE M (fV M)<|aE M (fun T=>gZ (df M T) (df M T))<|aE M (yA M)<|oA M M M M (fun T=>nb M)<|oA M M M M (fun T=>gZ (df M T) hI)<|aE M (fun T=>uZ (df M T) (fun V=>(df M (Dq T (CY V)))))<|K (dS (D M) (fun V=>(df M V)) (fun V=>(h1t V).2) h0t)<|jy M<|bt<|dU I hN M ?_;exact bg (aP (ih (i+1) out1 t ⟨dH I,h⟩) (bv M))
   ·skip
    refine aZ M<|bu M<|cC h fun e4 q_e4 h=>K (bX gr ck (.head _) (D M) (D M) q_e4)<|K (dm (r:=cN) (i:=(i:Int)) (foff:=0) ck M M bO M (.head _) q_e4 (D M))<|dz M<|dv h M (fun h=>?_) (fun h=>?_)
    ·refine aG<|bu M<|bu M<|bu M<|K (bX gr ck (.head _) (D M) (D M) q_e4)<|cC h fun st q_st h=>ku ck M ac M q_e4 (so q_st) (D M) (D M)<|gA (d8 (so q_st)) 8 M<|gA (d8 (so q_st)) 42 M<|gA (d8 (so q_st)) 47 M<|bt ?_;exact c9 (ah st h) (bv M)
    ·refine cc ?_;exact c9 (ah out h) (bv M)

def MC in1 o{R}(h:ju in1 o=some R):cK bh 133 [H eQ o,bC px in1] (gC R):=by
 exact ep Tryz.func133 M<|aV<|dh M<|cn<|cb<|aV<|bP Kj AG ck M<|K (mL (D M) hI)<|bu M<|cw M (ez Kj AG M M)<|cw M (ev ck M M)<|cw M (fun T=>pe eK M M)<|cw M (p5 gr M)<|cw M (fun T=>gX (df M T) (df M T))<|nv M<|bG M<|so h▸bB M M

def Ms s f{R}(h:gG s f=some R):cK bh 153 [gk (eQ) s,(kK bh Jk rh (fun(x:jU)=>f x))] (cE R):=by
 refine ep Tryz.func153 M<|aV<|dj<|cb<|bl<|bu M<|cA t7 M<|K (ci hI)<|cb<|av<|bA (k:=6) M fun hN=>cd ?_;refine aP (jq (h3:=fun ls i=>(s.drop i=ls)/\dt f ls i=some R) (Of:=fun _ i=>[]) (Gf:=fun _ i=>[(0,gk (eQ) s),(1,(kK bh Jk rh (fun(x:jU)=>f x))),(7,jw s),(8,cE (i:Int))]) (fun i h=>?_) (fun e tl ih i h=>?_) s 0 ⟨M,h⟩) (bv M)
 ·obtain⟨I,h⟩:=h
  exact fa I M<|aB<|aV<|fY<|so h▸bB M M
 ·obtain⟨I,h⟩:=h
  refine eZ I M<|aI<|av<|aZ M<|aY M<|aZ M<|bu M<|bu M<|zE t7 zQ M (fy I) ?_;refine bw zQ M<|cC h fun r q_r h=>K (mZ (args:=Jk) (res:=Fz) (f:=(fun(x:jU)=>f x)) (x:=((e):jU)) (D M) q_r ⟨(D M),aR⟩)<|dv h M (fun h=>?_) (fun h=>?_)
  ·exact aZ M<|bG M<|eN<|an<|eN<|so h▸bB M M
  ·refine cc<|dU I hN M ?_;exact bg (aP (ih (i+1) ⟨dH I,h⟩) (bv M))

end Go.Proofs.YtbmmihfagmchaaaGreat

