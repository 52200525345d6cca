/- cW of this claim: P3. -/
import Derived.Test.YtbmmihfagmchaaaGreatRcT
import Derived.Test.YtbmmihfagmchaaaGreatRcP2
set_option linter.all false
namespace Go.Proofs.YtbmmihfagmchaaaGreat
open Go
set_option maxRecDepth 100000

def MB s f{R}(h:eo s f=some R):cK bh 134 [gk (eQ) s,(kK bh Jk rh (fun(x:jU)=>f x))] (gC R):=by
 exact ep Tryz.func134 M<|aV<|cn<|cb<|aZ M<|bu M<|eu h Q3 (Ms _ _) (co M) fun r h=>K (gX (D M) hI)<|bG M<|so h▸bB M M

def Qv(b:Nat)(ix:OI) c n{R}(h:fR c n=some R):fz bh 98 [tV (ax b 0),H ak n] (dL b c ix) (fun _:OI=>tT [lO R.1,gC R.2]) (fun _=>(dL b c ix)):=by
 refine fz.of Tryz.func98 M M M fun w0 S0=>?_;refine(show CG _ _ _ [bx (rH bc [(1,aL (ix.h 0).1 (ix.h 0).2 c.kinds.length),(2,aL (ix.h 1).1 (ix.h 1).2 c.first.length)]) 102 b c,hX px 23 (ix.h 0).1 (ix.h 0).2 c.kinds,hX cN 3 (ix.h 1).1 (ix.h 1).2 c.first] _ from ?_);refine aV<|dh M<|oI cN<|cn<|cb<|aI<|cC h fun e q_e h=>?_
 refine jN 9 [tc (tV (ax b 0)),tc (tV (ax b 0)),tc (tV (ax b 1)),tc (tO px (ix.h 0).1 (ix.h 0).2 c.kinds),tc (bC cN n.A),tc (cE n.A),tc (bC px e),tc (lO e),([8],fun s=>tV (ax ((s.getD 0 qt).h 0).2 0))] [false,false,false,false,false,false,false,false,true] [fun _=>[bx (rH bc [(1,aL (ix.h 0).1 (ix.h 0).2 c.kinds.length),(2,aL (ix.h 1).1 (ix.h 1).2 c.first.length)]) 102 b c,hX px 23 (ix.h 0).1 (ix.h 0).2 c.kinds,hX cN 3 (ix.h 1).1 (ix.h 1).2 c.first],fun sg=>[bx px 23 ((sg 8).h 0).2 ([]),bx (rH bc [(1,aL (ix.h 0).1 (ix.h 0).2 c.kinds.length),(2,aL (ix.h 1).1 (ix.h 1).2 c.first.length)]) 102 b c,hX px 23 (ix.h 0).1 (ix.h 0).2 c.kinds,hX cN 3 (ix.h 1).1 (ix.h 1).2 c.first]] M mixed M M M M M
  ⟨⟨[⟨0,fun _=>tV (ax b 0),none⟩],_,0,1,M,⟨(fun _=>M),aR⟩,M,M,M,M,M,fun _ sg _ _=>ae M (nb M)⟩,
  ⟨⟨[⟨9,fun _=>tV (ax b 0),some 0⟩],_,0,1,M,⟨(fun _=>M),aR⟩,M,M,M,M,M,fun _ sg _ _=>ae M (gY (D M))⟩,
  ⟨⟨[⟨10,fun _=>tV (ax b 0),some 1⟩],_,0,1,M,⟨(fun _=>M),aR⟩,M,M,M,M,M,fun _ sg _ _=>ae M (rW 1 lN M M M)⟩,
  ⟨⟨[⟨11,fun _=>tV (ax b 1),some 2⟩],_,0,1,M,⟨(fun _=>M),aR⟩,M,M,M,M,M,xE (fun sg=>ae M (gy qG M (.head _) (.tail _ (.head _)) (D M))) (sw (fun sg=>ae M (gy qG M (.tail _ (.head _)) (.tail _ (.tail _ (.head _))) (D M))))⟩,
  ⟨⟨[⟨3,fun _=>bC ak n,none⟩],_,0,1,M,⟨(fun _=>M),aR⟩,M,M,M,M,M,fun _ sg _ _=>ae M (nN jz eG M M)⟩,
  ⟨⟨[⟨13,fun _=>bC cN n.A,some 4⟩],_,0,1,M,⟨(fun _=>M),aR⟩,M,M,M,M,M,fun _ sg _ _=>ae M (pe ck M M)⟩,
  ⟨⟨[⟨12,fun _=>tO vN (ix.h 0).1 (ix.h 0).2 c.kinds,some 3⟩,⟨14,fun _=>H cN n.A,some 5⟩],_,0,1,M,⟨(fun _=>M),(fun _=>M),aR⟩,M,M,M,M,M,fun _ sg _ _=>ae M (bp sY eK M (mK (D M)) (D M) q_e)⟩,
  ⟨⟨[⟨15,fun _=>bC vN e,some 6⟩],_,0,1,M,⟨(fun _=>M),aR⟩,M,M,M,M,M,fun _ sg _ _=>ae M (pe eK M M)⟩,
  ⟨⟨[],_,M,aR,M,M,M,fun sg=>cD M (ly (r:=vN) (x:=[]) eK (fun _=>⟨none,0,M,dr _,mJ _,.inl M⟩))⟩,
  aR⟩⟩⟩⟩⟩⟩⟩⟩⟩ (fun sg=>?_)
 refine(show RG _ _ _ _ [_,_,_,_] _ from ?_);refine aO eK ac M<|aD 6 M<|cb<|aV<|K ((show bT _ _ _ _ ((kK bh Jk rh (fun(x:jU)=>(ju e) x)))from rx (cts:=[bC px e]) (caps:=[.tmp 6]) Rg ⟨(D M),aR⟩ (fun x y h=>MC _ _ h)))<|aY M<|aV<|bP po jK y4 M<|cA t7 M<|K (oV (D M) hI)<|bu M<|cC h fun t q_t h=>aE M (ez po jK M M)<|aE M (ev y4 M M)<|aE M (fV M) ?_
 obtain⟨r,h1t,h0t⟩:=og q_t
 have q_rg:=fun V=>(h1t V).1
 refine aE M (fun T=>cm Rf (MB _ _ (q_rg T)) ⟨(df M T),(df M T),aR⟩)<|aE M (zG M)<|K (dS (D M) (fun V=>(df M V)) (fun V=>(h1t V).2) h0t)<|bu M<|aE M (ez u8 pN M M)<|aE M (ev ck M M)<|aE M (fun T=>gX (df M T) hI)<|fZ M<|bu M<|aE M (ez u8 pN M M)<|aE M (ev ck M M)<|aE M (fun T=>oV (df M T) hI)<|fZ M<|aY M<|aI ?_
 refine hD (ts:=[_,_,_,_,_,_,_,_,_,_,_,_,_,_,_,_,_,_,_]) mixed M M
  ⟨qd 6 M M (pe eK M M),
  ⟨iJ M M,
  ⟨fb 40 1 M M (nb M),
  ⟨tN 0 41 2 M M M (cz M M M M (fun T=>nb M)),
  ⟨iM 42 3 41 2 M M M (cz M M M M (fun T=>gY (df M T))),
  ⟨iM 43 4 41 2 M M M (cz M M M M (fun T=>mY (n:=1) lN M (df M T) M)),
  ⟨iM 44 5 41 2 M M M (cz M M M M (fun T=>gy qG M (.head _) (.tail _ (.head _)) (df M T))),
  ⟨iM 45 6 41 2 M M M (cz M M M M (fun T=>ke sY (mK (df M T)))),
  ⟨tN 0 41 2 M M M (cz M M M M (fun T=>nb M)),
  ⟨iM 47 8 41 2 M M M (cz M M M M (fun T=>gY (df M T))),
  ⟨iM 48 9 41 2 M M M (cz M M M M (fun T=>mY (n:=0) Da M (df M T) M)),
  ⟨iM 49 10 41 2 M M M (cz M M M M (fun T=>mY (n:=0) gq M (df M T) M)),
  ⟨iM 50 11 41 2 M M M (cz M M M M (fun T=>be (r:=rH bc [(1,aL (ix.h 0).1 (ix.h 0).2 c.kinds.length),(2,aL (ix.h 1).1 (ix.h 1).2 c.first.length)]) (x:=c) nk M M (OH (lg tg eg)) (.head _) (df M T))),
  ⟨iM 51 12 41 2 M M M (cz M M M M (fun T=>ke jW (df M T))),
  ⟨iM 52 13 41 2 M M M (cz M M M M (fun T=>gc (df M T) hI)),
  ⟨BQ 46 7 53 14 41 2 M M M M (cz M M M M (fun T=>gZ (df M T) (df M T))),
  ⟨gg 41 2 54 15 M M M (PA M M),
  ⟨fb 39 0 M M (Bi M),
  ⟨fb 55 16 M M (Bi M),
  aR⟩⟩⟩⟩⟩⟩⟩⟩⟩⟩⟩⟩⟩⟩⟩⟩⟩⟩⟩ ?_
 exact aB<|mo<|aJ<|aJ<|aJ<|so h▸js (ts:=[lO e,gC (((t&&(decide (pA<=n.Limit)))&&(decide (n.Limit<=(2147483647:Int))))&&((c.kinds.length:Int)==(IntKind.i64.wrap ((c.Logic.Nodes.length:Int)-(1:Int)))))]) (rvs:=[.tmp 4,.tmp 5]) M M ⟨aQ M,aQ M,aR⟩ qt M M

def OM n{R}(h:qY n=some R):cK bh 99 [H ak n] (gC R):=by
 refine ep Tryz.func99 M<|aV<|dh M<|cn<|cb<|aV<|bP yd q8 ck M<|dz M<|bu M<|aE M (ez pY kR M M)<|aE M (ev eK M M)<|aE M (p5 gr M)<|aE M (nw M)<|fZ M<|bu M<|aE M (ez yc q7 M M)<|aE M (ev G8 M M)<|aE M (zG M)<|fZ M<|bu M ?_;refine aE M (ez ki fT M M)<|aE M (fun T=>iZ dq M cG M (df M T))<|aE M (ev iU M M)<|aE M (p5 na M)<|aE M (nw M)<|fZ M<|bu M<|aE M (ez o0 jR M M)<|aE M (ev eK M M)<|aE M (p5 gr M)<|aE M (nw M)<|fZ M<|bu M<|aE M (ez mO md M M)<|aE M (ev vk M M)<|aE M (p5 qc M)<|aE M (nw M)<|fZ M<|bu M<|aE M (ez kh gM M M)<|aE M (ev hZ M M)<|aE M (p5 kX M)<|aE M (nw M)<|fZ M ?_;exact bu M<|aE M (ez po jK M M)<|aE M (ev y4 M M)<|aE M (p5 t7 M)<|aE M (nw M)<|fZ M<|bu M<|aE M (ez u8 pN M M)<|aE M (ev ck M M)<|aE M (nw M)<|fZ M<|bG M<|so h▸bB M M

def MO n{R}(h:q0 n=some R):cK bh 100 [H ak n] (H ak R):=by
 refine ep Tryz.func100 M<|aV<|rN (D M) M fun b=>aA dV iA M fun b1=>cb<|bl<|bJ 0 mP M<|K (be ck M M fU (.tail _ (.head _)) (D M))<|cb<|av<|aV<|dz M<|aY M<|oH h M (fun h=>?_) (fun h=>?_)
 ·exact aG<|bJ 3 yd M<|aT<|dd ck M Ab M (D M) hI<|bJ 4 pY M<|dd eK M qM M (D M) BD<|bt<|bj<|aB<|aV<|K (be (x:=(aa.mk n.Op n.A n.B (0:Int) ([]) n.Left n.Cond n.Keys n.Aggs n.Items n.Order n.Limit)) dV M M bO (.head _) (D M))<|aT<|aO dV ac M<|aD 2 M<|da<|aN<|so h▸gR M dV M M M
 ·refine aV<|dz M<|aY M<|oH h M (fun h=>?_) (fun h=>?_)
  ·exact aG<|K (bR aU vp cB M)<|bJ 5 yc M<|aT<|dd G8 M Aa M (D M) hB<|bJ 6 ki M<|aO aU lR M<|bt<|bj<|aB<|aV<|K (be (x:=(aa.mk n.Op n.A n.B n.Table n.Kinds false kI n.Keys n.Aggs n.Items n.Order n.Limit)) dV M M bO (.head _) (D M))<|aT<|aO dV ac M<|aD 2 M<|da<|aN<|so h▸gR M dV M M M
  ·refine aV<|dz M<|aY M<|oH h M (fun h=>?_) (fun h=>?_)
   ·exact aG<|K (bR aU vp cB M)<|bJ 6 ki M<|aT<|aO aU lR M<|bt<|bj<|aB<|aV<|K (be (x:=(aa.mk n.Op n.A n.B n.Table n.Kinds n.Left kI n.Keys n.Aggs n.Items n.Order n.Limit)) dV M M bO (.head _) (D M))<|aT<|aO dV ac M<|aD 2 M<|da<|aN<|so h▸gR M dV M M M
   ·refine aV<|dz M<|aY M<|oH h M (fun h=>?_) (fun h=>?_)
    ·exact aG<|bJ 7 o0 M<|aT<|dd eK M vX M (D M) BD<|bJ 8 mO M<|dd vk M FR M (D M) BD<|bt<|bj<|aB<|aV<|K (be (x:=(aa.mk n.Op n.A n.B n.Table n.Kinds n.Left n.Cond ([]) ([]) n.Items n.Order n.Limit)) dV M M bO (.head _) (D M))<|aT<|aO dV ac M<|aD 2 M<|da<|aN<|so h▸gR M dV M M M
    ·refine aV<|dz M<|aY M<|oH h M (fun h=>?_) (fun h=>?_)
     ·exact aG<|bJ 9 kh M<|aT<|dd hZ M z8 M (D M) BD<|bt<|bj<|aB<|aV<|K (be (x:=(aa.mk n.Op n.A n.B n.Table n.Kinds n.Left n.Cond n.Keys n.Aggs ([]) n.Order n.Limit)) dV M M bO (.head _) (D M))<|aT<|aO dV ac M<|aD 2 M<|da<|aN<|so h▸gR M dV M M M
     ·refine aV<|dz M<|aY M<|oH h M (fun h=>?_) (fun h=>?_)
      ·exact aG<|bJ 10 po M<|aT<|dd y4 M yC M (D M) BD<|bJ 11 u8 M<|dd ck M D1 M (D M) hI<|bt<|bj<|aB<|aV<|K (be (x:=(aa.mk n.Op n.A n.B n.Table n.Kinds n.Left n.Cond n.Keys n.Aggs n.Items ([]) (0:Int))) dV M M bO (.head _) (D M))<|aT<|aO dV ac M<|aD 2 M<|da<|aN<|so h▸gR M dV M M M
      ·exact cc<|bj<|aB<|aV<|K (be dV M M bO (.tail _ (.head _)) (D M))<|aO dV ac M<|aD 2 M<|da<|aN<|so h▸gR M dV M M M

def MA op{R}(h:ry op=some R):cK bh 135 [cE op] (cE R):=by
 refine ep Tryz.func135 M<|aV<|dj<|cb<|bl<|bu M<|cb<|av<|aV<|dz M<|aY M<|oH h M (fun h=>?_) (fun h=>?_)
 ·exact aV<|fY<|eN<|so h▸bB M M
 ·refine jd (h3:=fun x=>n9 x=some R) (Of:=fun x=>[]) (Gf:=fun x=>[(6,gC x)]) (fun x h=>?_) (fun ah=>?_)
  ·skip
   refine oH h M (fun h=>?_) (fun h=>?_)
   ·exact aV<|fY<|eN<|so h▸bB M M
   ·exact cc<|bj<|aB<|aV<|fY<|so h▸bB M M
  ·skip
   refine aV<|dz M<|aY M<|oH h M (fun h=>?_) (fun h=>?_)
   ·refine cc ?_;exact c9 (ah (op==(2:Int)) h) (bv M)
   ·refine aG<|dz M<|jy M<|bt ?_;exact c9 (ah (op==(7:Int)) h) (bv M)

def Pk(b:Nat)(ix:OI) c i{R}(h:iS c i=some R):fz bh 101 [tV (ax b 0),cE i] (dL b c ix) (fun _:OI=>tT [cE R.1,gC R.2]) (fun _=>(dL b c ix)):=by
 refine fz.of Tryz.func101 M M M fun w0 S0=>?_;refine(show CG _ _ _ [bx (rH bc [(1,aL (ix.h 0).1 (ix.h 0).2 c.kinds.length),(2,aL (ix.h 1).1 (ix.h 1).2 c.first.length)]) 102 b c,hX px 23 (ix.h 0).1 (ix.h 0).2 c.kinds,hX cN 3 (ix.h 1).1 (ix.h 1).2 c.first] _ from ?_);refine aV<|dj<|cn<|cb<|aZ M<|K (gY (D M))<|bJ 0 Da M<|bJ 0 gq M<|K (be (r:=rH bc [(1,aL (ix.h 0).1 (ix.h 0).2 c.kinds.length),(2,aL (ix.h 1).1 (ix.h 1).2 c.first.length)]) (x:=c) nk M M (OH (lg tg eg)) (.head _) (D M))<|bu M<|cC h fun e q_e h=>gF jW dV M q_e<|aA dV iA M fun b1=>aO dV ac M<|aD 6 M<|cb<|aI<|aI ?_;refine aG<|bP mP fU ck M<|eu h Re (MA _) (co M) fun r h=>cb<|av<|aV<|dz M<|aY M<|oH h M (fun h=>?_) (fun h=>?_)
 ·refine aI ?_
  refine hD (ts:=[_,_,_,_,_,_,_,_,_,_,_]) mixed M M
   ⟨iJ M M,
   ⟨qd 6 M M (nN jz eG M M),
   ⟨jf 1 ck M M,
   ⟨fb 22 2 M M (PD M),
   ⟨fb 23 3 M M (nb M),
   ⟨tN 6 24 4 M M M (cz M M M M (fun T=>nN ol jk M M)),
   ⟨iM 25 5 24 4 M M M (cz M M M M (fun T=>ir ck M M (df M T))),
   ⟨iM 26 6 24 4 M M M (cz M M M M (fun T=>gZ (df M T) hI)),
   ⟨gg 24 4 27 7 M M M (PA M M),
   ⟨fb 20 0 M M (Bi M),
   ⟨fb 28 8 M M (Bi M),
   aR⟩⟩⟩⟩⟩⟩⟩⟩⟩⟩⟩ ?_
  exact aB<|mo<|eN<|aJ<|aJ<|aJ<|so h▸js (ts:=[cE i,gC ((e.A==pA)&&(e.B==pA))]) (rvs:=[.tmp 4,.tmp 5]) M M ⟨aQ M,aQ M,aR⟩ qt M M
 ·refine aV<|dz M<|aY M<|oH h M (fun h=>?_) (fun h=>?_)
  ·refine bl<|bP jz eG ck M<|bu M<|K (gc (D M) hI)<|K (jt (D M) (D M))<|bu M<|cw M (ez ol jk M M)<|cw M (ev ck M M)<|cw M (BR M)<|nv M<|bu M<|cw M (fV M)<|cw M (nw M)<|nv M<|dv h M (fun h=>?_) (fun h=>?_)
   ·exact aV<|dj<|cn<|da<|an<|eN<|aJ<|aJ<|aJ<|so h▸js (ts:=[cE 0,gC false]) (rvs:=[.tmp 4,.tmp 5]) M M ⟨aQ M,aQ M,aR⟩ qt M M
   ·refine kF<|aI<|cC h fun e1 q_e1 h=>?_
    refine hD (ts:=[_,_,_,_,_,_,_,_,_,_]) mixed M M
     ⟨iJ M M,
     ⟨fb 45 0 M M (gY (D M)),
     ⟨fb 46 1 M M (rW 2 rG M M M),
     ⟨fb 47 2 M M (gy eK M (.head _) (.tail _ (.tail _ (.head _))) (D M)),
     ⟨qd 6 M M (nN jz eG M M),
     ⟨jf 4 ck M M,
     ⟨gg 48 3 50 5 M M M (bp gr ck M (mK (D M)) (D M) q_e1),
     ⟨jf 6 ck M M,
     ⟨fb 52 7 M M (Bi M),
     ⟨Lg M (RE),
     aR⟩⟩⟩⟩⟩⟩⟩⟩⟩⟩ ?_
    exact aB<|mo<|eN<|aJ<|aJ<|aJ<|so h▸js (ts:=[cE e1,gC true]) (rvs:=[.tmp 4,.tmp 5]) M M ⟨aQ M,aQ M,aR⟩ qt M M
  ·refine cc<|bj<|aB<|aI<|aI<|cC h fun t q_t h=>?_
   obtain⟨e2,h1t,h0t⟩:=og q_t
   have q_e2g:=fun V=>(h1t V).1
   refine hD (ts:=[_,_,_,_,_,_,_,_,_,_,_,_,_,_,_,_,_,_,_,_,_,_,_,_,_,_,_,_]) mixed M M
    ⟨qd 6 M M (nN ol jk M M),
    ⟨jf 0 ck M M,
    ⟨iJ M M,
    ⟨fb 55 2 M M (gc (D M) hI),
    ⟨gg 54 1 56 3 M M M (jt (D M) (D M)),
    ⟨fb 57 4 M M (nb M),
    ⟨tN 1 58 5 M M M (mi M M M M (fun T=>nb M)),
    ⟨iM 59 6 58 5 M M M (mi M M M M (fun T=>gZ (df M T) hI)),
    ⟨gg 58 5 60 7 M M M (RR M M),
    ⟨fb 61 8 M M (nb M),
    ⟨tN 6 62 9 M M M (mi M M M M (fun T=>nN jz eG M M)),
    ⟨iM 63 10 62 9 M M M (mi M M M M (fun T=>ir ck M M (df M T))),
    ⟨tN 0 62 9 M M M (mi M M M M (fun T=>nb M)),
    ⟨iM 65 12 62 9 M M M (mi M M M M (fun T=>gY (df M T))),
    ⟨iM 66 13 62 9 M M M (mi M M M M (fun T=>mY (n:=2) rG M (df M T) M)),
    ⟨iM 67 14 62 9 M M M (mi M M M M (fun T=>gy eK M (.head _) (.tail _ (.tail _ (.head _))) (df M T))),
    ⟨tN 6 62 9 M M M (mi M M M M (fun T=>nN ol jk M M)),
    ⟨iM 69 16 62 9 M M M (mi M M M M (fun T=>ir ck M M (df M T))),
    ⟨BQ 68 15 70 17 62 9 M M M M (mi M M M M (fun T=>bp gr ck M (mK (df M T)) (df M T) (q_e2g T))),
    ⟨iM 71 18 62 9 M M M (mi M M M M (fun T=>ir ck M M (df M T))),
    ⟨iM 72 19 62 9 M M M (mi M M M M (fun T=>gc (df M T) hI)),
    ⟨BQ 64 11 73 20 62 9 M M M M (mi M M M M (fun T=>jt (df M T) (df M T))),
    ⟨gg 62 9 74 21 M M M (qV (D M) (fun V=>(df M (CY V))) (fun V=>(h1t V).2) h0t),
    ⟨fb 75 22 M M (nb M),
    ⟨tN 6 76 23 M M M (mi M M M M (fun T=>nN jz eG M M)),
    ⟨iM 77 24 76 23 M M M (mi M M M M (fun T=>ir ck M M (df M T))),
    ⟨iM 78 25 76 23 M M M (mi M M M M (fun T=>mL (df M T) hI)),
    ⟨gg 76 23 79 26 M M M (RR M M),
    aR⟩⟩⟩⟩⟩⟩⟩⟩⟩⟩⟩⟩⟩⟩⟩⟩⟩⟩⟩⟩⟩⟩⟩⟩⟩⟩⟩⟩ ?_
   refine aB<|oH h M (fun h=>?_) (fun h=>?_)
   ·exact aV<|dj<|cn<|da<|an<|aJ<|aJ<|aJ<|so h▸js (ts:=[cE 0,gC false]) (rvs:=[.tmp 4,.tmp 5]) M M ⟨aQ M,aQ M,aR⟩ qt M M
   ·refine kF<|aI<|cC h fun e3 q_e3 h=>?_
    refine hD (ts:=[_,_,_,_,_,_,_,_,_,_]) mixed M M
     ⟨iJ M M,
     ⟨fb 81 0 M M (gY (D M)),
     ⟨fb 82 1 M M (rW 2 rG M M M),
     ⟨fb 83 2 M M (gy eK M (.head _) (.tail _ (.tail _ (.head _))) (D M)),
     ⟨qd 6 M M (nN jz eG M M),
     ⟨jf 4 ck M M,
     ⟨gg 84 3 86 5 M M M (bp gr ck M (mK (D M)) (D M) q_e3),
     ⟨jf 6 ck M M,
     ⟨fb 88 7 M M (Bi M),
     ⟨Lg M (RE),
     aR⟩⟩⟩⟩⟩⟩⟩⟩⟩⟩ ?_
    exact aB<|mo<|aJ<|aJ<|aJ<|so h▸js (ts:=[cE e3,gC true]) (rvs:=[.tmp 4,.tmp 5]) M M ⟨aQ M,aQ M,aR⟩ qt M M

def Mf(b:Nat)(ix:OI)(c:au):xv bh 90 (fun(x:Int×Bool)=>[cE x.1,gC x.2]) (fun _=>j5 c) (dL b) (dL b c ix) [bC (rT (tV (ax b 0))) ()]:=by
 refine xv.of Tryz.func90 M M M fun Sg yld s R h hx yv hy e he w0 S0 B hB=>?_
 replace h:j5 c yld s=some R:=h
 refine(show CG _ _ _ [e,bx (rH bc [(1,aL (ix.h 0).1 (ix.h 0).2 c.kinds.length),(2,aL (ix.h 1).1 (ix.h 1).2 c.first.length)]) 102 b c,hX px 23 (ix.h 0).1 (ix.h 0).2 c.kinds,hX cN 3 (ix.h 1).1 (ix.h 1).2 c.first] _ from ?_);refine aV<|wv (yI (fun y:(au->aa->Option (((List Int)×Bool)×au))=>jE bh xC (dL b) yy y)) rU M fun b1=>K (jG nO (D M)) ?_
 refine sQ ((show bT _ _ _ _ (jE bh xC (dL b) yy N7)from pK Sd (D M) (fun c x R h i=>by
   obtain⟨r,Y,rfl⟩:=CB.1 h
   exact nI (Ob:=fun j=>dL b c j) (i:=i) (QC _ i c _ Y)))) M ?_
 refine oB (γ:=(fun y:(au->aa->Option (((List Int)×Bool)×au))=>jE bh xC (dL b) yy y)) (y:=N7) Cz (kQ qb) (D M) (wm hI) (D M) fun os=>K (jG nO (D M)) ?_
 refine sQ ((show bT _ _ _ _ (jE bh xC (dL b) yy N6)from pK Sc (D M) (fun c x R h i=>by
   obtain⟨r,Y,rfl⟩:=CB.1 h
   exact nI (Ob:=fun j=>dL b c j) (i:=i) (QB _ i c _ Y)))) M ?_
 refine oB (γ:=(fun y:(au->aa->Option (((List Int)×Bool)×au))=>jE bh xC (dL b) yy y)) (y:=N6) Cz (kQ qb) (D M) (wm hI) (D M) fun os1=>K (jG nO (D M)) ?_
 refine sQ ((show bT _ _ _ _ (jE bh xC (dL b) yy Oc)from pK Sb (D M) (fun c x R h i=>by
   obtain⟨r,Y,rfl⟩:=CB.1 h
   exact nI (Ob:=fun j=>dL b c j) (i:=i) (QA _ i c _ Y)))) M ?_
 refine oB (γ:=(fun y:(au->aa->Option (((List Int)×Bool)×au))=>jE bh xC (dL b) yy y)) (y:=Oc) Cz (kQ qb) (D M) (wm hI) (D M) fun os2=>K (jG nO (D M)) ?_
 refine sQ ((show bT _ _ _ _ (jE bh xC (dL b) yy N8)from pK Sa (D M) (fun c x R h i=>by
   obtain⟨r,Y,rfl⟩:=CB.1 h
   exact nI (Ob:=fun j=>dL b c j) (i:=i) (Qz _ i c _ Y)))) M ?_
 refine oB (γ:=(fun y:(au->aa->Option (((List Int)×Bool)×au))=>jE bh xC (dL b) yy y)) (y:=N8) Cz (kQ qb) (D M) (wm hI) (D M) fun os3=>K (jG nO (D M)) ?_
 refine sQ ((show bT _ _ _ _ (jE bh xC (dL b) yy Od)from pK R9 (D M) (fun c x R h i=>by
   obtain⟨r,Y,rfl⟩:=CB.1 h
   exact nI (Ob:=fun j=>dL b c j) (i:=i) (Qy _ i c _ Y)))) M ?_
 refine oB (γ:=(fun y:(au->aa->Option (((List Int)×Bool)×au))=>jE bh xC (dL b) yy y)) (y:=Od) Cz (kQ qb) (D M) (wm hI) (D M) fun os4=>K (jG nO (D M)) ?_
 refine sQ ((show bT _ _ _ _ (jE bh xC (dL b) yy Oe)from pK R8 (D M) (fun c x R h i=>by
   obtain⟨r,Y,rfl⟩:=CB.1 h
   exact nI (Ob:=fun j=>dL b c j) (i:=i) (Qx _ i c _ Y)))) M ?_
 refine oB (γ:=(fun y:(au->aa->Option (((List Int)×Bool)×au))=>jE bh xC (dL b) yy y)) (y:=Oe) Cz (kQ qb) (D M) (wm hI) (D M) fun os5=>K (jG nO (D M)) ?_
 refine sQ ((show bT _ _ _ _ (jE bh xC (dL b) yy Oa)from pK R7 (D M) (fun c x R h i=>by
   obtain⟨r,Y,rfl⟩:=CB.1 h
   exact nI (Ob:=fun j=>dL b c j) (i:=i) (Qw _ i c _ Y)))) M ?_
 refine oB (γ:=(fun y:(au->aa->Option (((List Int)×Bool)×au))=>jE bh xC (dL b) yy y)) (y:=Oa) Cz (kQ qb) (D M) (wm hI) (D M) fun os6=>K (jG nO (D M)) ?_
 refine sQ ((show bT _ _ _ _ (jE bh xC (dL b) yy N9)from pK R6 (D M) (fun c x R h i=>by
   obtain⟨r,Y,rfl⟩:=CB.1 h
   exact nI (Ob:=fun j=>dL b c j) (i:=i) (Qv _ i c _ Y)))) M ?_
 refine oB (γ:=(fun y:(au->aa->Option (((List Int)×Bool)×au))=>jE bh xC (dL b) yy y)) (y:=N9) Cz (kQ qb) (D M) (wm hI) (D M) fun os7=>bu M<|aY M<|aV<|K (jG nO (D M))<|K (gY (D M))<|bJ 0 Da M<|bJ 0 gq M<|K (be (r:=rH bc [(1,aL (ix.h 0).1 (ix.h 0).2 c.kinds.length),(2,aL (ix.h 1).1 (ix.h 1).2 c.first.length)]) (x:=c) nk M M (OH (lg tg eg)) (.tail _ (.tail _ (.head _))) (D M))<|cA jW M<|K (ci hI)<|cb<|av<|bA (k:=33) M fun hN=>cd<|o8<|o8<|o8<|kC<|o8 ?_;refine aP (A5 (h3:=fun ls i e1 s1 ob l c1 l1 c2=>(c.Logic.Nodes.drop i=ls)/\hx s1 e1/\bm yld ls i s1 ob=some R) (Of:=fun _ i e1 s1 ob l c1 l1 c2=>[e1,pL (yI (fun y:(au->aa->Option (((List Int)×Bool)×au))=>jE bh xC (dL b) yy y)) rU b1 none os7 Lw,bx (rH bc [(1,aL l c1 ob.kinds.length),(2,aL l1 c2 ob.first.length)]) 102 b ob,hX px 23 l c1 ob.kinds,hX cN 3 l1 c2 ob.first]) (Gf:=fun _ i e1 s1 ob l c1 l1 c2=>[(0,tV yv),(1,bC (rT (tV (ax b 0))) ()),(3,tV (oG b1)),(33,gk (ak) c.Logic.Nodes),(34,jw c.Logic.Nodes),(35,cE (i:Int))]) (fun i e1 s1 ob l c1 l1 c2 h=>?_) (fun e2 tl ih i e1 s1 ob l c1 l1 c2 h=>?_) c.Logic.Nodes 0 e s c (ix.h 0).1 (ix.h 0).2 (ix.h 1).1 (ix.h 1).2 ⟨M,⟨he,h⟩⟩) (bv M)
 ·obtain⟨I,h⟩:=h
  obtain⟨he1,h⟩:=h
  exact fa I M<|bq<|aN<|cy<|cy<|cy<|cy<|so h▸I8 M he1 (Ov [(l,c1),(l1,c2)]) M
 ·obtain⟨I,h⟩:=h
  obtain⟨he1,h⟩:=h
  refine eZ I M<|aI<|av<|aZ M<|gF jW dV M (fy I)<|aA dV iA M fun b2=>jy M<|aO dV ac M<|aD 5 M<|cb<|aI ?_;refine aG<|bu M<|bP mP fU ck M<|K (Ej (γ:=(fun y:(au->aa->Option (((List Int)×Bool)×au))=>jE bh xC (dL b) (fun(x:(List Int)×Bool)=>tT [H vN x.1,H rB x.2]) y)) (z:=fun _ _=>none) Cz (kQ qb) PL (fun _=>H7) (.tail _ (.head _)) (D M) (wm (D M)))<|bu M<|bZ M M<|bZ M M<|jy M<|aY M<|aZ M<|bu M<|cC h fun t q_t h=>aE M (fun T=>pe dV M M) ?_
  obtain⟨r,h1t,h0t⟩:=og q_t
  have q_rg:=fun V=>(h1t V).1
  refine aE M (fun T=>cm Rw (MO _ (q_rg T)) ⟨(df M T),aR⟩) ?_
  obtain⟨r1,h1t⟩:=RJ (fun V=>(h1t V).2)
  have q_r1g:=fun V=>(h1t V).1
  refine aE M (fun T=>cm R5 (OM _ (q_r1g T)) ⟨(df M T),aR⟩)<|K (dS (D M) (fun V=>(df M V)) (fun V=>(h1t V).2) h0t)<|aY M ?_;refine IZ (h3:=fun ok ob1 l2 c3 l3 c4=>dT yld (bm yld tl) i e2 s1 ok ob1=some R) (Of:=fun ok ob1 l2 c3 l3 c4=>[e1,pL (yI (fun y:(au->aa->Option (((List Int)×Bool)×au))=>jE bh xC (dL b) yy y)) rU b1 none os7 Lw,bx (rH bc [(1,aL l2 c3 ob1.kinds.length),(2,aL l3 c4 ob1.first.length)]) 102 b ob1,hX px 23 l2 c3 ob1.kinds,hX cN 3 l3 c4 ob1.first]) (Gf:=fun ok ob1 l2 c3 l3 c4=>[(0,tV yv),(1,bC (rT (tV (ax b 0))) ()),(3,tV (oG b1)),(4,cE (i:Int)),(5,bC ak e2),(6,jE bh xC (dL b) yy ((n7 Lw e2.Op).getD (fun _ _=>none))),(8,gC ok),(33,gk (ak) c.Logic.Nodes),(34,jw c.Logic.Nodes),(35,cE (i:Int))]) (fun ok ob1 l2 c3 l3 c4 h=>?_) (fun ah=>?_)
  ·skip
   refine aV<|oI cN<|cb ?_;refine IY (h3:=fun ok1 kinds ob2 l4 c5 l5 c6=>fL yld (bm yld tl) i s1 ok1 kinds ob2=some R) (Of:=fun ok1 kinds ob2 l4 c5 l5 c6=>[e1,pL (yI (fun y:(au->aa->Option (((List Int)×Bool)×au))=>jE bh xC (dL b) yy y)) rU b1 none os7 Lw,bx (rH bc [(1,aL l4 c5 ob2.kinds.length),(2,aL l5 c6 ob2.first.length)]) 102 b ob2,hX px 23 l4 c5 ob2.kinds,hX cN 3 l5 c6 ob2.first]) (Gf:=fun ok1 kinds ob2 l4 c5 l5 c6=>[(0,tV yv),(1,bC (rT (tV (ax b 0))) ()),(3,tV (oG b1)),(4,cE (i:Int)),(8,gC ok1),(10,lO kinds),(33,gk (ak) c.Logic.Nodes),(34,jw c.Logic.Nodes),(35,cE (i:Int))]) (fun ok1 kinds ob2 l4 c5 l5 c6 h=>?_) (fun K1=>?_)
   ·skip
    refine aZ M<|bu M<|aE M (fV M)<|aE M (p5 gr M)<|aE M (fun T=>oV (df M T) hI)<|fZ M<|aY M<|aI<|cC h fun l6 q_l6 h=>?_
    refine jN 8 [tc (tV (ax b 0)),tc (tV (ax b 0)),tc (tV (ax b 0)),tc (tV (ax b 1)),tc (tO px l4 c5 ob2.kinds),tc (lO kinds),tc (gk (px) ([kinds])),([7],fun s=>tO px ((s.getD 0 qt).h 0).1 ((s.getD 0 qt).h 0).2 l6)] [false,false,false,false,false,false,false,true] [fun _=>[e1,pL (yI (fun y:(au->aa->Option (((List Int)×Bool)×au))=>jE bh xC (dL b) yy y)) rU b1 none os7 Lw,bx (rH bc [(1,aL l4 c5 ob2.kinds.length),(2,aL l5 c6 ob2.first.length)]) 102 b ob2,hX px 23 l4 c5 ob2.kinds,hX cN 3 l5 c6 ob2.first],fun sg=>[hX px 23 ((sg 7).h 0).1 ((sg 7).h 0).2 l6,e1,pL (yI (fun y:(au->aa->Option (((List Int)×Bool)×au))=>jE bh xC (dL b) yy y)) rU b1 none os7 Lw,bx (rH bc [(1,aL l4 c5 ob2.kinds.length),(2,aL l5 c6 ob2.first.length)]) 102 b ob2,hX cN 3 l5 c6 ob2.first]] M mixed M M M M M
     ⟨⟨[⟨1,fun _=>bC (rT (tV (ax b 0))) (),none⟩],_,0,1,M,⟨(fun _=>M),aR⟩,M,M,M,M,M,fun _ sg _ _=>ae M (jG nO (D M))⟩,
     ⟨⟨[⟨1,fun _=>bC (rT (tV (ax b 0))) (),none⟩],_,0,0,M,⟨(fun _=>M),aR⟩,M,M,M,M,M,fun _ sg _ _=>ae M (jG nO (D M))⟩,
     ⟨⟨[⟨84,fun _=>tV (ax b 0),some 1⟩],_,0,0,M,⟨(fun _=>M),aR⟩,M,M,M,M,M,fun _ sg _ _=>ae M (gY (D M))⟩,
     ⟨⟨[⟨85,fun _=>tV (ax b 0),some 2⟩],_,0,0,M,⟨(fun _=>M),aR⟩,M,M,M,M,M,fun _ sg _ _=>ae M (rW 1 lN M M M)⟩,
     ⟨⟨[⟨86,fun _=>tV (ax b 1),some 3⟩],_,0,0,M,⟨(fun _=>M),aR⟩,M,M,M,M,M,sw (fun sg=>ae M (gy qG M (.tail _ (.tail _ (.head _))) (.tail _ (.tail _ (.tail _ (.head _)))) (D M)))⟩,
     ⟨⟨[⟨10,fun _=>H vN kinds,none⟩],_,0,0,M,⟨(fun _=>M),aR⟩,M,M,M,M,M,fun _ sg _ _=>ae M (nb M)⟩,
     ⟨⟨[⟨88,fun _=>H vN kinds,some 5⟩],_,0,0,M,⟨(fun _=>M),aR⟩,M,M,M,M,M,fun _ sg _ _=>ae M (aW (r:=vN) (ys:=[kinds]) (xs:=[.tmp 88]) sY eK M M M M M ⟨(D M),aR⟩)⟩,
     ⟨⟨[⟨87,fun _=>tO vN l4 c5 ob2.kinds,some 4⟩,⟨89,fun _=>H (gJ vN) ([kinds]),some 6⟩],_,M,⟨(fun _=>M),(fun _=>M),aR⟩,M,M,M,fun sg=>cD M (EffOK.fr3 (yS eK M M M M sY M (D M) (D M) q_l6))⟩,
     aR⟩⟩⟩⟩⟩⟩⟩⟩ (fun sg=>?_)
    refine(show RG _ _ _ _ [_,_,_,_,_] _ from ?_);refine K (gY (D M))<|bJ 1 lN M<|vg (EffOK.fr3 (AO (hs' :=[(1,aL ((sg 7).h 0).1 ((sg 7).h 0).2 l6.length),(2,aL l5 c6 ob2.first.length)]) (u:=aL ((sg 7).h 0).1 ((sg 7).h 0).2 l6.length) qG M M CO M ⟨.inl ⟨M,M,M⟩,.inr ⟨M,M⟩,aR⟩ (D M) (mK (D M)) (wH (D M)))) fun i1=>?_;refine(show RG _ _ _ _ [_,_,_,_,_] _ from ?_);refine cb<|aZ M<|bu M<|bu M<|dy<|cC h fun r2 q_r2 h=>K4 hy he1 q_r2 (D M) ⟨(D M),(D M),aR⟩ M fun e3 he2=>K (iY (D M))<|bu M<|cw M (fV M)<|cw M (zG M)<|nv M<|dv h M (fun h=>?_) (fun h=>?_)
    ·exact mo<|eN<|an<|yo<|cy<|aN<|cy<|cy<|cy<|cy<|so h▸Fs M he2 (Ov [(((sg 7).h 0).1,((sg 7).h 0).2),(l5,c6)]) M
    ·refine cc<|dU I hN M<|cH<|cy<|cy<|cH<|cH ?_;exact bg (aP (ih (i+1) e3 r2.2 ({ob2 with kinds:=l6}:au) ((sg 7).h 0).1 ((sg 7).h 0).2 l5 c6 ⟨dH I,⟨he2,h⟩⟩) (bv M))
   ·skip
    refine aZ M<|dv h M (fun h=>?_) (fun h=>?_)
    ·refine aG<|bu M<|bw dV M<|cC h fun r3 q_r3 h=>GS (EffOK.fr4 (EffOK.fr4 (EffOK.fr4 (Dj (args:=xC) (Ob:=dL b) (res:=yy) (f:=((n7 Lw e2.Op).getD (fun _ _=>none))) (x:=ob1) (y:=((e2):aa)) (R:=r3) (i:=(Ov [(l2,c3),(l3,c4)])) (xs:=[.tmp 73]) _ M (D M) q_r3 ⟨(D M),aR⟩ (fun _=>M))))) M fun i2=>?_;refine(show RG _ _ _ _ [_,_,_,_,_] ((74,tT [lO r3.1.1,gC r3.1.2])::_)from ?_);refine bu M<|bZ M M<|bZ M M<|jy M<|jy M<|bt<|aJ<|aJ<|aJ<|cH<|cH ?_;exact c9 (K1 r3.1.2 r3.1.1 r3.2 (i2.h 0).1 (i2.h 0).2 (i2.h 1).1 (i2.h 1).2 h) (bv M)
    ·refine cc ?_;exact c9 (K1 ok ([]) ob1 l2 c3 l3 c4 h) (bv M)
  ·skip
   refine aZ M<|dv h M (fun h=>?_) (fun h=>?_)
   ·refine aV<|dj<|cb<|aV<|K (jG nO (D M))<|bu M<|cC h fun r4 q_r4 h=>GS (EffOK.fr4 (EffOK.fr4 (EffOK.fr4 (IF (xs:=[.tmp 55,.tmp 56]) (ts:=[tV (ax b 0),cE (i:Int)]) (dL b ob (Ov [(l,c1),(l1,c2)])) _ M Rv (Pk b (Ov [(l,c1),(l1,c2)]) ob _ q_r4) ⟨(D M),(D M),aR⟩ (fun _=>M))))) M fun i3=>?_;refine(show RG _ _ _ _ [_,_,_,_,_] ((57,tT [cE r4.1,gC r4.2])::_)from ?_);refine bu M<|bZ M M<|bZ M M<|jy M<|aY M<|cC h fun l7 q_l7 h=>?_
    refine jN 8 [tc (tV (ax b 0)),tc (tV (ax b 0)),tc (tV (ax b 0)),tc (tV (ax b 2)),tc (tO cN l1 c2 ob.first),tc (cE r4.1),tc (lO ([r4.1])),([7],fun s=>tO cN ((s.getD 0 qt).h 0).1 ((s.getD 0 qt).h 0).2 l7)] [false,false,false,false,false,false,false,true] [fun _=>[bx (rH bc [(1,aL l c1 ob.kinds.length),(2,aL l1 c2 ob.first.length)]) 102 b ob,hX px 23 l c1 ob.kinds,hX cN 3 l1 c2 ob.first,e1,pL (yI (fun y:(au->aa->Option (((List Int)×Bool)×au))=>jE bh xC (dL b) yy y)) rU b1 none os7 Lw],fun sg1=>[hX cN 3 ((sg1 7).h 0).1 ((sg1 7).h 0).2 l7,bx (rH bc [(1,aL l c1 ob.kinds.length),(2,aL l1 c2 ob.first.length)]) 102 b ob,hX px 23 l c1 ob.kinds,e1,pL (yI (fun y:(au->aa->Option (((List Int)×Bool)×au))=>jE bh xC (dL b) yy y)) rU b1 none os7 Lw]] M mixed M M M M M
     ⟨⟨[⟨1,fun _=>bC (rT (tV (ax b 0))) (),none⟩],_,0,1,M,⟨(fun _=>M),aR⟩,M,M,M,M,M,fun _ sg1 _ _=>ae M (jG nO (D M))⟩,
     ⟨⟨[⟨1,fun _=>bC (rT (tV (ax b 0))) (),none⟩],_,0,0,M,⟨(fun _=>M),aR⟩,M,M,M,M,M,fun _ sg1 _ _=>ae M (jG nO (D M))⟩,
     ⟨⟨[⟨61,fun _=>tV (ax b 0),some 1⟩],_,0,0,M,⟨(fun _=>M),aR⟩,M,M,M,M,M,fun _ sg1 _ _=>ae M (gY (D M))⟩,
     ⟨⟨[⟨62,fun _=>tV (ax b 0),some 2⟩],_,0,0,M,⟨(fun _=>M),aR⟩,M,M,M,M,M,fun _ sg1 _ _=>ae M (rW 2 rG M M M)⟩,
     ⟨⟨[⟨63,fun _=>tV (ax b 2),some 3⟩],_,0,0,M,⟨(fun _=>M),aR⟩,M,M,M,M,M,sw (fun sg1=>ae M (gy eK M (.head _) (.tail _ (.tail _ (.head _))) (D M)))⟩,
     ⟨⟨[⟨9,fun _=>H cN r4.1,none⟩],_,0,0,M,⟨(fun _=>M),aR⟩,M,M,M,M,M,fun _ sg1 _ _=>ae M (nb M)⟩,
     ⟨⟨[⟨65,fun _=>H cN r4.1,some 5⟩],_,0,0,M,⟨(fun _=>M),aR⟩,M,M,M,M,M,fun _ sg1 _ _=>ae M (aW (r:=cN) (ys:=[r4.1]) (xs:=[.tmp 65]) gr ck M M M M M ⟨(D M),aR⟩)⟩,
     ⟨⟨[⟨64,fun _=>tO cN l1 c2 ob.first,some 4⟩,⟨66,fun _=>H vN ([r4.1]),some 6⟩],_,M,⟨(fun _=>M),(fun _=>M),aR⟩,M,M,M,fun sg1=>cD M (EffOK.fr2 (yS ck M M M M gr M (D M) (D M) q_l7))⟩,
     aR⟩⟩⟩⟩⟩⟩⟩⟩ (fun sg1=>?_)
    refine(show RG _ _ _ _ [_,_,_,_,_] _ from ?_);refine K (gY (D M))<|bJ 2 rG M<|vg (EffOK.fr1 (AO (hs' :=[(1,aL l c1 ob.kinds.length),(2,aL ((sg1 7).h 0).1 ((sg1 7).h 0).2 l7.length)]) (u:=aL ((sg1 7).h 0).1 ((sg1 7).h 0).2 l7.length) eK M M CN M ⟨.inr ⟨M,M⟩,.inl ⟨M,M,M⟩,aR⟩ (D M) (mK (D M)) (wH (D M)))) fun i4=>?_;refine(show RG _ _ _ _ [_,_,_,_,_] _ from ?_);refine bt<|bq<|aJ<|aJ<|cH<|cH ?_;exact c9 (ah r4.2 ({ob with first:=l7}:au) l c1 ((sg1 7).h 0).1 ((sg1 7).h 0).2 h) (bv M)
   ·refine cc ?_;exact c9 (ah t ob l c1 l1 c2 h) (bv M)

end Go.Proofs.YtbmmihfagmchaaaGreat

