/- cW of this claim: P10. -/
import Derived.Test.YtbmmihfagmchaaaGreatRcT
import Derived.Test.YtbmmihfagmchaaaGreatRcP9
set_option linter.all false
namespace Go.Proofs.YtbmmihfagmchaaaGreat
open Go
set_option maxRecDepth 100000

def Pd a1 b{R}(h:Al a1 b=some R):cK bh 21 [H af a1,H af b] (gC R):=by
 refine ep Tryz.func21 M<|aV<|dh M<|dh M<|cn<|cb<|bl<|bP dq cG iU M<|cA na M<|bP dq cG iU M<|cA na M<|K (jt (D M) (D M))<|dv h M (fun h=>?_) (fun h=>?_)
 ·exact aV<|cn<|da<|an<|so h▸bB M M
 ·refine kF<|bl<|bP dq cG iU M<|cA na M<|K (ci hI)<|cb<|av<|bA (k:=14) M fun hN=>cd ?_;refine aP (jq (h3:=fun ls i=>(a1.Nodes.drop i=ls)/\r0 b ls i=some R) (Of:=fun _ i=>[]) (Gf:=fun _ i=>[(2,bC af a1),(3,bC af b),(15,jw a1.Nodes),(16,cE (i:Int))]) (fun i h=>?_) (fun e tl ih i h=>?_) a1.Nodes 0 ⟨M,h⟩) (bv M)
  ·obtain⟨I,h⟩:=h
   exact fa I M<|aB<|aV<|cn<|da<|so h▸bB M M
  ·obtain⟨I,h⟩:=h
   refine eZ I M<|aI<|av<|aZ M<|aY M<|aI<|cC h fun e1 q_e1 h=>?_
   refine hD (ts:=[_,_,_,_,_,_,_,_,_,_,_]) mixed M M
    ⟨qd 2 M M (nN dq cG M M),
    ⟨jf 0 iU M M,
    ⟨iJ M M,
    ⟨gg 20 1 21 2 M M M (H1 na fc M M M (fy I)),
    ⟨jf 3 fc M M,
    ⟨qd 3 M M (nN dq cG M M),
    ⟨jf 5 iU M M,
    ⟨iJ M M,
    ⟨gg 25 6 26 7 M M M (H1 na fc M M M q_e1),
    ⟨jf 8 fc M M,
    ⟨gg 23 4 28 9 M M M (wW QL (D M) (D M)),
    aR⟩⟩⟩⟩⟩⟩⟩⟩⟩⟩⟩ ?_
   refine aB<|oH h M (fun h=>?_) (fun h=>?_)
   ·exact aV<|cn<|da<|eN<|an<|eN<|so h▸bB M M
   ·refine cc<|dU I hN M ?_;exact bg (aP (ih (i+1) ⟨dH I,h⟩) (bv M))

def QE{R}(h:uC=some R):cK bh 6 [] (gC R):=by
 refine ep Tryz.func6 M<|aV<|cn<|cb<|aV<|eu h QY Kt trivial fun r h=>eu h Pv (Gy _) (co M) fun r1 h=>bu M<|bZ M M<|bZ M M<|aA cQ d5 M fun b=>aO cQ ac M<|aD 1 M<|aY M<|aV<|cC h fun r2 q_r2 h=>?_;refine K (cm QY (Kt q_r2) trivial)<|eu h Rd (Kx _) (co M) fun r3 h=>bu M<|bZ M M<|bZ M M<|bZ M M<|aA cQ d5 M fun b1=>aO cQ ac M<|aD 3 M<|jy M<|aY M<|aI<|cC h fun t q_t h=>?_
 obtain⟨e,h1t,h0t⟩:=og q_t
 have q_eg:=fun V=>(h1t V).1
 refine cC h fun t1 q_t1 h=>?_
 obtain⟨e1,h1t1,h0t1⟩:=og q_t1
 have q_e1g:=fun V=>(h1t1 V).1
 refine cC h fun t2 q_t2 h=>?_
 obtain⟨e2,h1t2,h0t2⟩:=og q_t2
 have q_e2g:=fun V=>(h1t2 V).1
 refine cC h fun t3 q_t3 h=>?_
 obtain⟨e3,h1t3,h0t3⟩:=og q_t3
 have q_e3g:=fun V=>(h1t3 V).1
 obtain⟨r4,h1t3⟩:=RJ (fun V=>(h1t3 V).2)
 have q_r4g:=fun V=>(h1t3 V).1
 obtain⟨r5,h1t3⟩:=RJ (fun V=>(h1t3 V).2)
 have q_r5g:=fun V=>(h1t3 V).1
 refine hD (ts:=[_,_,_,_,_,_,_,_,_,_,_,_,_,_,_,_,_,_,_,_,_,_,_,_,_,_,_,_,_,_,_,_,_,_,_,_,_,_,_,_,_,_,_,_,_,_,_,_,_]) mixed M M
  ⟨iJ M M,
  ⟨fb 17 0 M M (PD M),
  ⟨fb 18 1 M M (nb M),
  ⟨tN 5 19 2 M M M (cz M M M M (fun T=>nb M)),
  ⟨iM 20 3 19 2 M M M (cz M M M M (fun T=>gZ (df M T) hI)),
  ⟨gg 19 2 21 4 M M M (PA M M),
  ⟨fb 22 5 M M (nb M),
  ⟨tN 4 23 6 M M M (cz M M M M (fun T=>nb M)),
  ⟨gg 23 6 24 7 M M M (PA M M),
  ⟨fb 25 8 M M (nb M),
  ⟨tN 1 26 9 M M M (cz M M M M (fun T=>nN gq eg M M)),
  ⟨iM 27 10 26 9 M M M (cz M M M M (fun T=>ir nk M M (df M T))),
  ⟨iM 28 11 26 9 M M M (cz M M M M (fun T=>ke jW (df M T))),
  ⟨iM 29 12 26 9 M M M (cz M M M M (fun T=>gZ (df M T) hI)),
  ⟨gg 26 9 30 13 M M M (PA M M),
  ⟨fb 31 14 M M (nb M),
  ⟨tN 1 32 15 M M M (cz M M M M (fun T=>nN gq eg M M)),
  ⟨iM 33 16 32 15 M M M (cz M M M M (fun T=>ir nk M M (df M T))),
  ⟨iM 34 17 32 15 M M M (cz M M M M (fun T=>bp jW dV M (df M T) hI (q_eg T))),
  ⟨iM 35 18 32 15 M M M (cz M M M M (fun T=>iZ mP M fU M (df M T))),
  ⟨iM 36 19 32 15 M M M (cz M M M M (fun T=>ir ck M M (df M T))),
  ⟨iM 37 20 32 15 M M M (cz M M M M (fun T=>gZ (df M T) hI)),
  ⟨gg 32 15 38 21 M M M (dS (D M) (fun V=>(df M V)) (fun V=>(h1t V).2) h0t),
  ⟨fb 39 22 M M (nb M),
  ⟨tN 1 40 23 M M M (cz M M M M (fun T=>nN gq eg M M)),
  ⟨iM 41 24 40 23 M M M (cz M M M M (fun T=>ir nk M M (df M T))),
  ⟨iM 42 25 40 23 M M M (cz M M M M (fun T=>bp jW dV M (df M T) hI (q_e1g T))),
  ⟨iM 43 26 40 23 M M M (cz M M M M (fun T=>iZ mP M fU M (df M T))),
  ⟨iM 44 27 40 23 M M M (cz M M M M (fun T=>ir ck M M (df M T))),
  ⟨iM 45 28 40 23 M M M (cz M M M M (fun T=>gZ (df M T) hI)),
  ⟨gg 40 23 46 29 M M M (dS (D M) (fun V=>(df M V)) (fun V=>(h1t1 V).2) h0t1),
  ⟨fb 47 30 M M (nb M),
  ⟨tN 1 48 31 M M M (cz M M M M (fun T=>nN gq eg M M)),
  ⟨iM 49 32 48 31 M M M (cz M M M M (fun T=>ir nk M M (df M T))),
  ⟨iM 50 33 48 31 M M M (cz M M M M (fun T=>bp jW dV M (df M T) hI (q_e2g T))),
  ⟨iM 51 34 48 31 M M M (cz M M M M (fun T=>iZ mP M fU M (df M T))),
  ⟨iM 52 35 48 31 M M M (cz M M M M (fun T=>ir ck M M (df M T))),
  ⟨iM 53 36 48 31 M M M (cz M M M M (fun T=>gZ (df M T) hI)),
  ⟨gg 48 31 54 37 M M M (dS (D M) (fun V=>(df M V)) (fun V=>(h1t2 V).2) h0t2),
  ⟨fb 55 38 M M (nb M),
  ⟨tN 1 56 39 M M M (cz M M M M (fun T=>nN gq eg M M)),
  ⟨iM 57 40 56 39 M M M (cz M M M M (fun T=>ir nk M M (df M T))),
  ⟨iM 58 41 56 39 M M M (cz M M M M (fun T=>bp jW dV M (df M T) hI (q_e3g T))),
  ⟨iM 59 42 56 39 M M M (cz M M M M (fun T=>iZ ki M fT M (df M T))),
  ⟨iM 60 43 56 39 M M M (cz M M M M (fun T=>ir aU M M (df M T))),
  ⟨zes 56 39 M M (cz M M M M (fun T=>cm Pu (Gx _ _ (q_r4g T)) ⟨hI,hI,aR⟩)),
  ⟨BQ 61 44 62 45 56 39 M M M M (cz M M M M (fun T=>cm SR (Pd _ _ (q_r5g T)) ⟨(df M T),(df M T),aR⟩)),
  ⟨gg 56 39 63 46 M M M (dS (D M) (fun V=>(df M V)) (fun V=>(h1t3 V).2) h0t3),
  ⟨fb 64 47 M M (Bi M),
  aR⟩⟩⟩⟩⟩⟩⟩⟩⟩⟩⟩⟩⟩⟩⟩⟩⟩⟩⟩⟩⟩⟩⟩⟩⟩⟩⟩⟩⟩⟩⟩⟩⟩⟩⟩⟩⟩⟩⟩⟩⟩⟩⟩⟩⟩⟩⟩⟩⟩ ?_
 exact aB<|mo<|so h▸bB M M

def Mq l most{R}(h:mN l most=some R):gP bh 23 [gk (ap) l,cE most] false ap 63 R:=by
 exact gP.of Tryz.func23 M M M fun w0 S0=>aV<|bL false ap 63<|K (bF tK)<|cb<|aV<|fC (r:=ap) (ys:=CI) (xs:=[]) na fc M M M M M trivial M fun l1 c=>bu M<|bu M<|cA na M<|bu M<|K (ru (D M) (D M))<|cC h fun y q_y h=>K (oU na fc M (D M) (D M) q_y)<|cC h fun x q_x h=>dE fc M M M M na M M (D M) (D M) q_x fun l2 c1=>bG M<|so h▸hG M M
def Km e{R}(h:nG e=some R):cK bh 7 [H af e] (H af R):=by
 refine ep Tryz.func7 M<|aV<|dh M<|aA aU cB M fun b=>cb<|aV<|bP dq cG iU M<|ri h SQ (Mq _ _) (co M) fun r h l c=>K (bR (y:=dY (⟨r⟩:ai) (aL l c r.length)) aU vp oL (⟨_,_,_,_,_,M,uq,M,(BC (D M)),M⟩))<|bL false ap 63<|aA (r:=dD) (x:=dY kI (aL none 0 (CI.length))) aU oL M fun b1=>ei (r' :=dD) aU M (jb M) M (D M) (D M)<|aT<|qq<|cb<|bl ?_;refine bJ 0 dq M<|K (fI iU iF (.head _) M (D M))<|K (fj na (.tail _ (.head _)) (D M))<|K (ci hI)<|cb<|av<|gj (.tail _ (.head _)) fun hN=>cd<|dn<|dn<|fi ?_;refine aP (jp (h3:=fun ls i out=>(r.drop i=ls)/\kf ls i out=some R) (Of:=fun _ i out=>[bx af 27 b kI,bx dD 27 b1 (dY out (aL l c out.Nodes.length)),fD ap 63 l c out.Nodes]) (Gf:=fun _ i out=>[(2,tV (ax b 0)),(3,tV (ax b1 0)),(12,jw r),(13,cE (i:Int))]) (fun i out h=>?_) (fun e1 tl ih i out h=>?_) r 0 ({(⟨r⟩:ai)with Nodes:=r}:ai) ⟨M,h⟩) (bv M)
 ·obtain⟨I,h⟩:=h
  refine fa I M<|aB<|aV<|dy<|ik<|K (iQ (q:=af) (y:=out) aU M M M M (.tail _ (.tail _ (.head _))) (fun _ _ _ ho h=>ox (j4 ho (.head _)) h) (D M))<|aT<|aO aU ac M<|aD 2 M<|da ?_;exact aN<|aN<|so h▸gR M aU M M M
 ·obtain⟨I,h⟩:=h
  refine eZ I M<|aI<|av<|aZ M<|aY M<|aV<|bJ 0 dq M<|K (fI iU iF (.tail _ (.head _)) M (D M))<|bu M<|cC h fun e2 q_e2 h=>?_;refine K (bX na fc (.tail _ (.tail _ (.head _))) (D M) (D M) q_e2)<|K (cM (o:=(i:Int).toNat*8+0) (n:=(i:Int).toNat*8+4) ya M (.tail _ (.tail _ (.head _))) q_e2 (D M) M)<|K (cM (o:=(i:Int).toNat*8+4) (n:=(i:Int).toNat*8+7) Gr M (.tail _ (.tail _ (.head _))) q_e2 (D M) M)<|aY M<|cC h fun y q_y h=>?_
  refine kD 11 (ts:=[tV (jn l ((i:Int).toNat*8+7)),tV (jn l ((i:Int).toNat*8+7)),tV (jn l ((i:Int).toNat*8+7)),H rS e2.Value.S,tV (jn l ((i:Int).toNat*8+7)),tV (jn l ((i:Int).toNat*8+7)),H rS e2.Value.S,jw e2.Value.S,cE (min (e2.Value.S.length:Int) (41:Int)),H rS y,tV (jn l ((i:Int).toNat*8+7))]) mixed M M M
   ⟨iJ M M,
   ⟨iJ M M,
   ⟨fb 23 1 M M (lL (.tail _ (.tail _ (.head _))) q_e2 (D M)),
   ⟨fb 24 2 M M (dm (r:=ap) (i:=(i:Int)) (foff:=7) PE M M (lg kS th) M (.tail _ (.tail _ (.head _))) q_e2 (D M)),
   ⟨iJ M M,
   ⟨fb 26 4 M M (lL (.tail _ (.tail _ (.head _))) q_e2 (D M)),
   ⟨fb 27 5 M M (dm (r:=ap) (i:=(i:Int)) (foff:=7) PE M M (lg kS th) M (.tail _ (.tail _ (.head _))) q_e2 (D M)),
   ⟨fb 28 6 M M (Hj DE (D M)),
   ⟨fb 29 7 M M (ru (D M) hI),
   ⟨gg 25 3 30 8 M M M (Im DE (D M) (D M) q_y),
   ⟨fb 22 0 M M (lL (.tail _ (.tail _ (.head _))) q_e2 (D M)),
   aR⟩⟩⟩⟩⟩⟩⟩⟩⟩⟩⟩ ?_
  refine dy<|cC h fun st q_st h=>ku PE M (xJ kS Ac z7) M q_e2 (so q_st) (D M) (D M)<|gA (d8 (so q_st)) 17 M<|oD (O' :=[fD ap 63 l c st,bx af 27 b kI,bx dD 27 b1 (dY out (aL l c st.length))]) (by first|(rw [d8 (so q_st)];done)|(rw [d8 (so q_st)];exact M)|exact M)<|bt<|dU I hN M<|aJ<|aJ ?_;exact bg (aP (ih (i+1) ({out with Nodes:=st}:ai) ⟨dH I,h⟩) (bv M))

end Go.Proofs.YtbmmihfagmchaaaGreat

