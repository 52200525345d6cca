/- cW of this claim: P8. -/
import Derived.Test.YtbmmihfagmchaaaGreatRcT
import Derived.Test.YtbmmihfagmchaaaGreatRcP7
set_option linter.all false
namespace Go.Proofs.YtbmmihfagmchaaaGreat
open Go
set_option maxRecDepth 100000

def Mx c n parts{R}(h:ig c n parts=some R):cK bh 147 [H ap n,gk (af) parts,bC vO c] (tT [H af R.1,cE R.2]):=by
 refine ep Tryz.func147 M<|aV<|dh M<|aA aU cB M fun b=>dj<|cb<|bl<|bP lF eH ck M<|dz M<|dv h M (fun h=>?_) (fun h=>?_)
 ·exact aV<|bw hZ M<|bP oZ ie ck M<|cC h fun e q_e h=>zE kX aU M q_e<|bP dq cG iU M<|ri h GK (u9 _) (co M) fun r h l c1=>ik<|m7 16 M<|K (bR (y:=(⟨r⟩:ai)) aU vp cB (⟨_,_,_,_,_,M,qv,M,(mK (D M)),M⟩))<|aT<|aO aU ac M<|fY<|an<|aK 5 M<|aN<|so h▸bI M M ⟨bf aU M M M,aQ M,aR⟩
 ·exact kF<|aV<|bw fc M<|bu M<|eu h NM (Hv _ _) (co M) fun r1 h=>aO aU ac M<|fY<|aK 5 M<|so h▸bI M M ⟨bf aU M M M,aQ M,aR⟩

def MI e l{R}(h:xh e l=some R):cK bh 124 [H af e,gk (af) l] (tT [H af R.1,cE R.2]):=by
 refine ep Tryz.func124 M<|aV<|dh M<|dh M<|aA aU cB M fun b=>dj<|cb<|aV<|bw aU M<|fC (r:=af) (ys:=[e]) (xs:=[.tmp 14]) kX aU M M M M M ⟨(D M),aR⟩ M fun l1 c=>bw hZ M<|cC h fun l2 q_l2 h=>dE aU M M M M kX M M (D M) (D M) q_l2 fun l3 c1=>ik<|m7 17 M<|eu h NN (Hw _) ⟨(mK (D M)),aR⟩ fun r h=>bu M<|bZ M M<|bZ M M<|jy M ?_;refine aY M<|bl<|bu M<|lH M<|dv h M (fun h=>?_) (fun h=>?_)
 ·exact aV<|K (bR aU vp cB M)<|bu M<|aT<|aO aU ac M<|bG M<|an<|aK 4 M<|aN<|so h▸bI M M ⟨bf aU M M M,aQ M,aR⟩
 ·refine kF<|bl<|bw aU M<|ri h Pq (Dc _) (co M) fun r1 h l4 c2=>K (fj gr (.head _) (D M))<|K (ci hI)<|cb<|av<|gj (.head _) fun hN=>cd<|dn<|pu ?_;refine aP (jp (h3:=fun ls i x=>(r1.drop i=ls)/\pQ e l ls x=some R) (Of:=fun _ i x=>[fD cN 3 l4 c2 r1,bx af 27 b x]) (Gf:=fun _ i x=>[(2,bC af e),(3,bC vO l),(4,tV (ax b 0)),(26,tB l4 c2 r1),(27,jw r1),(28,cE (i:Int))]) (fun i x h=>?_) (fun e1 tl ih i x h=>?_) r1 0 kI ⟨M,h⟩) (bv M)
  ·obtain⟨I,h⟩:=h
   refine fa I M<|aB<|aV<|dj<|cb<|bl<|bP dq cG iU M<|cA na M ?_;refine K (ci hI)<|cb<|av<|bA (k:=39) M fun hN1=>cd<|pu ?_;refine aP (jp (h3:=fun ls1 i1 n=>(e.Nodes.drop i1=ls1)/\kH e l ls1 n=some R) (Of:=fun _ i1 n=>[bx af 27 b x]) (Gf:=fun _ i1 n=>[(2,bC af e),(3,bC vO l),(4,tV (ax b 0)),(10,cE n),(39,gk (ap) e.Nodes),(40,jw e.Nodes),(41,cE (i1:Int))]) (fun i1 n h=>?_) (fun e2 tl1 ih1 i1 n h=>?_) e.Nodes 0 (0:Int) ⟨M,h⟩) (bv M)
   ·obtain⟨hx1,h⟩:=h
    refine fa hx1 M<|aB<|bl<|bu M<|K (uy (D M) hI)<|dv h M (fun h=>?_) (fun h=>?_)
    ·exact aV<|K (bR aU vp cB M)<|aO aU ac M<|fY<|an<|aK 4 M<|so h▸bI M M ⟨bf aU M M M,aQ M,aR⟩
    ·exact kF<|aV<|bw aU M<|K ((show bT _ _ _ _ ((kK bh Lu Lq (fun(x:aj×(List ai))=>(ig l) x.1 x.2)))from rx (cts:=[bC vO l]) (caps:=[.tmp 3]) Ra ⟨(D M),aR⟩ (fun x y h=>Mx _ _ _ h)))<|eu h Rb (My _ _) (co M) fun r2 h=>bZ M M<|bZ M M<|aO aU ac M<|bG M<|aK 4 M<|so h▸bI M M ⟨bf aU M M M,aQ M,aR⟩
   ·obtain⟨hx1,h⟩:=h
    refine eZ hx1 M<|aI<|av<|aV<|gF na fc M (fy hx1)<|aA fc iB M fun b1=>aO fc ac M<|aD 12 M<|cb<|aZ M ?_;refine K (lD (D M) hI)<|aY M<|aV<|bP lF eH ck M<|dz M<|dv h M (fun h=>?_) (fun h=>?_)
    ·refine aG<|bu M<|bw hZ M<|bP oZ ie ck M<|cC h fun e3 q_e3 h=>zE kX aU M q_e3<|bP dq cG iU M<|cA na M<|K (gc (D M) hI)<|K (lD (D M) (D M))<|jy M<|bt<|dU hx1 hN1 M ?_;exact bg (aP (ih1 (i1+1) (IntKind.i64.wrap ((IntKind.i64.wrap (n+(1:Int)))+(IntKind.i64.wrap ((e3.Nodes.length:Int)-(1:Int))))) ⟨dH hx1,h⟩) (bv M))
    ·refine cc<|dU hx1 hN1 M ?_;exact bg (aP (ih1 (i1+1) (IntKind.i64.wrap (n+(1:Int))) ⟨dH hx1,h⟩) (bv M))
  ·obtain⟨I,h⟩:=h
   refine eZ I M<|aI<|av<|aV<|K (bX gr ck (.head _) (D M) (D M) (fy I))<|K (dm (r:=cN) (i:=(i:Int)) (foff:=0) ck M M bO M (.head _) (fy I) (D M))<|aY M<|aZ M<|bw hZ M<|cA kX M ?_;refine K (gX (D M) (D M))<|dv h M (fun h=>?_) (fun h=>?_)
   ·exact aV<|K (bR aU vp cB M)<|aT<|aO aU ac M<|fY<|eN<|an<|eN<|aK 4 M<|aN<|so h▸bI M M ⟨bf aU M M M,aQ M,aR⟩
   ·refine cc<|dU I hN M ?_;exact bg (aP (ih (i+1) x ⟨dH I,h⟩) (bv M))

def OR s f{R}(h:gm s f=some R):cK bh 75 [gk (af) s,(kK bh Ln rh (fun(x:ai)=>f x))] (cE R):=by
 refine ep Tryz.func75 M<|aV<|dj<|cb<|bl<|bu M<|cA kX M<|K (ci hI)<|cb<|av<|bA (k:=6) M fun hN=>cd ?_;refine aP (jq (h3:=fun ls i=>(s.drop i=ls)/\db f ls i=some R) (Of:=fun _ i=>[]) (Gf:=fun _ i=>[(0,gk (af) s),(1,(kK bh Ln rh (fun(x:ai)=>f x))),(7,jw s),(8,cE (i:Int))]) (fun i h=>?_) (fun e tl ih i h=>?_) s 0 ⟨M,h⟩) (bv M)
 ·obtain⟨I,h⟩:=h
  exact fa I M<|aB<|aV<|fY<|so h▸bB M M
 ·obtain⟨I,h⟩:=h
  refine eZ I M<|aI<|av<|aZ M<|aY M<|aZ M<|bu M<|bu M<|zE kX aU M (fy I) ?_;refine bw aU M<|cC h fun r q_r h=>K (mZ (args:=Ln) (res:=Fz) (f:=(fun(x:ai)=>f x)) (x:=((e):ai)) (D M) q_r ⟨(D M),aR⟩)<|dv h M (fun h=>?_) (fun h=>?_)
  ·exact aZ M<|bG M<|eN<|an<|eN<|so h▸bB M M
  ·refine cc<|dU I hN M ?_;exact bg (aP (ih (i+1) ⟨dH I,h⟩) (bv M))

def O5 s f{R}(h:dc s f=some R):cK bh 48 [gk (af) s,(kK bh Ln rh (fun(x:ai)=>f x))] (gC R):=by
 exact ep Tryz.func48 M<|aV<|cn<|cb<|aZ M<|bu M<|eu h Sn (OR _ _) (co M) fun r h=>K (gX (D M) hI)<|bG M<|so h▸bB M M

def OP t x{R}(h:eS t x=some R):cK bh 87 [H aq t,gC x] (tT [H aq R.1,cE R.2]):=by
 refine ep Tryz.func87 M<|aV<|dh M<|aA br eW M fun b=>dj<|cb<|aV<|bP lE gT tP M<|cC h fun e q_e h=>K (bp ni br M (D M) hI q_e)<|bw br M<|aA br eW M fun b1=>aO br ac M<|aD 6 M<|cb<|bl<|pB iG dZ M ?_;refine bP mP fU ck M<|lH M<|bu M<|cC h fun t1 q_t1 h=>cw M (ez iG dZ M M)<|cw M (fun T=>iZ kh M gM M (df M T))<|cw M (ev hZ M M) ?_
 obtain⟨r,h1t1,h0t1⟩:=og q_t1
 have q_rg:=fun V=>(h1t1 V).1
 refine cw M (fun T=>cm SI (O5 _ _ (q_rg T)) ⟨(df M T),(Mb Rn fun x y h=>MJ _ h),aR⟩)<|K (qV (D M) (fun V=>(df M (CY V))) (fun V=>(h1t1 V).2) h0t1)<|dv h M (fun h=>?_) (fun h=>?_)
 ·exact aV<|bw br M<|aO br ac M<|fY<|an<|aK 4 M<|so h▸bI M M ⟨bf br M M M,aQ M,aR⟩
 ·refine kF<|aV<|bL false af 27<|K (bF tK)<|cb<|bl<|pB iG dZ M<|bP kh gM hZ M<|cA kX M<|K (ci hI)<|cb<|av<|bA (k:=29) M fun hN=>cd ?_;refine aP (m8 (h3:=fun ls i items l c x1=>(t.root.Items.drop i=ls)/\fv t e ls items x1=some R) (Of:=fun _ i items l c x1=>[fD af 27 l c items,bx aq 87 b x1]) (Gf:=fun _ i items l c x1=>[(2,bC aq t),(4,tV (ax b 0)),(6,bC aq e),(7,tB l c items),(29,gk (af) t.root.Items),(30,jw t.root.Items),(31,cE (i:Int))]) (fun i items l c x1 h=>?_) (fun e1 tl ih i items l c x1 h=>?_) t.root.Items 0 vP none 0 oF ⟨M,h⟩) (bv M)
  ·obtain⟨I,h⟩:=h
   refine fa I M<|aB<|aZ M<|ik<|m7 7 M<|m7 51 M<|K (bR (y:=(⟨(5:Int),(0:Int),(0:Int),(0:Int),[],false,kI,[],[],items,[],(0:Int)⟩:aa)) dV EQ iA (⟨_,_,_,_,_,M,lS,M,hI,⟨_,_,_,_,_,M,z8,M,(mK (D M)),M⟩⟩))<|bP lE gT tP M<|cC h fun e2 q_e2 h=>K (bp ni br M (D M) hI q_e2) ?_;exact bw br M<|K (aW (r:=aq) (ys:=[e2]) (xs:=[.tmp 56]) ni br M M M M M ⟨(D M),aR⟩)<|eu h KR (AL _ _) (co M) fun r1 h=>bZ M M<|bZ M M<|eu h KV (Dg _ _) (co M) fun r2 h=>bZ M M<|bZ M M<|aT<|aO br ac M<|bG M<|aK 4 M<|aN<|so h▸bI M M ⟨bf br M M M,aQ M,aR⟩
  ·obtain⟨I,h⟩:=h
   refine eZ I M<|aI<|av<|aV<|gF kX aU M (fy I)<|aA aU cB M fun b2=>aO aU ac M<|aD 9 M<|cb<|aV<|bw aU M ?_;refine pB iG dZ M<|bP kh gM hZ M<|eu h Rm (MI _ _) (co M) fun r3 h=>bu M<|bZ M M<|bZ M M<|aA aU cB M fun b3=>aO aU ac M<|aD 10 M<|aY M<|bl<|bu M<|lH M<|dv h M (fun h=>?_) (fun h=>?_)
   ·exact aV<|bw br M<|aT<|aO br ac M<|fY<|an<|eN<|an<|eN<|aK 4 M<|aN<|so h▸bI M M ⟨bf br M M M,aQ M,aR⟩
   ·refine kF<|aG<|bu M<|bw aU M<|K (aW (r:=af) (ys:=[r3.1]) (xs:=[.tmp 47]) kX aU M M M M M ⟨(D M),aR⟩)<|cC h fun items1 q_items1 h=>dE aU M M M M kX M M (D M) (D M) q_items1 fun l1 c1=>jy M<|bt<|dU I hN M ?_;exact bg (aP (ih (i+1) items1 l1 c1 x1 ⟨dH I,h⟩) (bv M))

def OO t x{R}(h:eX t x=some R):cK bh 88 [H aq t,gC x] (tT [H aq R.1,cE R.2]):=by
 refine ep Tryz.func88 M<|aV<|dh M<|aA br eW M fun b=>dj<|cb<|aV<|bP lE gT tP M<|cC h fun e q_e h=>K (bp ni br M (D M) hI q_e)<|bw br M<|aA br eW M fun b1=>aO br ac M<|aD 6 M<|cb<|bl<|pB iG dZ M ?_;refine bP mP fU ck M<|dz M<|dv h M (fun h=>?_) (fun h=>?_)
 ·exact aV<|bw br M<|aO br ac M<|fY<|an<|aK 4 M<|so h▸bI M M ⟨bf br M M M,aQ M,aR⟩
 ·refine kF<|bl<|pB iG dZ M<|bP mP fU ck M<|lH M<|dv h M (fun h=>?_) (fun h=>?_)
  ·exact aV<|bw br M<|aO br ac M<|fY<|an<|aK 4 M<|so h▸bI M M ⟨bf br M M M,aQ M,aR⟩
  ·refine kF<|aV<|bP lE gT tP M<|cC h fun e1 q_e1 h=>K (bp ni br M (D M) hI q_e1)<|bw br M<|aA br eW M fun b2=>aO br ac M<|cb ?_;refine jd (h3:=fun y=>dG t e y=some R) (Of:=fun y=>[bx aq 87 b oF,bx aq 87 b2 y]) (Gf:=fun y=>[(2,bC aq t),(4,tV (ax b 0)),(6,bC aq e),(7,tV (ax b2 0))]) (fun y h=>?_) (fun ah=>?_)
   ·skip
    refine bl<|bJ 1 iG M<|bJ 1 mP M<|K (be ck M M (lg dZ fU) (.tail _ (.head _)) (D M))<|lH M<|dv h M (fun h=>?_) (fun h=>?_)
    ·exact aV<|bw br M<|aO br ac M<|fY<|an<|aK 4 M<|aN<|so h▸bI M M ⟨bf br M M M,aQ M,aR⟩
    ·refine kF<|aV<|wv NW rU M fun b3=>aY M<|bl<|pB iG dZ M<|bP kh gM hZ M<|cA kX M<|K (ci hI)<|cb<|av<|bA (k:=47) M fun hN=>cd<|fi<|fi ?_;refine aP (uO (h3:=fun ls i has os=>(e.root.Items.drop i=ls)/\fP t e y ls has=some R) (Of:=fun _ i has os=>[bx aq 87 b oF,bx aq 87 b2 y,pL NW rU b3 none os has]) (Gf:=fun _ i has os=>[(2,bC aq t),(4,tV (ax b 0)),(6,bC aq e),(7,tV (ax b2 0)),(8,tV (oG b3)),(47,gk (af) e.root.Items),(48,jw e.root.Items),(49,cE (i:Int))]) (fun i has os h=>?_) (fun e2 tl ih i has os h=>?_) e.root.Items 0 ([]:List (Int×Bool)) [] ⟨M,h⟩) (bv M)
     ·obtain⟨I,h⟩:=h
      refine fa I M<|aB<|bl<|bJ 1 iG M<|bJ 8 o0 M<|K (be eK M M (lg dZ jR) (.tail _ (.head _)) (D M))<|cA gr M<|K (ci hI)<|cb<|av ?_;refine bA (k:=72) M fun hN1=>cd<|dn<|pu ?_;refine aP (jp (h3:=fun ls1 i1 x1=>(y.root.Keys.drop i1=ls1)/\gS t e has ls1 i1 x1=some R) (Of:=fun _ i1 x1=>[bx aq 87 b x1,pL NW rU b3 none os has]) (Gf:=fun _ i1 x1=>[(2,bC aq t),(4,tV (ax b 0)),(6,bC aq e),(8,tV (oG b3)),(73,jw y.root.Keys),(74,cE (i1:Int))]) (fun i1 x1 h=>?_) (fun e3 tl1 ih1 i1 x1 h=>?_) y.root.Keys 0 oF ⟨M,h⟩) (bv M)
      ·obtain⟨hx1,h⟩:=h
       exact fa hx1 M<|aB<|aV<|bw br M<|aO br ac M<|fY<|aK 4 M<|aN<|so h▸bI M M ⟨bf br M M M,aQ M,aR⟩
      ·obtain⟨hx1,h⟩:=h
       refine eZ hx1 M<|aI<|av<|aZ M<|aY M<|aZ M<|bu M<|K (Gc (γ:=fun y:Bool=>H rB y) (z:=false) Tryz.underlying167 (kQ qb) zv4 (fun S=>⟨_,M,(fun _=>M) S⟩) (.tail _ (.head _)) (D M) (wm (D M)))<|K (iY (D M)) ?_;refine dv h M (fun h=>?_) (fun h=>?_)
       ·exact aV<|bw br M<|aO br ac M<|fY<|eN<|an<|eN<|aK 4 M<|aN<|so h▸bI M M ⟨bf br M M M,aQ M,aR⟩
       ·refine cc<|dU hx1 hN1 M ?_;exact bg (aP (ih1 (i1+1) x1 ⟨dH hx1,h⟩) (bv M))
     ·obtain⟨I,h⟩:=h
      refine eZ I M<|aI<|av<|aV<|gF kX aU M (fy I)<|aA aU cB M fun b4=>aO aU ac M<|aD 10 M<|cb<|aV<|pB dq cG M ?_;refine bw iU M<|cC h fun e4 q_e4 h=>K (bp na fc M (D M) hI q_e4)<|bw fc M<|aA fc iB M fun b5=>aO fc ac M<|aD 11 M<|cb<|aV<|bP dq cG iU M<|cA na M<|dz M<|bu M<|aE M (ez lF eH M M)<|aE M (ev ck M M)<|aE M (nw M)<|fZ M<|dv h M (fun h=>?_) (fun h=>?_)
      ·refine aG<|bu M<|bP oZ ie ck M<|dy<|Nk (γ:=fun y:Bool=>gC y) Tryz.underlying167 (kQ qb) (D M) (wm (D M)) hB fun os1=>bt<|dU I hN M<|aJ<|aJ ?_;exact bg (aP (ih (i+1) (eM has e4.Col true) os1 ⟨dH I,h⟩) (bv M))
      ·refine cc<|dU I hN M ?_;exact bg (aP (ih (i+1) has os ⟨dH I,h⟩) (bv M))
   ·skip
    refine aV<|bJ 1 iG M<|bJ 1 mP M<|K (be ck M M (lg dZ fU) (.head _) (D M))<|dz M<|dv h M (fun h=>?_) (fun h=>?_)
    ·refine aG<|bJ 13 lE M<|K (be tP M M gT (.head _) (D M))<|cC h fun e5 q_e5 h=>K (bp ni br M (D M) hI q_e5)<|bw br M<|aO br ac M<|bt<|bq ?_;exact c9 (ah e5 h) (bv M)
    ·refine cc<|bq ?_;exact c9 (ah e1 h) (bv M)

def QF{rec__:Option (List (Int×(am->Bool->Option (am×Int))))}(hr__: ∀{R:(List (Int×(am->Bool->Option (am×Int))))},rec__=some R->cK bh 65 [] (Ja (fun y:(am->Bool->Option (am×Int))=>DP bh xD HY (fun(x:am×Bool)=>y x.1 x.2)) rU R)){R}(h:tG rec__=some R):cK bh 65 [] (Ja (fun y:(am->Bool->Option (am×Int))=>DP bh xD HY (fun(x:am×Bool)=>y x.1 x.2)) rU R):=by
 exact ep Tryz.func65 M<|aV<|K (bF (show aF _ _ (.const (.map none)) (tV (.map none))from fun _ _ _=>M))<|cb<|aV<|wv (yI (fun y:(am->Bool->Option (am×Int))=>DP bh xD HY (fun(x:am×Bool)=>y x.1 x.2))) rU M fun b=>oB (γ:=(fun y:(am->Bool->Option (am×Int))=>DP bh xD HY (fun(x:am×Bool)=>y x.1 x.2))) (y:=(dw rec__)) Tryz.underlying118 (kQ qb) (D M) (wm hI) (FK (Mb Sk fun x y h=>QD hr__ _ _ h)) fun os=>oB (γ:=(fun y:(am->Bool->Option (am×Int))=>DP bh xD HY (fun(x:am×Bool)=>y x.1 x.2))) (y:=eS) Tryz.underlying118 (kQ qb) (D M) (wm hI) (FK (Mb Sj fun x y h=>OP _ _ h)) fun os1=>oB (γ:=(fun y:(am->Bool->Option (am×Int))=>DP bh xD HY (fun(x:am×Bool)=>y x.1 x.2))) (y:=eX) Tryz.underlying118 (kQ qb) (D M) (wm hI) (FK (Mb Si fun x y h=>OO _ _ h)) fun os2=>bu M<|bG M<|Fq 0 M<|so h▸bB M M
def Mh: ∀(fu:Nat) {R:(List (Int×(am->Bool->Option (am×Int))))} (h:bz fu=some R),cK bh 65 [] (Ja (fun y:(am->Bool->Option (am×Int))=>DP bh xD HY (fun(x:am×Bool)=>y x.1 x.2)) rU R):=by
 intro fu
 induction fu with
 |zero=>intro R h;exact(nn h).elim
 |succ fu ih=>intro R h;exact QF ih h
def Ko{R}(h:li=some R):cK bh 65 [] (Ja (fun y:(am->Bool->Option (am×Int))=>DP bh xD HY (fun(x:am×Bool)=>y x.1 x.2)) rU R):=Mh gi h
def O8 x0 x1{R}(h:pf x0 x1=some R):cK bh 40 [H aq x0,gC x1] (tT [H aq R.1,cE R.2]):=NC Ko _ _ h
def O9 x0{R}(h:kN x0=some R):cK bh 38 [H aq x0] (tT [H aq R.1,gC R.2]):=ND Ko _ h
def Mk: ∀(fu:Nat) (bslf:Nat) (t:am) {R:am×Bool} (h:cF fu t=some R),cK bh 36 [H aq t,y5 36 bslf] (tT [H aq R.1,gC R.2]):=by
 intro fu
 induction fu with
 |zero=>intro bslf t R h;exact(nn h).elim
 |succ fu ihR=>
  intro bslf t R h
  refine ep Tryz.func36 M<|aV<|dh M<|aA br eW M fun b=>cn<|cb<|bl<|bP lE gT tP M<|cA ni M<|dz M<|dv h M (fun h=>?_) (fun h=>?_)
  ·exact aV<|bw br M<|aO br ac M<|cn<|da<|an<|aK 3 M<|so h▸bI M M ⟨bf br M M M,aQ M,aR⟩
  ·refine kF<|aV<|bL false aq 87<|K (bF tK)<|cb<|bl<|bP lE gT tP M<|cA ni M<|K (ci hI)<|cb<|av<|bA (k:=18) M fun hN=>cd ?_;refine aP (m8 (h3:=fun ls i parts l c x=>(t.parts.drop i=ls)/\cZ (cF fu) t ls parts x=some R) (Of:=fun _ i parts l c x=>[fD aq 87 l c parts,bx aq 87 b x]) (Gf:=fun _ i parts l c x=>[(1,y5 36 bslf),(2,bC aq t),(3,tV (ax b 0)),(5,tB l c parts),(18,gk (aq) t.parts),(19,jw t.parts),(20,cE (i:Int))]) (fun i parts l c x h=>?_) (fun e tl ih i parts l c x h=>?_) t.parts 0 Fy none 0 oF ⟨M,h⟩) (bv M)
   ·obtain⟨I,h⟩:=h
    refine fa I M<|aB<|aV<|bP iG dZ dV M<|bu M<|ik<|m7 5 M<|m7 41 M<|eu h KR (AL _ _) ⟨(D M),(mK (D M)),aR⟩ fun r h=>bu M ?_;refine bZ M M<|bZ M M<|aA br eW M fun b1=>aO br ac M<|aD 10 M<|aY M<|bl<|bu M<|K (iY (D M))<|dv h M (fun h=>?_) (fun h=>?_)
    ·exact aV<|bw br M<|aT<|aO br ac M<|cn<|da<|an<|aK 3 M<|aN<|so h▸bI M M ⟨bf br M M M,aQ M,aR⟩
    ·exact kF<|aV<|bw br M<|eu h QV (O9 _) (co M) fun r1 h=>bZ M M<|bZ M M<|aT<|aO br ac M<|bG M<|aK 3 M<|aN<|so h▸bI M M ⟨bf br M M M,aQ M,aR⟩
   ·obtain⟨I,h⟩:=h
    refine eZ I M<|aI<|av<|aV<|gF ni br M (fy I)<|aA br eW M fun b2=>aO br ac M<|aD 7 M<|cb<|aV<|K (El LA (D M)) ?_;refine bw br M<|cC h fun r2 q_r2 h=>K (Em (ts:=[H aq e]) (D M) (cp:= .tmp 1) (D M) QW (ihR _ _ q_r2) ⟨(D M),aR⟩)<|bu M<|bZ M M<|bZ M M<|aA br eW M fun b3=>aO br ac M<|aD 8 M<|aY M<|bl<|bu M<|K (iY (D M))<|dv h M (fun h=>?_) (fun h=>?_)
    ·exact aV<|bw br M<|aT<|aO br ac M<|cn<|da<|an<|eN<|an<|eN<|aK 3 M<|aN<|so h▸bI M M ⟨bf br M M M,aQ M,aR⟩
    ·refine kF<|aG<|bu M<|bw br M<|K (aW (r:=aq) (ys:=[r2.1]) (xs:=[.tmp 34]) ni br M M M M M ⟨(D M),aR⟩)<|cC h fun parts1 q_parts1 h=>dE br M M M M ni M M (D M) (D M) q_parts1 fun l1 c1=>jy M<|bt<|dU I hN M ?_;exact bg (aP (ih (i+1) parts1 l1 c1 x ⟨dH I,h⟩) (bv M))
def Pa(bslf:Nat) t{R}(h:lJ t=some R):cK bh 36 [H aq t,y5 36 bslf] (tT [H aq R.1,gC R.2]):=Mk gi bslf t h

end Go.Proofs.YtbmmihfagmchaaaGreat

