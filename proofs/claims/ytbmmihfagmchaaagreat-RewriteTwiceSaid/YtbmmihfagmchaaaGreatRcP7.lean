/- cW of this claim: P7. -/
import Derived.Test.YtbmmihfagmchaaaGreatRcT
import Derived.Test.YtbmmihfagmchaaaGreatRcP6
set_option linter.all false
namespace Go.Proofs.YtbmmihfagmchaaaGreat
open Go
set_option maxRecDepth 100000

def Pe l{R}(h:l0 l=some R):cK bh 16 [H ay l] (tT [lO R.1,cE R.2]):=by
 refine ep Tryz.func16 M<|aV<|dh M<|oI cN<|dj<|cb<|aV<|bw cQ M<|eu h Ps (Gw _) (co M) fun r h=>bu M<|bZ M M<|bZ M M<|bZ M M<|jy M<|jy M<|aY M<|aI<|aI ?_;refine aG<|bu M<|K (iY (D M))<|dv h M (fun h=>?_) (fun h=>?_)
 ·exact aV<|oI cN<|fY<|an<|so h▸fm M M M
 ·exact kF<|aZ M<|K (CW (D M))<|bP lN C8 qG M<|bu M<|cC h fun e q_e h=>gF sY eK M q_e<|ri h KQ (Dd _) (co M) fun r1 h l1 c=>jy M<|fY<|o9<|fN 2 M<|fN 22 M<|pc 2 M<|aN<|so h▸fm M M M

def Pi{rec__:Option (List (Int×(am->Bool->Option (am×Int))))}(hr__: ∀{R:(List (Int×(am->Bool->Option (am×Int))))},rec__=some R->cK bh 65 [] (Ja (fun y:(am->Bool->Option (am×Int))=>DP bh xD HY (fun(x:am×Bool)=>y x.1 x.2)) rU R)) t deep{R}(h:fG rec__ t deep=some R):cK bh 122 [H aq t,gC deep] (tT [H aq R.1,cE R.2]):=by
 refine ep Tryz.func122 M<|aV<|dh M<|aA br eW M fun b=>dj<|cb<|aV<|bP lE gT tP M<|cC h fun e q_e h=>K (bp ni br M (D M) hI q_e)<|bw br M<|aA br eW M fun b1=>aO br ac M<|aD 6 M<|cb<|aV<|bP lE gT tP M ?_;refine cC h fun e1 q_e1 h=>K (bp ni br M (D M) hI q_e1)<|bP x9 qw cQ M<|eu h SS (Pe _) (co M) fun r h=>bu M<|bZ M M<|bZ M M<|jy M<|aY M<|aV<|pB iG dZ M<|bP ki fT aU M<|bu M<|cA gr M<|pB iG dZ M<|bP yc q7 G8 M<|cC h fun r1 q_r1 h=>?_;refine K (cm SP (Pc _ _ _ q_r1) ⟨(D M),(D M),(D M),aR⟩)<|aA (r:=Ji) (x:=(List.replicate 3 [])) H6 (fun _=>AZ (r:=vO) 3 (fun _=>⟨none,0,M,dr _,mJ _,.inl M⟩) _) M fun b2=>aO H6 ac M<|aD 9 M<|cb<|bl<|cC h fun e2 q_e2 h=>K (pm Bl hZ M (D M) hI q_e2)<|bw hZ M<|cA kX M<|cC h fun e3 q_e3 h=>K (pm Bl hZ M (D M) hI q_e3)<|bw hZ M<|cA kX M<|K (lD (D M) (D M))<|dz M<|dv h M (fun h=>?_) (fun h=>?_)
 ·exact aV<|bw br M<|aO br ac M<|fY<|an<|aK 4 M<|so h▸bI M M ⟨bf br M M M,aQ M,aR⟩
 ·refine kF<|aV<|bL false aq 87<|K (bF tK)<|cb<|bl<|bP lE gT tP M<|cA ni M<|K (ci hI)<|cb<|av<|bA (k:=49) M fun hN=>cd ?_;refine aP (m8 (h3:=fun ls i parts l c x=>(e.parts.drop i=ls)/\fW rec__ t deep e r1 ls i parts x=some R) (Of:=fun _ i parts l c x=>[fD aq 87 l c parts,bx aq 87 b x]) (Gf:=fun _ i parts l c x=>[(1,gC deep),(2,bC aq t),(4,tV (ax b 0)),(6,bC aq e),(9,bC Ji r1),(10,tB l c parts),(49,gk (aq) e.parts),(50,jw e.parts),(51,cE (i:Int))]) (fun i parts l c x h=>?_) (fun e4 tl ih i parts l c x h=>?_) e.parts 0 Fy none 0 oF ⟨M,h⟩) (bv M)
  ·obtain⟨I,h⟩:=h
   refine fa I M<|aB<|aV<|pB iG dZ M<|bP yc q7 G8 M<|pB iG dZ M<|bP ki fT aU M<|K (bR (y:=(⟨(2:Int),(0:Int),(0:Int),(0:Int),[],e.root.Left,e.root.Cond,[],[],[],[],(0:Int)⟩:aa)) dV EQ iA (⟨_,_,_,_,_,M,lS,M,hI,⟨_,_,_,_,_,M,Aa,M,(D M),⟨_,_,_,_,_,M,lR,M,(D M),M⟩⟩⟩))<|bu M<|ik ?_;refine m7 10 M<|m7 81 M<|eu h KR (AL _ _) ⟨(D M),(mK (D M)),aR⟩ fun r2 h=>bu M<|bZ M M<|bZ M M<|aA br eW M fun b3=>aO br ac M<|aD 15 M<|aY M<|bl<|bu M<|K (iY (D M))<|dv h M (fun h=>?_) (fun h=>?_)
   ·exact aV<|bw br M<|aT<|aO br ac M<|fY<|an<|aK 4 M<|aN<|so h▸bI M M ⟨bf br M M M,aQ M,aR⟩
   ·exact kF<|aV<|bw br M<|cC h fun e5 q_e5 h=>K (pm Bl hZ M (D M) hI q_e5)<|bw hZ M<|eu h NL (Kz hr__ _ _ _) (co M) fun r3 h=>bZ M M<|bZ M M<|eu h KV (Dg _ _) (co M) fun r4 h=>bZ M M<|bZ M M<|aT<|aO br ac M<|bG M<|aK 4 M<|aN<|so h▸bI M M ⟨bf br M M M,aQ M,aR⟩
  ·obtain⟨I,h⟩:=h
   refine eZ I M<|aI<|av<|aZ M<|gF ni br M (fy I)<|aA br eW M fun b4=>jy M<|aO br ac M<|aD 12 M<|cb<|aI ?_;refine cC h fun e6 q_e6 h=>cC h fun r5 q_r5 h=>?_
   refine jN 11 [tc (H aq e4),tc (cE (i:Int)),tc (bC vO e6),tc (gk (af) e6),tc (gC deep),tc (tT [H aq r5.1,gC r5.2]),tc (tT [H aq r5.1,gC r5.2]),tc (H aq r5.1),tc (gC r5.2),([9],fun s=>tV (ax ((s.getD 0 qt).h 0).2 0)),tc (vR)] [false,false,false,false,false,false,false,false,false,true,true] [fun _=>[fD aq 87 l c parts,bx aq 87 b x],fun sg=>[bx aq 87 ((sg 9).h 0).2 oF,fD aq 87 l c parts,bx aq 87 b x],fun sg=>[bx aq 87 ((sg 9).h 0).2 r5.1,fD aq 87 l c parts,bx aq 87 b x]] M mixed M M M M M
    ⟨⟨[⟨12,fun _=>bC aq e4,none⟩],_,0,1,M,⟨(fun _=>M),aR⟩,M,M,M,M,M,fun _ sg _ _=>ae M (pe br M M)⟩,
    ⟨⟨[⟨11,fun _=>H cN (i:Int),none⟩],_,0,1,M,⟨(fun _=>M),aR⟩,M,M,M,M,M,fun _ sg _ _=>ae M (nb M)⟩,
    ⟨⟨[⟨9,fun _=>bC Ji r1,none⟩,⟨58,fun _=>H cN (i:Int),some 1⟩],_,0,1,M,⟨(fun _=>M),(fun _=>M),aR⟩,M,M,M,M,M,fun _ sg _ _=>ae M (pm Bl hZ M (D M) (D M) q_e6)⟩,
    ⟨⟨[⟨59,fun _=>bC vO e6,some 2⟩],_,0,1,M,⟨(fun _=>M),aR⟩,M,M,M,M,M,fun _ sg _ _=>ae M (pe hZ M M)⟩,
    ⟨⟨[⟨1,fun _=>H rB deep,none⟩],_,0,1,M,⟨(fun _=>M),aR⟩,M,M,M,M,M,fun _ sg _ _=>ae M (nb M)⟩,
    ⟨⟨[⟨57,fun _=>H aq e4,some 0⟩,⟨60,fun _=>H vO e6,some 3⟩,⟨61,fun _=>H rB deep,some 4⟩],_,0,1,M,⟨(fun _=>M),(fun _=>M),(fun _=>M),aR⟩,M,M,M,M,M,fun _ sg _ _=>ae M (cm NL (Kz hr__ _ _ _ q_r5) ⟨(D M),(D M),(D M),aR⟩)⟩,
    ⟨⟨[⟨62,fun _=>tT [H aq r5.1,H rB r5.2],some 5⟩],_,0,1,M,⟨(fun _=>M),aR⟩,M,M,M,M,M,fun _ sg _ _=>ae M (nb M)⟩,
    ⟨⟨[⟨56,fun _=>tT [H aq r5.1,H rB r5.2],some 6⟩],_,0,1,M,⟨(fun _=>M),aR⟩,M,M,M,M,M,fun _ sg _ _=>ae M (Bh M M)⟩,
    ⟨⟨[⟨56,fun _=>tT [H aq r5.1,H rB r5.2],some 6⟩],_,0,2,M,⟨(fun _=>M),aR⟩,M,M,M,M,M,fun _ sg _ _=>ae M (Bh M M)⟩,
    ⟨⟨[],_,M,aR,M,M,M,fun sg=>cD M (ly br eW)⟩,
    ⟨⟨[⟨13,fun sg=>tV (ax ((sg 9).h 0).2 0),some 9⟩,⟨63,fun _=>H aq r5.1,some 7⟩],_,M,⟨(fun _=>M),(fun _=>M),aR⟩,M,M,M,fun sg=>cD M (ii br M (pV ac) M (D M) (D M))⟩,
    aR⟩⟩⟩⟩⟩⟩⟩⟩⟩⟩⟩ (fun sg=>?_)
   refine(show RG _ _ _ _ [_,_,_] _ from ?_);refine aD 13 M<|aY M<|bl<|bu M<|K (iY (D M))<|dv h M (fun h=>?_) (fun h=>?_)
   ·exact aV<|bw br M<|aT<|aO br ac M<|fY<|an<|eN<|an<|eN<|aK 4 M<|aN<|so h▸bI M M ⟨bf br M M M,aQ M,aR⟩
   ·refine kF<|aG<|bu M<|bw br M<|K (aW (r:=aq) (ys:=[r5.1]) (xs:=[.tmp 69]) ni br M M M M M ⟨(D M),aR⟩)<|cC h fun parts1 q_parts1 h=>dE br M M M M ni M M (D M) (D M) q_parts1 fun l1 c1=>jy M<|bt<|dU I hN M ?_;exact bg (aP (ih (i+1) parts1 l1 c1 x ⟨dH I,h⟩) (bv M))

def MN s f{R}(h:fO s f=some R):cK bh 102 [gk (ap) s,(kK bh Lo rh (fun(x:aj)=>f x))] (cE R):=by
 refine ep Tryz.func102 M<|aV<|dj<|cb<|bl<|bu M<|cA na M<|K (ci hI)<|cb<|av<|bA (k:=6) M fun hN=>cd ?_;refine aP (jq (h3:=fun ls i=>(s.drop i=ls)/\cR f ls i=some R) (Of:=fun _ i=>[]) (Gf:=fun _ i=>[(0,gk (ap) s),(1,(kK bh Lo rh (fun(x:aj)=>f x))),(7,jw s),(8,cE (i:Int))]) (fun i h=>?_) (fun e tl ih i h=>?_) s 0 ⟨M,h⟩) (bv M)
 ·obtain⟨I,h⟩:=h
  exact fa I M<|aB<|aV<|fY<|so h▸bB M M
 ·obtain⟨I,h⟩:=h
  refine eZ I M<|aI<|av<|aZ M<|aY M<|aZ M<|bu M<|bu M<|zE na fc M (fy I) ?_;refine bw fc M<|cC h fun r q_r h=>K (mZ (args:=Lo) (res:=Fz) (f:=(fun(x:aj)=>f x)) (x:=((e):aj)) (D M) q_r ⟨(D M),aR⟩)<|dv h M (fun h=>?_) (fun h=>?_)
  ·exact aZ M<|bG M<|eN<|an<|eN<|so h▸bB M M
  ·refine cc<|dU I hN M ?_;exact bg (aP (ih (i+1) ⟨dH I,h⟩) (bv M))

def OT s f{R}(h:dI s f=some R):cK bh 72 [gk (ap) s,(kK bh Lo rh (fun(x:aj)=>f x))] (gC R):=by
 exact ep Tryz.func72 M<|aV<|cn<|cb<|aZ M<|bu M<|eu h Ru (MN _ _) (co M) fun r h=>K (gX (D M) hI)<|bG M<|so h▸bB M M

def OS n{R}(h:pP n=some R):cK bh 73 [H ap n] (gC R):=by
 exact ep Tryz.func73 M<|aV<|dh M<|cn<|cb<|aV<|bP lF eH ck M<|eu h QS (Kn _) (co M) fun r h=>bG M<|so h▸bB M M

def Gv e{R}(h:mE e=some R):cK bh 46 [H af e] (gC R):=by
 refine ep Tryz.func46 M<|aV<|dh M<|cn<|cb<|aV<|bw aU M<|eu h KT (AM _) (co M) fun r h=>dz M<|bu M<|cC h fun t q_t h=>aE M (ez dq cG M M)<|aE M (ev iU M M) ?_
 obtain⟨r1,h1t,h0t⟩:=og q_t
 have q_r1g:=fun V=>(h1t V).1
 exact aE M (fun T=>cm Sp (OT _ _ (q_r1g T)) ⟨(df M T),(Mb So fun x y h=>OS _ h),aR⟩)<|aE M (zG M)<|K (dS (D M) (fun V=>(df M V)) (fun V=>(h1t V).2) h0t)<|bG M<|so h▸bB M M

def QD{rec__:Option (List (Int×(am->Bool->Option (am×Int))))}(hr__: ∀{R:(List (Int×(am->Bool->Option (am×Int))))},rec__=some R->cK bh 65 [] (Ja (fun y:(am->Bool->Option (am×Int))=>DP bh xD HY (fun(x:am×Bool)=>y x.1 x.2)) rU R)) t deep{R}(h:dw rec__ t deep=some R):cK bh 86 [H aq t,gC deep] (tT [H aq R.1,cE R.2]):=by
 refine ep Tryz.func86 M<|aV<|dh M<|aA br eW M fun b=>dj<|cb<|aI<|cC h fun e q_e h=>?_
 refine Fo 10 [tc (bC ak t.root),tc (bC af t.root.Cond),tc (H af t.root.Cond),tc (bC Br t.parts),tc (gk (aq) t.parts),tc (bC aq e),tc (H aq e),([7],fun s=>tV (ax ((s.getD 0 qt).h 0).2 0)),([8],fun s=>tV (ax ((s.getD 0 qt).h 0).2 0)),tc (vR)] [false,false,false,false,false,false,false,true,true,true] [([],fun _=>[bx aq 87 b oF]),([7],fun sg=>[bx af 27 ((sg 7).h 0).2 kI,bx aq 87 b oF]),([8],fun sg=>[bx aq 87 ((sg 8).h 0).2 oF,bx aq 87 b oF]),([7,8],fun sg=>[bx aq 87 ((sg 8).h 0).2 oF,bx af 27 ((sg 7).h 0).2 kI,bx aq 87 b oF]),([7,8,9],fun sg=>[bx af 27 ((sg 7).h 0).2 t.root.Cond,bx aq 87 ((sg 8).h 0).2 oF,bx aq 87 b oF])] (fun _=>M) mixed M M M M
  ⟨⟨[⟨2,fun _=>bC aq t,none⟩],_,[[],[7],[8],[7,8]],M,⟨(fun _=>M),aR⟩,M,M,M,M,M,⟨fun sg=>ae M (nN iG dZ M M),fun sg=>ae M (nN iG dZ M M),fun sg=>ae M (nN iG dZ M M),fun sg=>ae M (nN iG dZ M M),aR⟩⟩,
  ⟨⟨[⟨11,fun _=>bC ak t.root,some 0⟩],_,[[],[7],[8],[7,8]],M,⟨(fun _=>M),aR⟩,M,M,M,M,M,⟨fun sg=>ae M (nN ki fT M M),fun sg=>ae M (nN ki fT M M),fun sg=>ae M (nN ki fT M M),fun sg=>ae M (nN ki fT M M),aR⟩⟩,
  ⟨⟨[⟨12,fun _=>bC af t.root.Cond,some 1⟩],_,[[],[7],[8],[7,8]],M,⟨(fun _=>M),aR⟩,M,M,M,M,M,⟨fun sg=>ae M (pe aU M M),fun sg=>ae M (pe aU M M),fun sg=>ae M (pe aU M M),fun sg=>ae M (pe aU M M),aR⟩⟩,
  ⟨⟨[⟨2,fun _=>bC aq t,none⟩],_,[[],[7],[8],[7,8],[7,8,9]],M,⟨(fun _=>M),aR⟩,M,M,M,M,M,⟨fun sg=>ae M (nN lE gT M M),fun sg=>ae M (nN lE gT M M),fun sg=>ae M (nN lE gT M M),fun sg=>ae M (nN lE gT M M),fun sg=>ae M (nN lE gT M M),aR⟩⟩,
  ⟨⟨[⟨14,fun _=>bC Br t.parts,some 3⟩],_,[[],[7],[8],[7,8],[7,8,9]],M,⟨(fun _=>M),aR⟩,M,M,M,M,M,⟨fun sg=>ae M (pe tP M M),fun sg=>ae M (pe tP M M),fun sg=>ae M (pe tP M M),fun sg=>ae M (pe tP M M),fun sg=>ae M (pe tP M M),aR⟩⟩,
  ⟨⟨[⟨15,fun _=>H Br t.parts,some 4⟩],_,[[],[7],[8],[7,8],[7,8,9]],M,⟨(fun _=>M),aR⟩,M,M,M,M,M,⟨fun sg=>ae M (bp ni br M (D M) hI q_e),fun sg=>ae M (bp ni br M (D M) hI q_e),fun sg=>ae M (bp ni br M (D M) hI q_e),fun sg=>ae M (bp ni br M (D M) hI q_e),fun sg=>ae M (bp ni br M (D M) hI q_e),aR⟩⟩,
  ⟨⟨[⟨16,fun _=>bC aq e,some 5⟩],_,[[],[7],[8],[7,8],[7,8,9]],M,⟨(fun _=>M),aR⟩,M,M,M,M,M,⟨fun sg=>ae M (pe br M M),fun sg=>ae M (pe br M M),fun sg=>ae M (pe br M M),fun sg=>ae M (pe br M M),fun sg=>ae M (pe br M M),aR⟩⟩,
  ⟨⟨[],_,[([],[7]),([8],[7,8])],M,aR,M,M,M,M,M,⟨fun sg=>cD M (ly aU cB),fun sg=>cD M (EffOK.post_imp (post:=fun x__=>(fun(sg:Nat->OI)=>[bx af 27 ((sg 7).h 0).2 kI,bx aq 87 ((sg 8).h 0).2 oF,bx aq 87 b oF]) (Fu sg 7 x__)) (ly aU cB) (fun h=>dg.pick [1,0,2] M h)),aR⟩⟩,
  ⟨⟨[],_,[([],[8]),([7],[7,8])],M,aR,M,M,M,M,M,⟨fun sg=>cD M (ly br eW),fun sg=>cD M (ly br eW),aR⟩⟩,
  ⟨⟨[⟨6,fun sg=>tV (ax ((sg 7).h 0).2 0),some 7⟩,⟨13,fun _=>H af t.root.Cond,some 2⟩],_,[([7,8],[7,8,9])],M,⟨(fun _=>M),(fun _=>M),aR⟩,M,M,M,M,M,⟨fun sg=>cD M (EffOK.fr1 (ii aU M (pV ac) M (D M) (D M))),aR⟩⟩,
  aR⟩⟩⟩⟩⟩⟩⟩⟩⟩⟩ (fun sg=>?_)
 refine(show RG _ _ _ _ [_,_,_] _ from ?_);refine aD 6 M<|aO br ac M<|aD 7 M<|cb<|aV<|bw aU M<|eu h Pr (Gv _) (co M) fun r h=>aY M<|aI<|av<|aI<|cC h fun t1 q_t1 h=>?_
 obtain⟨e1,h1t1,h0t1⟩:=og q_t1
 have q_e1g:=fun V=>(h1t1 V).1
 obtain⟨r1,h1t1⟩:=RJ (fun V=>(h1t1 V).2)
 have q_r1g:=fun V=>(h1t1 V).1
 refine hD (ts:=[_,_,_,_,_,_,_,_,_,_,_,_,_,_]) mixed M M
  ⟨qd 6 M M (nN dq cG M M),
  ⟨jf 0 iU M M,
  ⟨fb 22 1 M M (PM na M),
  ⟨fb 23 2 M M (PD M),
  ⟨fb 24 3 M M (nb M),
  ⟨tN 6 25 4 M M M (cz M M M M (fun T=>nN dq cG M M)),
  ⟨iM 26 5 25 4 M M M (cz M M M M (fun T=>ir iU M M (df M T))),
  ⟨iM 27 6 25 4 M M M (cz M M M M (fun T=>bp na fc M (df M T) hI (q_e1g T))),
  ⟨iM 28 7 25 4 M M M (cz M M M M (fun T=>iZ ya M kS M (df M T))),
  ⟨iM 29 8 25 4 M M M (cz M M M M (fun T=>ir pU M M (df M T))),
  ⟨zes 25 4 M M (cz M M M M (fun T=>cm Rq (MK _ (q_r1g T)) ⟨hB,aR⟩)),
  ⟨BQ 30 9 31 10 25 4 M M M M (cz M M M M (fun T=>CX MR (df M T) (df M T))),
  ⟨gg 25 4 32 11 M M M (dS (D M) (fun V=>(df M V)) (fun V=>(h1t1 V).2) h0t1),
  ⟨fb 33 12 M M (Bi M),
  aR⟩⟩⟩⟩⟩⟩⟩⟩⟩⟩⟩⟩⟩⟩ ?_
 refine aB<|oH h M (fun h=>?_) (fun h=>?_)
 ·exact aV<|bw br M<|aO br ac M<|fY<|eN<|aK 4 M<|so h▸bI M M ⟨bf br M M M,aQ M,aR⟩
 ·refine aV<|pB iG dZ M<|bP mP fU ck M<|dz M<|bu M<|aE M (fV M)<|fZ M<|aY M<|oH h M (fun h=>?_) (fun h=>?_)
  ·refine aV<|pB iG dZ M<|bP ki fT aU M<|bw aU M<|K (aW (r:=af) (ys:=[e.root.Cond,t.root.Cond]) (xs:=[.tmp 46,.tmp 47]) kX aU M M M M M ⟨(D M),(D M),aR⟩)<|eu h NQ (Hz _) (co M) fun r2 h=>bu M<|bZ M M<|bZ M M<|aA aU cB M fun b1=>aO aU ac M<|aD 9 M<|aY M<|bl<|bu M<|lH M<|bt ?_;refine aB<|oH h M (fun h=>?_) (fun h=>?_)
   ·exact aV<|bw br M<|aO br ac M<|fY<|an<|eN<|aK 4 M<|so h▸bI M M ⟨bf br M M M,aQ M,aR⟩
   ·refine kF<|aI<|cC h fun e2 q_e2 h=>cC h fun r3 q_r3 h=>cC h fun r4 q_r4 h=>?_
    refine kD 13 (ts:=[H af r2.1,H ak (⟨(3:Int),(0:Int),(0:Int),(0:Int),[],false,r2.1,[],[],[],[],(0:Int)⟩:aa),bC Br e.parts,gk (aq) e.parts,bC aq e2,H aq e2,gk (aq) ([e2]),tT [H aq r3.1,gC r3.2],H aq r3.1,gC r3.2,tT [H aq r4.1,cE r4.2],H aq r4.1,cE r4.2]) mixed M M M
     ⟨qd 9 M M (pe aU M M),
     ⟨fb 55 0 M M (bR (y:=(⟨(3:Int),(0:Int),(0:Int),(0:Int),[],false,r2.1,[],[],[],[],(0:Int)⟩:aa)) dV EQ iA (⟨_,_,_,_,_,M,lS,M,hI,⟨_,_,_,_,_,M,lR,M,(D M),M⟩⟩)),
     ⟨qd 7 M M (nN lE gT M M),
     ⟨jf 2 tP M M,
     ⟨fb 58 3 M M (bp ni br M (D M) hI q_e2),
     ⟨jf 4 br M M,
     ⟨fb 60 5 M M (aW (r:=aq) (ys:=[e2]) (xs:=[.tmp 60]) ni br M M M M M ⟨(D M),aR⟩),
     ⟨gg 56 1 61 6 M M M (cm KR (AL _ _ q_r3) ⟨(D M),(D M),aR⟩),
     ⟨fb 62 7 M M (Bh M M),
     ⟨fb 62 7 M M (Bh M M),
     ⟨gg 63 8 64 9 M M M (cm KV (Dg _ _ q_r4) ⟨(D M),(D M),aR⟩),
     ⟨fb 65 10 M M (Bh M M),
     ⟨fb 65 10 M M (Bh M M),
     aR⟩⟩⟩⟩⟩⟩⟩⟩⟩⟩⟩⟩⟩ ?_
    exact aO br ac M<|bG M<|eN<|aK 4 M<|so h▸bI M M ⟨bf br M M M,aQ M,aR⟩
  ·refine aV<|pB iG dZ M<|bP mP fU ck M<|dz M<|bu M<|aE M (fV M)<|fZ M<|bu M<|cC h fun t2 q_t2 h=>aE M (ez iG dZ M M)<|aE M (fun T=>iZ ki M fT M (df M T))<|aE M (ev aU M M) ?_
   obtain⟨r5,h1t2,h0t2⟩:=og q_t2
   have q_r5g:=fun V=>(h1t2 V).1
   refine aE M (fun T=>cm Pr (Gv _ (q_r5g T)) ⟨(df M T),aR⟩)<|K (dS (D M) (fun V=>(df M V)) (fun V=>(h1t2 V).2) h0t2)<|aY M<|oH h M (fun h=>?_) (fun h=>?_)
   ·exact aV<|bw br M<|bu M<|eu h Ro (Pi hr__ _ _) (co M) fun r6 h=>bZ M M<|bZ M M<|aO br ac M<|bG M<|eN<|aK 4 M<|so h▸bI M M ⟨bf br M M M,aQ M,aR⟩
   ·exact cc<|bj<|aB<|aV<|bw br M<|aO br ac M<|fY<|aK 4 M<|so h▸bI M M ⟨bf br M M M,aQ M,aR⟩

def MJ e{R}(h:iK e=some R):cK bh 123 [H af e] (gC R):=by
 exact ep Tryz.func123 M<|aV<|dh M<|cn<|cb<|aV<|bw aU M<|eu h Pr (Gv _) (co M) fun r h=>K (iY (D M))<|bG M<|so h▸bB M M

def Kw(b:Nat)(l:Option Nat)(c:Nat) stack k{R}(h:jL stack k=some R):fz bh 157 [cE k,tV (ax b 0)] [bx rV 22 b (aL l c stack.length),fD af 27 l c stack] (fun i:OI=>gk (af) R.1) (fun i=>[bx rV 22 b (aL (i.h 0).1 (i.h 0).2 R.2.length),fD af 27 (i.h 0).1 (i.h 0).2 R.2]):=by
 refine fz.of Tryz.func157 M M M fun w0 S0=>aV<|oI (af)<|cb<|aV<|K (k5 hZ (.head _) (D M))<|K (k5 hZ (.head _) (D M))<|K (fj kX (.tail _ (.head _)) (D M))<|bu M<|K (gc (D M) (D M))<|cC h fun y q_y h=>K (pJ kX aU M (.tail _ (.head _)) (D M) (D M) q_y)<|oC (.tail _ (.head _)) q_y fun hv=>aT<|cC h fun r q_r h=>xr [fD af 27 l c stack] _ M NR (Pj q_y q_r) ⟨(D M),aR⟩ M fun i=>?_;refine(show RG _ _ _ _ [_,_,_] _ from ?_);refine aY M<|aV<|K (k5 hZ (.tail _ (.tail _ (.head _))) (D M))<|K (k5 hZ (.tail _ (.tail _ (.head _))) (D M))<|K (fj kX (.tail _ (.head _)) (D M))<|bu M<|K (gc (D M) (D M))<|cC h fun y1 q_y1 h=>K (nE kX aU M (.tail _ (.head _)) (D M) (D M) q_y1)<|aT<|yl q_y1<|dy<|dd hZ M ac M (D M) (BC (D M))<|cb<|aZ M<|aY M ?_;exact mo<|aJ<|o9<|fN 3 M<|fN 11 M<|fN 4 M<|fN 18 M<|pc 3 M<|aN<|bq<|bq<|so h▸m9 M (oi l c) M M (fun _ _ h=>h)

def My e do1{R}(h:jl e do1=some R):cK bh 146 [H af e,(kK bh Lu Lq (fun(x:aj×(List ai))=>do1 x.1 x.2))] (tT [H af R.1,cE R.2]):=by
 refine ep Tryz.func146 M<|aV<|dh M<|aA aU cB M fun b=>dj<|cb<|Bc<|aV<|bL false af 27<|aA (x:=aL none 0 0) hZ (fun _=>JB) M fun b1=>cb<|aV<|aA aU cB M fun b2=>aD 7 M<|cb<|aV<|K (Ei (cts:=[tV (ax b1 0)]) (caps:=[.tmp 6]) ⟨(D M),aR⟩) ?_;refine aY M<|aV<|dj<|cb<|aI<|Bd<|aB<|bl<|bP dq cG iU M<|cA na M<|K (ci hI)<|cb ?_;refine Cu (h3:=fun bad stack l c=>lG bad stack=some R) (Of:=fun bad stack l c=>[bx af 27 b kI,bx rV 22 b1 (aL l c stack.length),fD af 27 l c stack]) (Gf:=fun bad stack l c=>[(4,tV (ax b 0)),(6,tV (ax b1 0)),(7,bC af kI),(9,cE bad)]) (fun bad stack l c h=>?_) (fun ah=>?_)
 ·skip
  refine aB<|bl<|bu M<|lH M<|dv h M (fun h=>?_) (fun h=>?_)
  ·exact aV<|bw aU M<|bu M<|aO aU ac M<|bG M<|an<|qB<|aK 4 M<|aN<|aN<|so h▸bI M M ⟨bf aU M M M,aQ M,aR⟩
  ·exact kF<|aV<|K (k5 hZ (.tail _ (.head _)) (D M))<|cC h fun e1 q_e1 h=>K (bX kX aU (.tail _ (.tail _ (.head _))) (D M) hI q_e1)<|K (dm (r:=af) (i:=(0:Int)) (foff:=0) aU M M bO M (.tail _ (.tail _ (.head _))) q_e1 (D M))<|aO aU ac M<|fY<|qB<|aK 4 M<|aN<|aN<|so h▸bI M M ⟨bf aU M M M,aQ M,aR⟩
 ·skip
  refine bA (k:=16) M fun hN=>cd<|dn<|dn<|fi ?_;refine aP (m8 (h3:=fun ls i bad1 stack1 l1 c1=>(e.Nodes.drop i=ls)/\d7 do1 ls bad1 stack1=some R) (Of:=fun _ i bad1 stack1 l1 c1=>[bx af 27 b kI,bx rV 22 b1 (aL l1 c1 stack1.length),fD af 27 l1 c1 stack1]) (Gf:=fun _ i bad1 stack1 l1 c1=>[(1,(kK bh Lu Lq (fun(x:aj×(List ai))=>do1 x.1 x.2))),(4,tV (ax b 0)),(6,tV (ax b1 0)),(7,bC af kI),(8,tC 157 [tV (ax b1 0)]),(9,cE bad1),(16,gk (ap) e.Nodes),(17,jw e.Nodes),(18,cE (i:Int))]) (fun i bad1 stack1 l1 c1 h=>?_) (fun e2 tl ih i bad1 stack1 l1 c1 h=>?_) e.Nodes 0 (0:Int) vP none 0 ⟨M,h⟩) (bv M)
  ·obtain⟨I,h⟩:=h
   refine fa I M ?_;exact c9 (ah bad1 stack1 l1 c1 h) (bv M)
  ·obtain⟨I,h⟩:=h
   refine eZ I M<|aI<|av<|aV<|gF na fc M (fy I)<|aA fc iB M fun b3=>aO fc ac M<|aD 11 M<|cb<|aI<|cC h fun r q_r h=>cC h fun r1 q_r1 h=>?_;refine cC h fun r2 q_r2 h=>?_
   refine Fo 13 [tc ((kK bh Lu Lq (fun(x:aj×(List ai))=>do1 x.1 x.2))),tc (H ap e2),tc (tC 157 [tV (ax b1 0)]),tc (bC cN e2.Tag),tc (cE e2.Tag),tc (cE r),tc (gk (af) r1.1),tc (tT [H af r2.1,cE r2.2]),tc (tT [H af r2.1,cE r2.2]),tc (H af r2.1),tc (cE r2.2),([11],fun s=>tV (ax ((s.getD 0 qt).h 0).2 0)),tc (vR)] [false,false,false,false,false,false,true,false,false,false,false,true,true] [([],fun _=>[bx af 27 b kI,bx rV 22 b1 (aL l1 c1 stack1.length),fD af 27 l1 c1 stack1]),([6],fun sg=>[bx rV 22 b1 (aL ((sg 6).h 0).1 ((sg 6).h 0).2 r1.2.length),fD af 27 ((sg 6).h 0).1 ((sg 6).h 0).2 r1.2,bx af 27 b kI]),([11],fun sg=>[bx af 27 ((sg 11).h 0).2 kI,bx af 27 b kI,bx rV 22 b1 (aL l1 c1 stack1.length),fD af 27 l1 c1 stack1]),([6,11],fun sg=>[bx af 27 ((sg 11).h 0).2 kI,bx rV 22 b1 (aL ((sg 6).h 0).1 ((sg 6).h 0).2 r1.2.length),fD af 27 ((sg 6).h 0).1 ((sg 6).h 0).2 r1.2,bx af 27 b kI]),([6,11,12],fun sg=>[bx af 27 ((sg 11).h 0).2 r2.1,bx rV 22 b1 (aL ((sg 6).h 0).1 ((sg 6).h 0).2 r1.2.length),fD af 27 ((sg 6).h 0).1 ((sg 6).h 0).2 r1.2,bx af 27 b kI])] (fun _=>M) mixed M M M M
    ⟨⟨[⟨1,fun _=>(kK bh Lv Ls (fun(x:aj×(List ai))=>do1 x.1 x.2)),none⟩],_,[[],[6],[11],[6,11]],M,⟨(fun _=>M),aR⟩,M,M,M,M,M,⟨fun sg=>ae M (nb M),fun sg=>ae M (nb M),fun sg=>ae M (nb M),fun sg=>ae M (nb M),aR⟩⟩,
    ⟨⟨[⟨11,fun _=>bC ap e2,none⟩],_,[[],[6],[11],[6,11]],M,⟨(fun _=>M),aR⟩,M,M,M,M,M,⟨fun sg=>ae M (pe fc M M),fun sg=>ae M (pe fc M M),fun sg=>ae M (pe fc M M),fun sg=>ae M (pe fc M M),aR⟩⟩,
    ⟨⟨[⟨8,fun _=>tC 157 [tV (ax b1 0)],none⟩],_,[[],[11]],M,⟨(fun _=>M),aR⟩,M,M,M,M,M,⟨fun sg=>ae M (nb M),fun sg=>ae M (nb M),aR⟩⟩,
    ⟨⟨[⟨11,fun _=>bC ap e2,none⟩],_,[[],[11]],M,⟨(fun _=>M),aR⟩,M,M,M,M,M,⟨fun sg=>ae M (nN lF eH M M),fun sg=>ae M (nN lF eH M M),aR⟩⟩,
    ⟨⟨[⟨26,fun _=>bC cN e2.Tag,some 3⟩],_,[[],[11]],M,⟨(fun _=>M),aR⟩,M,M,M,M,M,⟨fun sg=>ae M (pe ck M M),fun sg=>ae M (pe ck M M),aR⟩⟩,
    ⟨⟨[⟨27,fun _=>H cN e2.Tag,some 4⟩],_,[[],[11]],M,⟨(fun _=>M),aR⟩,M,M,M,M,M,⟨fun sg=>ae M (cm Na (Db _ q_r) ⟨(D M),aR⟩),fun sg=>ae M (cm Na (Db _ q_r) ⟨(D M),aR⟩),aR⟩⟩,
    ⟨⟨[⟨25,fun _=>tC 157 [tV (ax b1 0)],some 2⟩,⟨28,fun _=>H cN r,some 5⟩],_,[([],[6]),([11],[6,11])],M,⟨(fun _=>M),(fun _=>M),aR⟩,M,M,M,M,M,⟨fun sg=>cD M (EffOK.fr2 (EffOK.fr2 (yf (xs:=[.tmp 28]) (ts:=[H cN r]) (cts:=[tV (ax b1 0)]) [bx rV 22 b1 (aL l1 c1 stack1.length),fD af 27 l1 c1 stack1] _ M NK (Kw b1 l1 c1 _ _ q_r1) (D M) ⟨(D M),aR⟩ (fun _=>M)))),fun sg=>cD M (EffOK.post_imp (post:=fun x__=>(fun(sg:Nat->OI)=>[bx rV 22 b1 (aL ((sg 6).h 0).1 ((sg 6).h 0).2 r1.2.length),fD af 27 ((sg 6).h 0).1 ((sg 6).h 0).2 r1.2,bx af 27 ((sg 11).h 0).2 kI,bx af 27 b kI]) (Fu sg 6 x__)) (EffOK.fr3 (EffOK.fr3 (yf (xs:=[.tmp 28]) (ts:=[H cN r]) (cts:=[tV (ax b1 0)]) [bx rV 22 b1 (aL l1 c1 stack1.length),fD af 27 l1 c1 stack1] _ M NK (Kw b1 l1 c1 _ _ q_r1) (D M) ⟨(D M),aR⟩ (fun _=>M)))) (fun h=>dg.pick [2,0,1,3] M h)),aR⟩⟩,
    ⟨⟨[⟨23,fun _=>(kK bh Lv Ls (fun(x:aj×(List ai))=>do1 x.1 x.2)),some 0⟩,⟨24,fun _=>H ap e2,some 1⟩,⟨29,fun _=>H vO r1.1,some 6⟩],_,[[6],[6,11]],M,⟨(fun _=>M),(fun _=>M),(fun _=>M),aR⟩,M,M,M,M,M,⟨fun sg=>ae M (mZ (args:=Lv) (res:=Ls) (f:=(fun(x:aj×(List ai))=>do1 x.1 x.2)) (x:=((e2,r1.1):aj×(List ai))) (D M) q_r2 ⟨(D M),(D M),aR⟩),fun sg=>ae M (mZ (args:=Lv) (res:=Ls) (f:=(fun(x:aj×(List ai))=>do1 x.1 x.2)) (x:=((e2,r1.1):aj×(List ai))) (D M) q_r2 ⟨(D M),(D M),aR⟩),aR⟩⟩,
    ⟨⟨[⟨30,fun _=>tT [H af r2.1,H cN r2.2],some 7⟩],_,[[6],[6,11]],M,⟨(fun _=>M),aR⟩,M,M,M,M,M,⟨fun sg=>ae M (nb M),fun sg=>ae M (nb M),aR⟩⟩,
    ⟨⟨[⟨22,fun _=>tT [H af r2.1,H cN r2.2],some 8⟩],_,[[6],[6,11]],M,⟨(fun _=>M),aR⟩,M,M,M,M,M,⟨fun sg=>ae M (Bh M M),fun sg=>ae M (Bh M M),aR⟩⟩,
    ⟨⟨[⟨22,fun _=>tT [H af r2.1,H cN r2.2],some 8⟩],_,[[6],[6,11],[6,11,12]],M,⟨(fun _=>M),aR⟩,M,M,M,M,M,⟨fun sg=>ae M (Bh M M),fun sg=>ae M (Bh M M),fun sg=>ae M (Bh M M),aR⟩⟩,
    ⟨⟨[],_,[([],[11]),([6],[6,11])],M,aR,M,M,M,M,M,⟨fun sg=>cD M (ly aU cB),fun sg=>cD M (ly aU cB),aR⟩⟩,
    ⟨⟨[⟨12,fun sg=>tV (ax ((sg 11).h 0).2 0),some 11⟩,⟨31,fun _=>H af r2.1,some 9⟩],_,[([6,11],[6,11,12])],M,⟨(fun _=>M),(fun _=>M),aR⟩,M,M,M,M,M,⟨fun sg=>cD M (ii aU M (pV ac) M (D M) (D M)),aR⟩⟩,
    aR⟩⟩⟩⟩⟩⟩⟩⟩⟩⟩⟩⟩⟩ (fun sg=>?_)
   refine(show RG _ _ _ _ [_,_,_,_] _ from ?_);refine aD 12 M<|aY M<|bl<|bu M<|lH M<|dv h M (fun h=>?_) (fun h=>?_)
   ·refine aZ M<|aY M<|iz<|aM<|bY M<|aM<|aM<|dW<|bq<|bq<|aJ ?_;exact c9 (ah r2.2 r1.2 ((sg 6).h 0).1 ((sg 6).h 0).2 h) (bv M)
   ·refine kF<|aG<|K (k5 hZ (.head _) (D M))<|bw aU M<|K (aW (r:=af) (ys:=[r2.1]) (xs:=[.tmp 37]) kX aU M M M M M ⟨(D M),aR⟩)<|aT<|cC h fun l2 q_l2 h=>dE aU M M M M kX M M (D M) (D M) q_l2 fun l3 c2=>aT<|dd hZ M ac M (D M) (BC (D M))<|bt<|dU I hN M<|bq<|bq<|aJ ?_;exact bg (aP (ih (i+1) bad1 l2 l3 c2 ⟨dH I,h⟩) (bv M))

end Go.Proofs.YtbmmihfagmchaaaGreat

