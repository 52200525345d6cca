/- cW of this claim: P9. -/
import Derived.Test.YtbmmihfagmchaaaGreatRcT
import Derived.Test.YtbmmihfagmchaaaGreatRcP8
set_option linter.all false
namespace Go.Proofs.YtbmmihfagmchaaaGreat
open Go
set_option maxRecDepth 100000

def OY l place{R}(h:lZ l place=some R):cK bh 64 [H ay l,cE place] (tT [H ay R.1,cE R.2]):=by
 refine ep Tryz.func64 M<|aV<|dh M<|aA cQ d5 M fun b=>dj<|cb<|aV<|bw cQ M<|eu h Ps (Gw _) (co M) fun r h=>bu M<|bZ M M<|bZ M M<|bZ M M<|jy M<|jy M<|aY M<|aI<|av ?_;refine aZ M<|K (iY (D M))<|aY M<|oH h M (fun h=>?_) (fun h=>?_)
 ·exact aV<|K (bR cQ C5 d5 M)<|aO cQ ac M<|fY<|eN<|aK 4 M<|so h▸bI M M ⟨bf cQ M M M,aQ M,aR⟩
 ·refine aZ M<|K (mL (D M) hI)<|bu M<|cw M (fV M)<|cw M (ez gq eg M M)<|cw M (ev nk M M)<|cw M (p5 jW M)<|cw M (fun T=>gX (df M T) (df M T))<|nv M<|aY M<|oH h M (fun h=>?_) (fun h=>?_)
  ·exact aV<|K (bR cQ C5 d5 M)<|aO cQ ac M<|fY<|eN<|aK 4 M<|so h▸bI M M ⟨bf cQ M M M,aQ M,aR⟩
  ·refine cc<|bj<|aB<|aV<|bL true ak 55<|aA (r:=dK) (x:=ef Bg NX) cQ sZ M fun b1=>cb<|bl<|bu M<|K (CW (D M))<|bP rG xf eK M<|bu M<|cC h fun e q_e h=>gF gr ck M q_e<|aY M<|av ?_;refine cd<|dn<|dn<|fi ?_;refine aP (HS (h3:=fun n i out l1 c=>ln l place e n i out=some R) (Of:=fun i out l1 c=>[bx ay 39 b Bg,bx dK 39 b1 (ef out (aL l1 c out.Nodes.length)),hX ak 55 l1 c out.Nodes]) (Gf:=fun i out l1 c=>[(1,cE place),(2,bC ay l),(4,tV (ax b 0)),(6,bC bc r.1),(9,tV (ax b1 0)),(10,cE i)]) (fun i out l1 c h=>nn h) (fun n ih i out l1 c h=>?_) gi e ({Bg with Nodes:=Ll}:aw) none 0 h) (bv M);refine kw<|bl<|bu M<|bu M<|K (oV (D M) (D M))<|dv h M (fun h=>?_) (fun h=>?_)
   ·refine kF<|aI<|av<|cC h fun e1 q_e1 h=>cC h fun r1 q_r1 h=>?_
    refine kD 17 (ts:=[tV (ax b1 0),tO ak l1 c out.Nodes,bC Bs l.Nodes,gk (ak) l.Nodes,cE i,bC ak e1,H ak e1,bC bc r.1,bC bc r.1,bC px r.1.first,lO r.1.first,cE place,bC cN e,cE e,cE (IntKind.i64.wrap (0-e)),H ak r1,gk (ak) ([r1])]) mixed M M M
     ⟨qd 9 M M (rW 0 gq M M M),
     ⟨fb 44 0 M M (ic nk jJ (.tail _ (.head _)) (.tail _ (.tail _ (.head _))) M (D M)),
     ⟨qd 2 M M (nN gq eg M M),
     ⟨jf 2 nk M M,
     ⟨iJ M M,
     ⟨gg 47 3 48 4 M M M (H1 jW dV M M M q_e1),
     ⟨jf 5 dV M M,
     ⟨iJ M M,
     ⟨fb 51 7 M M (CW (D M)),
     ⟨fb 52 8 M M (nN rG xf M M),
     ⟨jf 9 eK M M,
     ⟨iJ M M,
     ⟨gg 54 10 55 11 M M M (H1 gr ck M M M q_e),
     ⟨jf 12 ck M M,
     ⟨fb 57 13 M M (Gb (D M)),
     ⟨gg 50 6 58 14 M M M (cm Po (Gt _ _ q_r1) ⟨(D M),(D M),aR⟩),
     ⟨fb 59 15 M M (aW (r:=ak) (ys:=[r1]) (xs:=[.tmp 59]) jW dV M M M M M ⟨(D M),aR⟩),
     aR⟩⟩⟩⟩⟩⟩⟩⟩⟩⟩⟩⟩⟩⟩⟩⟩⟩ ?_
    refine dy<|cC h fun l2 q_l2 h=>jo dV M M M M jW M M (D M) (D M) q_l2 fun l3 c1=>bJ 0 gq M<|dy<|ei nk M (lP _ _ _) M (D M) (BC (wH (D M)))<|bt<|bj<|aB<|aG<|bu M<|K (lD (D M) hI)<|jy M<|bt<|bq<|bq<|aJ ?_;exact bg (aP (ih (IntKind.i64.wrap (i+(1:Int))) ({out with Nodes:=l2}:aw) l3 c1 h) (bv M))
   ·exact iz<|aM<|aM<|dW<|aB<|aV<|dy<|K (iQ (q:=ay) (y:=out) cQ M M M M (.tail _ (.tail _ (.head _))) (fun _ _ _ ho h=>nf (j4 ho (.head _)) h) (D M))<|aT<|aO cQ ac M<|fY<|aK 4 M<|aN<|aN<|so h▸bI M M ⟨bf cQ M M M,aQ M,aR⟩

def Mj: ∀(fu:Nat) (l:aw) {R:am} (h:gW fu l=some R),cK bh 39 [H ay l] (H aq R):=by
 intro fu
 induction fu with
 |zero=>intro l R h;exact(nn h).elim
 |succ fu ihR=>
  intro l R h
  refine ep Tryz.func39 M<|aV<|dh M<|aA br eW M fun b=>cb<|aI<|Lc true aq 87<|cC h fun e q_e h=>?_
  refine jN 11 [tc (H ay l),tc (bC Bs l.Nodes),tc (gk (ak) l.Nodes),tc (bC Bs l.Nodes),tc (gk (ak) l.Nodes),tc (jw l.Nodes),tc (cE (IntKind.i64.wrap ((l.Nodes.length:Int)-(1:Int)))),tc (bC ak e),tc (H ak e),tc (H j6 (oX (⟨l,e,[]⟩:am) (aL none 0 (Fy.length)))),([10],fun s=>tV (ax ((s.getD 0 qt).h 0).2 0))] [false,false,false,false,false,false,false,false,false,false,true] [fun _=>[hX aq 87 none 0 Fy,bx aq 87 b oF],fun sg=>[bx aq 87 ((sg 10).h 0).2 oF,hX aq 87 none 0 Fy,bx aq 87 b oF]] M mixed M M M M M
   ⟨⟨[⟨1,fun _=>bC ay l,none⟩],_,0,1,M,⟨(fun _=>M),aR⟩,M,M,M,M,M,fun _ sg _ _=>ae M (pe cQ M M)⟩,
   ⟨⟨[⟨1,fun _=>bC ay l,none⟩],_,0,1,M,⟨(fun _=>M),aR⟩,M,M,M,M,M,fun _ sg _ _=>ae M (nN gq eg M M)⟩,
   ⟨⟨[⟨9,fun _=>bC Bs l.Nodes,some 1⟩],_,0,1,M,⟨(fun _=>M),aR⟩,M,M,M,M,M,fun _ sg _ _=>ae M (pe nk M M)⟩,
   ⟨⟨[⟨1,fun _=>bC ay l,none⟩],_,0,1,M,⟨(fun _=>M),aR⟩,M,M,M,M,M,fun _ sg _ _=>ae M (nN gq eg M M)⟩,
   ⟨⟨[⟨11,fun _=>bC Bs l.Nodes,some 3⟩],_,0,1,M,⟨(fun _=>M),aR⟩,M,M,M,M,M,fun _ sg _ _=>ae M (pe nk M M)⟩,
   ⟨⟨[⟨12,fun _=>H Bs l.Nodes,some 4⟩],_,0,1,M,⟨(fun _=>M),aR⟩,M,M,M,M,M,fun _ sg _ _=>ae M (PM jW M)⟩,
   ⟨⟨[⟨13,fun _=>H cN (l.Nodes.length:Int),some 5⟩],_,0,1,M,⟨(fun _=>M),aR⟩,M,M,M,M,M,fun _ sg _ _=>ae M (gc (D M) hI)⟩,
   ⟨⟨[⟨10,fun _=>H Bs l.Nodes,some 2⟩,⟨14,fun _=>H cN (IntKind.i64.wrap ((l.Nodes.length:Int)-(1:Int))),some 6⟩],_,0,1,M,⟨(fun _=>M),(fun _=>M),aR⟩,M,M,M,M,M,fun _ sg _ _=>ae M (H1 jW dV M M M q_e)⟩,
   ⟨⟨[⟨15,fun _=>bC ak e,some 7⟩],_,0,1,M,⟨(fun _=>M),aR⟩,M,M,M,M,M,fun _ sg _ _=>ae M (pe dV M M)⟩,
   ⟨⟨[⟨8,fun _=>H ay l,some 0⟩,⟨16,fun _=>H ak e,some 8⟩],_,0,1,M,⟨(fun _=>M),(fun _=>M),aR⟩,M,M,M,M,M,fun _ sg _ _=>ae M (bR (y:=oX (⟨l,e,[]⟩:am) (aL none 0 (Fy.length))) br OG HX (⟨_,_,_,_,_,M,D0,M,(D M),⟨_,_,_,_,_,M,DZ,M,(D M),M⟩⟩))⟩,
   ⟨⟨[],_,M,aR,M,M,M,fun sg=>cD M (ly br eW)⟩,
   aR⟩⟩⟩⟩⟩⟩⟩⟩⟩⟩⟩ (fun sg=>?_)
  refine(show RG _ _ _ _ [_,_,_] _ from ?_);refine aT<|aT<|ei (r' :=j6) br M (jb M) M (D M) (D M)<|cb<|bl<|bJ 1 iG M<|bJ 2 jz M<|K (be ck M M (lg yN eG) (.head _) (D M))<|bJ 1 iG M<|bJ 3 ol M<|K (be ck M M (lg yN jk) (.head _) (D M))<|K (u0 (r:=cN) (ys:=[((⟨l,e,[]⟩:am).root).A,((⟨l,e,[]⟩:am).root).B]) (xs:=[.tmp 20,.tmp 23]) zt ck M wG M M ⟨(D M),(D M),aR⟩)<|K (ci hI)<|cb<|av<|cd<|dn<|dn<|fi ?_;refine aP (HP (h3:=fun k i t l1 c=>(2-i=k)/\dx (gW fu) l e k i t=some R) (Of:=fun _ i t l1 c=>[bx aq 87 b oF,bx j6 87 ((sg 10).h 0).2 (oX t (aL l1 c t.parts.length)),hX aq 87 l1 c t.parts]) (Gf:=fun _ i t l1 c=>[(1,bC ay l),(2,tV (ax b 0)),(3,tV (ax ((sg 10).h 0).2 0)),(24,H CH ([((⟨l,e,[]⟩:am).root).A,((⟨l,e,[]⟩:am).root).B])),(25,cE (i:Int))]) (fun i t l1 c h=>?_) (fun k1 ih i t l1 c h=>?_) 2 0 ({(⟨l,e,[]⟩:am)with parts:=Fy}:am) none 0 ⟨M,h⟩) (bv M)
  ·obtain⟨I,h⟩:=h
   refine kw<|aV<|K (mL (D M) hI)<|cb<|aI<|xx (D M) (Qo I)<|iz<|aM<|aM<|dW<|aB<|aV<|dy<|K (iQ (q:=aq) (y:=t) br M M M M (.tail _ (.tail _ (.head _))) (fun _ _ _ ho h=>AW (j4 ho (.head _)) h) (D M))<|aT<|aO br ac M<|aD 2 M<|da<|aN ?_;exact aN<|so h▸gR M br M M M
  ·obtain⟨I,h⟩:=h
   refine kw<|aV<|K (mL (D M) hI)<|cb<|aI<|xw (D M) (Qn I)<|kF<|aI<|av<|aV<|cC h fun e2 q_e2 h=>K (Iq zt ck M M (D M) (D M) q_e2)<|aY M<|aZ M<|K (gX (D M) hI)<|bt ?_;refine aB<|oH h M (fun h=>?_) (fun h=>?_)
   ·refine aV<|bw cQ M<|bu M<|eu h Sz (OY _ _) (co M) fun r h=>bu M<|bZ M M<|bZ M M<|aA cQ d5 M fun b1=>aO cQ ac M<|aD 6 M<|aY M<|cC h fun r1 q_r1 h=>?_
    refine kD 5 (ts:=[tV (ax ((sg 10).h 0).2 13),tO aq l1 c t.parts,H ay r.1,H aq r1,gk (aq) ([r1])]) mixed M M M
     ⟨qd 3 M M (rW 13 lE M M M),
     ⟨fb 36 0 M M (ic tP ET (.tail _ (.head _)) (.tail _ (.tail _ (.head _))) M (D M)),
     ⟨qd 6 M M (pe cQ M M),
     ⟨fb 38 2 M M (cm Pt (ihR _ q_r1) ⟨(D M),aR⟩),
     ⟨fb 39 3 M M (aW (r:=aq) (ys:=[r1]) (xs:=[.tmp 39]) ni br M M M M M ⟨(D M),aR⟩),
     aR⟩⟩⟩⟩⟩ ?_
    refine dy<|cC h fun l2 q_l2 h=>jo br M M M M ni M M (D M) (D M) q_l2 fun l3 c1=>bJ 13 lE M<|dy<|ei tP M (vl _ _ _) M (D M) (BC (wH (D M)))<|bt<|bj<|aB<|aG<|K (wX (LT I (by decide)) (D M) hI)<|bu M<|bt<|bq<|bq<|aJ ?_;exact bg (aP (ih (i+1) ({t with parts:=l2}:am) l3 c1 ⟨LS I,h⟩) (bv M))
   ·refine cc<|bj<|aB<|aG<|K (wX (LT I (by decide)) (D M) hI)<|bu M<|bt ?_;exact bg (aP (ih (i+1) t l1 c ⟨LS I,h⟩) (bv M))
def Kr l{R}(h:pg l=some R):cK bh 39 [H ay l] (H aq R):=Mj gi l h

def Gy l{R}(h:ec l=some R):cK bh 13 [H ay l] (tT [H ay R.1,cE R.2]):=by
 refine ep Tryz.func13 M<|aV<|dh M<|aA cQ d5 M fun b=>dj<|cb<|bl<|bw cQ M<|eu h Nb (De _) (co M) fun r h=>bu M<|bZ M M<|bZ M M<|jy M<|aY M<|aZ M ?_;refine lH M<|dv h M (fun h=>?_) (fun h=>?_)
 ·exact aV<|K (bR cQ C5 d5 M)<|bu M<|aO cQ ac M<|bG M<|an<|aK 2 M<|so h▸bI M M ⟨bf cQ M M M,aQ M,aR⟩
 ·refine kF<|aV<|aA (r:=rV) (x:= .nilFunc) LA (fun _=>⟨M,M⟩) M fun b1=>cb<|aV<|K (JM (D M))<|vg (ii (r' :=rV) (x' :=um 36 b1) (q:=rV) (y:=um 36 b1) LA M (jb M) M (D M) (hSV (D M))) fun _=>GR 6 M<|cb<|aI<|cC h fun r1 q_r1 h=>cC h fun r2 q_r2 h=>?_
  refine jN 9 [tc (tV (um 36 b1)),tc (H ay l),tc (H aq r1),tc (tT [H aq r2.1,gC r2.2]),tc (tT [H aq r2.1,gC r2.2]),tc (H aq r2.1),tc (gC r2.2),([7],fun s=>tV (ax ((s.getD 0 qt).h 0).2 0)),tc (vR)] [false,false,false,false,false,false,false,true,true] [fun _=>[bx ay 39 b Bg],fun sg=>[bx aq 87 ((sg 7).h 0).2 oF,bx ay 39 b Bg],fun sg=>[bx aq 87 ((sg 7).h 0).2 r2.1,bx ay 39 b Bg]] M mixed M M M M M
   ⟨⟨[⟨6,fun _=>y5 36 b1,none⟩],_,0,1,M,⟨(fun _=>M),aR⟩,M,M,M,M,M,fun _ sg _ _=>ae M (El LA (D M))⟩,
   ⟨⟨[⟨1,fun _=>bC ay l,none⟩],_,0,1,M,⟨(fun _=>M),aR⟩,M,M,M,M,M,fun _ sg _ _=>ae M (pe cQ M M)⟩,
   ⟨⟨[⟨21,fun _=>H ay l,some 1⟩],_,0,1,M,⟨(fun _=>M),aR⟩,M,M,M,M,M,fun _ sg _ _=>ae M (cm Pt (Kr _ q_r1) ⟨(D M),aR⟩)⟩,
   ⟨⟨[⟨20,fun _=>tV (um 36 b1),some 0⟩,⟨22,fun _=>H aq r1,some 2⟩,⟨6,fun _=>y5 36 b1,none⟩],_,0,1,M,⟨(fun _=>M),(fun _=>M),(fun _=>M),aR⟩,M,M,M,M,M,fun _ sg _ _=>ae M (Em (ts:=[H aq r1]) (D M) (cp:= .tmp 6) (D M) QW (Pa _ _ q_r2) ⟨(D M),aR⟩)⟩,
   ⟨⟨[⟨23,fun _=>tT [H aq r2.1,H rB r2.2],some 3⟩],_,0,1,M,⟨(fun _=>M),aR⟩,M,M,M,M,M,fun _ sg _ _=>ae M (nb M)⟩,
   ⟨⟨[⟨19,fun _=>tT [H aq r2.1,H rB r2.2],some 4⟩],_,0,1,M,⟨(fun _=>M),aR⟩,M,M,M,M,M,fun _ sg _ _=>ae M (Bh M M)⟩,
   ⟨⟨[⟨19,fun _=>tT [H aq r2.1,H rB r2.2],some 4⟩],_,0,2,M,⟨(fun _=>M),aR⟩,M,M,M,M,M,fun _ sg _ _=>ae M (Bh M M)⟩,
   ⟨⟨[],_,M,aR,M,M,M,fun sg=>cD M (ly br eW)⟩,
   ⟨⟨[⟨7,fun sg=>tV (ax ((sg 7).h 0).2 0),some 7⟩,⟨24,fun _=>H aq r2.1,some 5⟩],_,M,⟨(fun _=>M),(fun _=>M),aR⟩,M,M,M,fun sg=>cD M (ii br M (pV ac) M (D M) (D M))⟩,
   aR⟩⟩⟩⟩⟩⟩⟩⟩⟩ (fun sg=>?_)
  refine(show RG _ _ _ _ [_,_] _ from ?_);refine aD 7 M<|aY M<|bl<|bu M<|K (iY (D M))<|dv h M (fun h=>?_) (fun h=>?_)
  ·exact aV<|bw cQ M<|aO cQ ac M<|fY<|an<|aK 2 M<|so h▸bI M M ⟨bf cQ M M M,aQ M,aR⟩
  ·exact kF<|aV<|bP x9 qw cQ M<|aO cQ ac M<|fY<|aK 2 M<|so h▸bI M M ⟨bf cQ M M M,aQ M,aR⟩

def Kx l{R}(h:lU l=some R):cK bh 14 [H ay l] (tT [H ay R.1,gC R.2.1,cE R.2.2]):=by
 refine ep Tryz.func14 M<|aV<|dh M<|aA cQ d5 M fun b=>cn<|dj<|cb<|bl<|bw cQ M<|eu h Nb (De _) (co M) fun r h=>bu M<|bZ M M<|bZ M M<|jy M<|aY M<|aV ?_;refine bu M<|lH M<|dv h M (fun h=>?_) (fun h=>?_)
 ·exact aV<|K (bR cQ C5 d5 M)<|bu M<|aO cQ ac M<|cn<|bG M<|an<|aK 2 M<|so h▸bI M M ⟨bf cQ M M M,aQ M,aQ M,aR⟩
 ·refine kF<|aV<|bw cQ M<|eu h Pt (Kr _) (co M) fun r1 h=>eu h QU (O8 _ _) (co M) fun r2 h=>bu M<|bZ M M<|bZ M M<|aA br eW M fun b1=>aO br ac M<|aD 7 M<|aY M<|bl<|bu M<|lH M<|bt ?_;refine aB<|oH h M (fun h=>?_) (fun h=>?_)
  ·exact aV<|bw cQ M<|aO cQ ac M<|cn<|fY<|an<|aK 2 M<|so h▸bI M M ⟨bf cQ M M M,aQ M,aQ M,aR⟩
  ·exact kF<|aV<|bP x9 qw cQ M<|aO cQ ac M<|cn<|fY<|aK 2 M<|so h▸bI M M ⟨bf cQ M M M,aQ M,aQ M,aR⟩

def wp root l{R}(h:lW root l=some R):cK bh 52 [H ap root,gk (af) l] (H af R):=by
 refine ep Tryz.func52 M<|aV<|rN (D M) M fun b=>aA aU cB M fun b1=>cb<|aV<|bL true ap 63<|aA (r:=dD) (x:=dY kI (aL none 0 (CI.length))) aU oL M fun b2=>cb<|aV<|bJ 1 oj M<|ek<|dd ck M oQ M (D M) hI<|bJ 2 oh M<|dd ck M oP M (D M) hI<|cb<|aI<|aI ?_;refine aG<|bu M<|cA kX M<|K (ci hI)<|cb<|av<|bA (k:=13) M fun hN=>cd<|fi<|fi<|kC<|kC ?_;refine aP (m8 (h3:=fun ls i gV out l1 c=>(l.drop i=ls)/\lk ls i gV out=some R) (Of:=fun _ i gV out l1 c=>[bx ap 63 b gV,bx af 27 b1 kI,bx dD 27 b2 (dY out (aL l1 c out.Nodes.length)),hX ap 63 l1 c out.Nodes]) (Gf:=fun _ i gV out l1 c=>[(2,tV (ax b 0)),(4,tV (ax b1 0)),(5,tV (ax b2 0)),(13,gk (af) l),(14,jw l),(15,cE (i:Int))]) (fun i gV out l1 c h=>?_) (fun e tl ih i gV out l1 c h=>?_) l 0 (aj.mk root.Tag pA pA root.Col root.Value) ({kI with Nodes:=CI}:ai) none 0 ⟨M,h⟩) (bv M)
 ·obtain⟨I,h⟩:=h
  refine fa I M<|aB<|aV<|bJ 0 dq M<|K (ic iU iF (.tail _ (.tail _ (.head _))) (.tail _ (.tail _ (.tail _ (.head _)))) M (D M))<|K (be fc M M bO (.head _) (D M))<|K (aW (r:=ap) (ys:=[gV]) (xs:=[.tmp 68]) na fc M M M M M ⟨(D M),aR⟩)<|ek<|cC h fun l2 q_l2 h=>jo fc M M M M na M M (D M) (D M) q_l2 fun l3 c1=>bJ 0 dq M<|ek ?_;exact ei iU M (p6 _ _ _) M (D M) (BC (wH (D M)))<|cb<|aV<|aT<|K (iQ (q:=af) (y:=({out with Nodes:=l2}:ai)) aU M M M M (.tail _ (.head _)) (fun _ _ _ ho h=>ox (j4 ho (.head _)) h) (D M))<|ek<|aO aU ac M<|aD 4 M<|da<|aN<|aN<|aN<|so h▸gR M aU M M M
 ·obtain⟨I,h⟩:=h
  refine eZ I M<|aI<|av<|aZ M<|gF kX aU M (fy I)<|aA aU cB M fun b3=>jy M<|aO aU ac M<|aD 7 M<|cb<|aI ?_;refine aG<|bJ 0 dq M<|K (ic iU iF (.tail _ (.tail _ (.head _))) (.tail _ (.tail _ (.tail _ (.head _)))) M (D M))<|K (ke na (mK (D M)))<|aY M<|bl<|bP dq cG iU M<|cA na M<|K (ci hI)<|cb<|av<|bA (k:=24) M fun hN1=>cd ?_;refine aP (rf (h3:=fun ls1 i1 out1 l4 c2=>(e.Nodes.drop i1=ls1)/\lj (lk tl) i gV out ls1 out1=some R) (Of:=fun _ i1 out1 l4 c2=>[bx ap 63 b gV,bx af 27 b1 kI,bx dD 27 b2 (dY out1 (aL l4 c2 out1.Nodes.length)),hX ap 63 l4 c2 out1.Nodes]) (Gf:=fun _ i1 out1 l4 c2=>[(2,tV (ax b 0)),(4,tV (ax b1 0)),(5,tV (ax b2 0)),(6,cE (i:Int)),(8,jw out.Nodes),(13,gk (af) l),(14,jw l),(15,cE (i:Int)),(24,gk (ap) e.Nodes),(25,jw e.Nodes),(26,cE (i1:Int))]) (fun i1 out1 l4 c2 h=>?_) (fun e1 tl1 ih1 i1 out1 l4 c2 h=>?_) e.Nodes 0 out l1 c ⟨M,h⟩) (bv M)
  ·obtain⟨hx1,h⟩:=h
   refine fa hx1 M<|aB<|aZ M<|dz M<|dv h M (fun h=>?_) (fun h=>?_)
   ·refine aG<|bJ 0 dq M<|K (ic iU iF (.tail _ (.tail _ (.head _))) (.tail _ (.tail _ (.tail _ (.head _)))) M (D M))<|K (ke na (mK (D M)))<|K (gc (D M) hI)<|bJ 1 oj M<|aO ck oQ M<|bt<|dU I hN M ?_;exact bg (aP (ih (i+1) (aj.mk gV.Tag (IntKind.i64.wrap ((out1.Nodes.length:Int)-(1:Int))) gV.R gV.Col gV.Value) out1 l4 c2 ⟨dH I,h⟩) (bv M))
   ·refine aG<|bJ 0 dq M<|K (ic iU iF (.tail _ (.tail _ (.head _))) (.tail _ (.tail _ (.tail _ (.head _)))) M (D M))<|K (ke na (mK (D M)))<|K (gc (D M) hI)<|bJ 2 oh M<|aO ck oP M<|bt<|dU I hN M ?_;exact bg (aP (ih (i+1) (aj.mk gV.Tag gV.L (IntKind.i64.wrap ((out1.Nodes.length:Int)-(1:Int))) gV.Col gV.Value) out1 l4 c2 ⟨dH I,h⟩) (bv M))
  ·obtain⟨hx1,h⟩:=h
   refine eZ hx1 M<|aI<|av<|aV<|gF na fc M (fy hx1)<|aA fc iB M fun b4=>aO fc ac M<|cb ?_;refine jd (h3:=fun n=>sd out (lj (lk tl) i gV out tl1) out1 n=some R) (Of:=fun n=>[bx ap 63 b gV,bx af 27 b1 kI,bx ap 63 b4 n,bx dD 27 b2 (dY out1 (aL l4 c2 out1.Nodes.length)),hX ap 63 l4 c2 out1.Nodes]) (Gf:=fun n=>[(2,tV (ax b 0)),(4,tV (ax b1 0)),(5,tV (ax b2 0)),(6,cE (i:Int)),(8,jw out.Nodes),(10,tV (ax b4 0)),(13,gk (af) l),(14,jw l),(15,cE (i:Int)),(24,gk (ap) e.Nodes),(25,jw e.Nodes),(26,cE (i1:Int))]) (fun n h=>?_) (fun ah=>?_)
   ·skip
    refine jd (h3:=fun n1=>r9 (lj (lk tl) i gV out tl1) out1 n1=some R) (Of:=fun n1=>[bx ap 63 b gV,bx af 27 b1 kI,bx ap 63 b4 n1,bx dD 27 b2 (dY out1 (aL l4 c2 out1.Nodes.length)),hX ap 63 l4 c2 out1.Nodes]) (Gf:=fun n1=>[(2,tV (ax b 0)),(4,tV (ax b1 0)),(5,tV (ax b2 0)),(6,cE (i:Int)),(8,jw out.Nodes),(10,tV (ax b4 0)),(13,gk (af) l),(14,jw l),(15,cE (i:Int)),(24,gk (ap) e.Nodes),(25,jw e.Nodes),(26,cE (i1:Int))]) (fun n1 h=>?_) (fun K1=>?_)
    ·skip
     refine aG<|bJ 0 dq M<|K (ic iU iF (.tail _ (.tail _ (.tail _ (.head _)))) (.tail _ (.tail _ (.tail _ (.tail _ (.head _))))) M (D M))<|K (be fc M M bO (.tail _ (.tail _ (.head _))) (D M))<|K (aW (r:=ap) (ys:=[n1]) (xs:=[.tmp 48]) na fc M M M M M ⟨(D M),aR⟩)<|mG<|cC h fun l5 q_l5 h=>jo fc M M M M na M M (D M) (D M) q_l5 fun l6 c3=>bJ 0 dq M<|mG<|ei iU M (p6 _ _ _) M (D M) (BC (wH (D M)))<|bt<|dU hx1 hN1 M<|cH<|aN<|bq<|bq<|cy<|cy ?_;exact bg (aP (ih1 (i1+1) ({out1 with Nodes:=l5}:ai) l6 c3 ⟨dH hx1,h⟩) (bv M))
    ·skip
     refine aV<|bJ 2 oh M<|K (be ck M M kT (.tail _ (.tail _ (.head _))) (D M))<|K (gX (D M) hI)<|dv h M (fun h=>?_) (fun h=>?_)
     ·refine aG<|bJ 2 oh M<|K (be ck M M kT (.tail _ (.tail _ (.head _))) (D M))<|bu M<|K (lD (D M) (D M))<|bJ 2 oh M<|dy<|aO ck oP M<|bt<|cH<|cH<|aJ<|cH<|cH ?_;exact c9 (K1 (aj.mk n.Tag n.L (IntKind.i64.wrap (n.R+(out.Nodes.length:Int))) n.Col n.Value) h) (bv M)
     ·refine cc ?_;exact c9 (K1 n h) (bv M)
   ·skip
    refine aV<|bJ 1 oj M<|K (be ck M M kU (.head _) (D M))<|K (gX (D M) hI)<|dv h M (fun h=>?_) (fun h=>?_)
    ·refine aG<|bJ 1 oj M<|K (be ck M M kU (.head _) (D M))<|bu M<|K (lD (D M) (D M))<|bJ 1 oj M<|aO ck oQ M<|bt<|cH<|cH<|aJ<|cH<|cH ?_;exact c9 (ah (aj.mk e1.Tag (IntKind.i64.wrap (e1.L+(out.Nodes.length:Int))) e1.R e1.Col e1.Value) h) (bv M)
    ·refine cc<|cH<|cH<|aJ<|cH<|cH ?_;exact c9 (ah e1 h) (bv M)

def O4 n{R}(h:BX n=some R):cK bh 53 [cE n] (H dA R):=by
 exact ep Tryz.func53 M<|aV<|aA pU mQ M fun b=>cb<|aZ M<|K (bR (y:=(⟨(2:Int),n,(0:Int),[]⟩:bN)) pU J9 mQ (⟨_,_,_,_,_,M,qL,M,hI,⟨_,_,_,_,_,M,s4,M,(D M),M⟩⟩))<|aO pU ac M<|aD 2 M<|da<|so h▸gR M pU M M M

def Gx col n{R}(h:rz col n=some R):cK bh 22 [cE col,cE n] (H af R):=by
 refine ep Tryz.func22 M<|aV<|aA aU cB M fun b=>cb<|aV<|K (bR (y:=N3) fc EP iB (⟨_,_,_,_,_,M,lT,M,hI,M⟩))<|bu M<|K (bR (y:=(⟨(2:Int),(0:Int),(0:Int),col,H0⟩:aj)) fc EP iB (⟨_,_,_,_,_,M,lT,M,hI,⟨_,_,_,_,_,M,vY,M,(D M),M⟩⟩))<|eu h GL (wp _ _) ⟨(D M),BD,aR⟩ fun r h=>bu M<|eu h SE (O4 _) (co M) fun r1 h=>K (bR (y:=(⟨(1:Int),(0:Int),(0:Int),(0:Int),r1⟩:aj)) fc EP iB (⟨_,_,_,_,_,M,lT,M,hI,⟨_,_,_,_,_,M,Ac,M,(D M),M⟩⟩))<|eu h GL (wp _ _) ⟨(D M),BD,aR⟩ fun r2 h=>K (aW (r:=af) (ys:=[r,r2]) (xs:=[.tmp 8,.tmp 12]) kX aU M M M M M ⟨(D M),(D M),aR⟩)<|eu h GL (wp _ _) (co M) fun r3 h=>aO aU ac M<|aD 4 M ?_;exact da<|so h▸gR M aU M M M

def Kt{R}(h:uD=some R):cK bh 20 [] (H ay R):=by
 refine ep Tryz.func20 M<|aV<|aA cQ d5 M fun b=>cb<|aV<|K (bR (y:=(⟨(22:Int),(0:Int),(0:Int),(0:Int),H0⟩:aj)) fc EP iB (⟨_,_,_,_,_,M,lT,M,hI,M⟩))<|eu h Pu (Gx _ _) (co M) fun r h=>eu h Pu (Gx _ _) (co M) fun r1 h=>K (aW (r:=af) (ys:=[r,r1]) (xs:=[.tmp 3,.tmp 4]) kX aU M M M M M ⟨(D M),(D M),aR⟩)<|eu h GL (wp _ _) (co M) fun r2 h=>aA aU cB M fun b1=>aO aU ac M<|aD 1 M<|cb<|aI<|cC h fun r3 q_r3 h=>cC h fun r4 q_r4 h=>?_;refine cC h fun r5 q_r5 h=>?_
 refine kD 16 (ts:=[lO ([(2:Int)]),H ak PB,lO ([(2:Int)]),H ak PC,H ap N3,H ap (⟨(2:Int),(0:Int),(0:Int),(0:Int),H0⟩:aj),H af r3,H ap (⟨(2:Int),(0:Int),(0:Int),(1:Int),H0⟩:aj),H af r4,gk (af) ([r3,r4]),H af r5,H ak (⟨(2:Int),(0:Int),(1:Int),(0:Int),[],false,r5,[],[],[],[],(0:Int)⟩:aa),H af r2,H ak (⟨(3:Int),(2:Int),pA,(0:Int),[],false,r2,[],[],[],[],(0:Int)⟩:aa),gk (ak) ([PB,PC,(⟨(2:Int),(0:Int),(1:Int),(0:Int),[],false,r5,[],[],[],[],(0:Int)⟩:aa),(⟨(3:Int),(2:Int),pA,(0:Int),[],false,r2,[],[],[],[],(0:Int)⟩:aa)]),H ay (⟨[PB,PC,(⟨(2:Int),(0:Int),(1:Int),(0:Int),[],false,r5,[],[],[],[],(0:Int)⟩:aa),(⟨(3:Int),(2:Int),pA,(0:Int),[],false,r2,[],[],[],[],(0:Int)⟩:aa)]⟩:aw)]) mixed M M M
  ⟨Lg M (aW (r:=cN) (ys:=[(2:Int)]) (xs:=[.const (.int .i64 (2))]) gr ck M M M M M ⟨hI,aR⟩),
  ⟨fb 7 0 M M (bR (y:=PB) dV EQ iA (⟨_,_,_,_,_,M,lS,M,hI,⟨_,_,_,_,_,M,nm,M,hI,⟨_,_,_,_,_,M,nl,M,hI,⟨_,_,_,_,_,M,qM,M,(D M),M⟩⟩⟩⟩)),
  ⟨Lg M (aW (r:=cN) (ys:=[(2:Int)]) (xs:=[.const (.int .i64 (2))]) gr ck M M M M M ⟨hI,aR⟩),
  ⟨fb 9 2 M M (bR (y:=PC) dV EQ iA (⟨_,_,_,_,_,M,lS,M,hI,⟨_,_,_,_,_,M,nm,M,hI,⟨_,_,_,_,_,M,nl,M,hI,⟨_,_,_,_,_,M,Ab,M,hI,⟨_,_,_,_,_,M,qM,M,(D M),M⟩⟩⟩⟩⟩)),
  ⟨Lg M (bR (y:=N3) fc EP iB (⟨_,_,_,_,_,M,lT,M,hI,M⟩)),
  ⟨Lg M (bR (y:=(⟨(2:Int),(0:Int),(0:Int),(0:Int),H0⟩:aj)) fc EP iB (⟨_,_,_,_,_,M,lT,M,hI,M⟩)),
  ⟨fb 12 5 M M (cm GL (wp _ _ q_r3) ⟨(D M),BD,aR⟩),
  ⟨Lg M (bR (y:=(⟨(2:Int),(0:Int),(0:Int),(1:Int),H0⟩:aj)) fc EP iB (⟨_,_,_,_,_,M,lT,M,hI,⟨_,_,_,_,_,M,vY,M,hI,M⟩⟩)),
  ⟨fb 14 7 M M (cm GL (wp _ _ q_r4) ⟨(D M),BD,aR⟩),
  ⟨gg 13 6 15 8 M M M (aW (r:=af) (ys:=[r3,r4]) (xs:=[.tmp 13,.tmp 15]) kX aU M M M M M ⟨(D M),(D M),aR⟩),
  ⟨gg 11 4 16 9 M M M (cm GL (wp _ _ q_r5) ⟨(D M),(D M),aR⟩),
  ⟨fb 17 10 M M (bR (y:=(⟨(2:Int),(0:Int),(1:Int),(0:Int),[],false,r5,[],[],[],[],(0:Int)⟩:aa)) dV EQ iA (⟨_,_,_,_,_,M,lS,M,hI,⟨_,_,_,_,_,M,nm,M,hI,⟨_,_,_,_,_,M,nl,M,hI,⟨_,_,_,_,_,M,lR,M,(D M),M⟩⟩⟩⟩)),
  ⟨qd 1 M M (pe aU M M),
  ⟨fb 19 12 M M (bR (y:=(⟨(3:Int),(2:Int),pA,(0:Int),[],false,r2,[],[],[],[],(0:Int)⟩:aa)) dV EQ iA (⟨_,_,_,_,_,M,lS,M,hI,⟨_,_,_,_,_,M,nm,M,hI,⟨_,_,_,_,_,M,nl,M,hI,⟨_,_,_,_,_,M,lR,M,(D M),M⟩⟩⟩⟩)),
  ⟨⟨[⟨8,_,some 1⟩,⟨10,_,some 3⟩,⟨18,_,some 11⟩,⟨20,_,some 13⟩],_,M,⟨M,M,M,M,aR⟩,M,M,ae M (aW (r:=ak) (ys:=[PB,PC,(⟨(2:Int),(0:Int),(1:Int),(0:Int),[],false,r5,[],[],[],[],(0:Int)⟩:aa),(⟨(3:Int),(2:Int),pA,(0:Int),[],false,r2,[],[],[],[],(0:Int)⟩:aa)]) (xs:=[.tmp 8,.tmp 10,.tmp 18,.tmp 20]) jW dV M M M M M ⟨(D M),(D M),(D M),(D M),aR⟩)⟩,
  ⟨fb 21 14 M M (bR (y:=(⟨[PB,PC,(⟨(2:Int),(0:Int),(1:Int),(0:Int),[],false,r5,[],[],[],[],(0:Int)⟩:aa),(⟨(3:Int),(2:Int),pA,(0:Int),[],false,r2,[],[],[],[],(0:Int)⟩:aa)]⟩:aw)) cQ C5 d5 (⟨_,_,_,_,_,M,FQ,M,(D M),M⟩)),
  aR⟩⟩⟩⟩⟩⟩⟩⟩⟩⟩⟩⟩⟩⟩⟩⟩ ?_
 exact aO cQ ac M<|aD 0 M<|da<|so h▸gR M cQ M M M

end Go.Proofs.YtbmmihfagmchaaaGreat

