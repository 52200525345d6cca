/- cW of this claim: P5. -/
import Derived.Test.YtbmmihfagmchaaaGreatRcT
import Derived.Test.YtbmmihfagmchaaaGreatRcP4
set_option linter.all false
namespace Go.Proofs.YtbmmihfagmchaaaGreat
open Go
set_option maxRecDepth 100000

def Kk n l{R}(h:np n l=some R):cK bh 84 [H ak n,gk (ay) l] (tT [H ay R.1,cE R.2]):=by
 refine ep Tryz.func84 M<|aV<|rN (D M) M fun b=>aA cQ d5 M fun b1=>dj<|cb<|aV<|bJ 1 jz M<|aT<|dd ck M nm M (D M) hI<|bJ 2 ol M<|dd ck M nl M (D M) hI<|cb<|aV<|bL true ak 55<|aA (r:=dK) (x:=ef Bg NX) cQ sZ M fun b2=>cb<|aI ?_;refine aZ M<|cA Tryz.underlying160 M<|K (ci hI)<|cb<|av<|bA (k:=18) M fun hN=>cd<|dn<|dn<|kC<|kC ?_;refine aP (Fn (h3:=fun ls i n1 x out l1 c=>(l.drop i=ls)/\gD ls i n1 x out=some R) (Of:=fun _ i n1 x out l1 c=>[bx ak 55 b n1,bx ay 39 b1 x,bx dK 39 b2 (ef out (aL l1 c out.Nodes.length)),hX ak 55 l1 c out.Nodes]) (Gf:=fun _ i n1 x out l1 c=>[(2,tV (ax b 0)),(4,tV (ax b1 0)),(6,tV (ax b2 0)),(18,gk (ay) l),(19,jw l),(20,cE (i:Int))]) (fun i n1 x out l1 c h=>?_) (fun e tl ih i n1 x out l1 c h=>?_) l 0 (aa.mk n.Op pA pA n.Table n.Kinds n.Left n.Cond n.Keys n.Aggs n.Items n.Order n.Limit) Bg ({Bg with Nodes:=Ll}:aw) none 0 ⟨M,h⟩) (bv M)
 ·obtain⟨I,h⟩:=h
  refine fa I M<|aB<|aI<|cC h fun r q_r h=>?_
  refine kD 5 (ts:=[tV (ax b2 0),tO ak l1 c out.Nodes,H ak n1,H ak r,gk (ak) ([r])]) mixed M M M
   ⟨qd 6 M M (rW 0 gq M M M),
   ⟨fb 66 0 M M (ic nk jJ (.tail _ (.tail _ (.head _))) (.tail _ (.tail _ (.tail _ (.head _)))) M (D M)),
   ⟨qd 2 M M (be dV M M bO (.head _) (D M)),
   ⟨fb 68 2 M M (cm Po (Gt _ _ q_r) ⟨(D M),hI,aR⟩),
   ⟨fb 69 3 M M (aW (r:=ak) (ys:=[r]) (xs:=[.tmp 69]) jW dV M M M M M ⟨(D M),aR⟩),
   aR⟩⟩⟩⟩⟩ ?_
  refine ek<|cC h fun l2 q_l2 h=>jo dV M M M M jW M M (D M) (D M) q_l2 fun l3 c1=>bJ 0 gq M<|ek<|ei nk M (lP _ _ _) M (D M) (BC (wH (D M)))<|cb<|bl<|aT<|K (iQ (q:=ay) (y:=({out with Nodes:=l2}:aw)) cQ M M M M (.tail _ (.head _)) (fun _ _ _ ho h=>nf (j4 ho (.head _)) h) (D M))<|eu h Nb (De _) (co M) fun r1 h=>bu M<|bZ M M<|bZ M M<|jy M<|aY M<|aV ?_;refine bu M<|lH M<|dv h M (fun h=>?_) (fun h=>?_)
  ·exact aV<|K (bR cQ C5 d5 M)<|bu M<|ek<|aO cQ ac M<|bG M<|an<|aK 4 M<|aN<|aN<|aN<|so h▸bI M M ⟨bf cQ M M M,aQ M,aR⟩
  ·exact kF<|aV<|K (iQ (q:=ay) (y:=({out with Nodes:=l2}:aw)) cQ M M M M (.tail _ (.head _)) (fun _ _ _ ho h=>nf (j4 ho (.head _)) h) (D M))<|ek<|aO cQ ac M<|fY<|aK 4 M<|aN<|aN<|aN<|so h▸bI M M ⟨bf cQ M M M,aQ M,aR⟩
 ·obtain⟨I,h⟩:=h
  refine eZ I M<|aI<|av<|aZ M<|gF Tryz.underlying160 cQ M (fy I)<|aA cQ d5 M fun b3=>jy M<|aO cQ ac M<|aD 8 M<|cb<|aI ?_;refine aV<|bw cQ M<|eu h Nb (De _) (co M) fun r2 h=>bu M<|bZ M M<|bZ M M<|jy M<|aY M<|aZ M<|lH M<|dv h M (fun h=>?_) (fun h=>?_)
  ·exact aV<|K (bR cQ C5 d5 M)<|bu M<|aT<|aO cQ ac M<|bG M<|an<|eN<|an<|eN<|aK 4 M<|aN<|aN<|aN<|so h▸bI M M ⟨bf cQ M M M,aQ M,aR⟩
  ·refine kF<|aV<|bJ 0 gq M<|K (ic nk jJ (.tail _ (.tail _ (.head _))) (.tail _ (.tail _ (.tail _ (.head _)))) M (D M))<|K (ke jW (mK (D M)))<|aY M<|bl<|bP gq eg nk M<|cA jW M<|K (ci hI)<|cb<|av<|bA (k:=38) M fun hN1=>cd ?_;refine aP (rf (h3:=fun ls1 i1 out1 l4 c2=>(e.Nodes.drop i1=ls1)/\ll (gD tl) i n1 x out ls1 out1=some R) (Of:=fun _ i1 out1 l4 c2=>[bx ak 55 b n1,bx ay 39 b1 x,bx dK 39 b2 (ef out1 (aL l4 c2 out1.Nodes.length)),hX ak 55 l4 c2 out1.Nodes]) (Gf:=fun _ i1 out1 l4 c2=>[(2,tV (ax b 0)),(4,tV (ax b1 0)),(6,tV (ax b2 0)),(7,cE (i:Int)),(11,jw out.Nodes),(18,gk (ay) l),(19,jw l),(20,cE (i:Int)),(38,gk (ak) e.Nodes),(39,jw e.Nodes),(40,cE (i1:Int))]) (fun i1 out1 l4 c2 h=>?_) (fun e1 tl1 ih1 i1 out1 l4 c2 h=>?_) e.Nodes 0 out l1 c ⟨M,h⟩) (bv M)
   ·obtain⟨hx1,h⟩:=h
    refine fa hx1 M<|aB<|aZ M<|dz M<|dv h M (fun h=>?_) (fun h=>?_)
    ·refine aG<|bJ 0 gq M<|K (ic nk jJ (.tail _ (.tail _ (.head _))) (.tail _ (.tail _ (.tail _ (.head _)))) M (D M))<|K (ke jW (mK (D M)))<|K (gc (D M) hI)<|bJ 1 jz M<|aO ck nm M<|bt<|dU I hN M ?_;exact bg (aP (ih (i+1) (aa.mk n1.Op (IntKind.i64.wrap ((out1.Nodes.length:Int)-(1:Int))) n1.B n1.Table n1.Kinds n1.Left n1.Cond n1.Keys n1.Aggs n1.Items n1.Order n1.Limit) x out1 l4 c2 ⟨dH I,h⟩) (bv M))
    ·refine aG<|bJ 0 gq M<|K (ic nk jJ (.tail _ (.tail _ (.head _))) (.tail _ (.tail _ (.tail _ (.head _)))) M (D M))<|K (ke jW (mK (D M)))<|K (gc (D M) hI)<|bJ 2 ol M<|aO ck nl M<|bt<|dU I hN M ?_;exact bg (aP (ih (i+1) (aa.mk n1.Op n1.A (IntKind.i64.wrap ((out1.Nodes.length:Int)-(1:Int))) n1.Table n1.Kinds n1.Left n1.Cond n1.Keys n1.Aggs n1.Items n1.Order n1.Limit) x out1 l4 c2 ⟨dH I,h⟩) (bv M))
   ·obtain⟨hx1,h⟩:=h
    refine eZ hx1 M<|aI<|av<|aV<|gF jW dV M (fy hx1)<|aA dV iA M fun b4=>aO dV ac M<|aD 13 M<|cb<|cC h fun r3 q_r3 h=>?_
    refine kD 6 (ts:=[tV (ax b2 0),tO ak l4 c2 out1.Nodes,H ak e1,jw out.Nodes,H ak r3,gk (ak) ([r3])]) mixed M M M
     ⟨qd 6 M M (rW 0 gq M M M),
     ⟨fb 44 0 M M (ic nk jJ (.tail _ (.tail _ (.head _))) (.tail _ (.tail _ (.tail _ (.head _)))) M (D M)),
     ⟨qd 13 M M (pe dV M M),
     ⟨iJ M M,
     ⟨gg 46 2 47 3 M M M (cm Po (Gt _ _ q_r3) ⟨(D M),(D M),aR⟩),
     ⟨fb 48 4 M M (aW (r:=ak) (ys:=[r3]) (xs:=[.tmp 48]) jW dV M M M M M ⟨(D M),aR⟩),
     aR⟩⟩⟩⟩⟩⟩ ?_
    refine ek<|cC h fun l5 q_l5 h=>jo dV M M M M jW M M (D M) (D M) q_l5 fun l6 c3=>bJ 0 gq M<|ek<|ei nk M (lP _ _ _) M (D M) (BC (wH (D M)))<|bt<|dU hx1 hN1 M<|bq<|bq<|cy<|cy ?_;exact bg (aP (ih1 (i1+1) ({out1 with Nodes:=l5}:aw) l6 c3 ⟨dH hx1,h⟩) (bv M))

def O0 n a1 b{R}(h:xV n a1 b=some R):cK bh 62 [H ak n,H ay a1,H ay b] (tT [H ay R.1,cE R.2]):=by
 refine ep Tryz.func62 M<|aV<|dh M<|dh M<|dh M<|aA cQ d5 M fun b1=>dj<|cb<|aV<|bw dV M<|bw cQ M<|bw cQ M<|K (aW (r:=ay) (ys:=[a1,b]) (xs:=[.tmp 9,.tmp 10]) Tryz.underlying160 cQ M M M M M ⟨(D M),(D M),aR⟩)<|eu h QR (Kk _ _) (co M) fun r h=>bZ M M<|bZ M M<|aO cQ ac M<|aD 6 M<|jy M<|bt ?_;exact aB<|mo<|so h▸bI M M ⟨bf cQ M M M,aQ M,aR⟩

def OZ n a1{R}(h:xW n a1=some R):cK bh 63 [H ak n,H ay a1] (tT [H ay R.1,cE R.2]):=by
 exact ep Tryz.func63 M<|aV<|dh M<|dh M<|aA cQ d5 M fun b=>dj<|cb<|aV<|bw dV M<|bw cQ M<|K (aW (r:=ay) (ys:=[a1]) (xs:=[.tmp 7]) Tryz.underlying160 cQ M M M M M ⟨(D M),aR⟩)<|eu h QR (Kk _ _) (co M) fun r h=>bZ M M<|bZ M M<|aO cQ ac M<|aD 4 M<|bG M<|so h▸bI M M ⟨bf cQ M M M,aQ M,aR⟩

def AL n parts{R}(h:d9 n parts=some R):cK bh 37 [H ak n,gk (aq) parts] (tT [H aq R.1,gC R.2]):=by
 refine ep Tryz.func37 M<|aV<|dh M<|aA br eW M fun b=>cn<|cb<|aV<|K (bR cQ C5 d5 M)<|aA cQ d5 M fun b1=>aO cQ ac M<|dj<|cb ?_;refine I1 (h3:=fun e l=>kY parts e l=some R) (Of:=fun e l=>[bx aq 87 b oF,bx ay 39 b1 l]) (Gf:=fun e l=>[(1,gk (aq) parts),(4,tV (ax b 0)),(6,tV (ax b1 0)),(7,cE e)]) (fun e l h=>?_) (fun ah=>?_)
 ·skip
  refine bl<|bu M<|lH M<|dv h M (fun h=>?_) (fun h=>?_)
  ·exact aV<|K (bR br OG eW M)<|aO br ac M<|cn<|da<|an<|aK 4 M<|aN<|so h▸bI M M ⟨bf br M M M,aQ M,aR⟩
  ·refine kF<|aI<|cC h fun e1 q_e1 h=>?_
   refine kD 11 (ts:=[H ay l,tV (ax b1 0),gk (ak) l.Nodes,tV (ax b1 0),gk (ak) l.Nodes,jw l.Nodes,cE (IntKind.i64.wrap ((l.Nodes.length:Int)-(1:Int))),bC ak e1,H ak e1,gk (aq) parts,H aq (⟨l,e1,parts⟩:am)]) mixed M M M
    ⟨qd 6 M M (be cQ M M bO (.tail _ (.head _)) (D M)),
    ⟨qd 6 M M (rW 0 gq M M M),
    ⟨fb 38 1 M M (be nk M M eg (.tail _ (.head _)) (D M)),
    ⟨qd 6 M M (rW 0 gq M M M),
    ⟨fb 40 3 M M (be nk M M eg (.tail _ (.head _)) (D M)),
    ⟨fb 41 4 M M (PM jW M),
    ⟨fb 42 5 M M (gc (D M) hI),
    ⟨gg 39 2 43 6 M M M (H1 jW dV M M M q_e1),
    ⟨jf 7 dV M M,
    ⟨iJ M M,
    ⟨PN 37 0 45 8 46 9 M M M M (bR (y:=(⟨l,e1,parts⟩:am)) br OG eW (⟨_,_,_,_,_,M,Id,M,(D M),⟨_,_,_,_,_,M,Ic,M,(D M),⟨_,_,_,_,_,M,Ib,M,(D M),M⟩⟩⟩)),
    aR⟩⟩⟩⟩⟩⟩⟩⟩⟩⟩⟩ ?_
   exact aO br ac M<|cn<|da<|aK 4 M<|aN<|so h▸bI M M ⟨bf br M M M,aQ M,aR⟩
 ·skip
  refine aZ M<|cA ni M<|dz M<|dv h M (fun h=>?_) (fun h=>?_)
  ·refine cC h fun e2 q_e2 h=>cC h fun e3 q_e3 h=>cC h fun r q_r h=>?_
   refine jN 14 [tc (H ak n),tc (gk (aq) parts),tc (bC aq e2),tc (bC ay e2.Logic),tc (H ay e2.Logic),tc (gk (aq) parts),tc (bC aq e3),tc (bC ay e3.Logic),tc (H ay e3.Logic),tc (tT [H ay r.1,cE r.2]),tc (tT [H ay r.1,cE r.2]),tc (H ay r.1),tc (cE r.2),tc (vR)] [false,false,false,false,false,false,false,false,false,false,false,false,false,true] [fun _=>[bx ay 39 b1 Bg,bx aq 87 b oF],fun sg=>[bx ay 39 b1 r.1,bx aq 87 b oF]] M mixed M M M M M
    ⟨⟨[⟨2,fun _=>bC ak n,none⟩],_,0,0,M,⟨(fun _=>M),aR⟩,M,M,M,M,M,fun _ sg _ _=>ae M (pe dV M M)⟩,
    ⟨⟨[⟨1,fun _=>H Br parts,none⟩],_,0,0,M,⟨(fun _=>M),aR⟩,M,M,M,M,M,fun _ sg _ _=>ae M (nb M)⟩,
    ⟨⟨[⟨14,fun _=>H Br parts,some 1⟩],_,0,0,M,⟨(fun _=>M),aR⟩,M,M,M,M,M,fun _ sg _ _=>ae M (bp ni br M (D M) hI q_e2)⟩,
    ⟨⟨[⟨15,fun _=>bC aq e2,some 2⟩],_,0,0,M,⟨(fun _=>M),aR⟩,M,M,M,M,M,fun _ sg _ _=>ae M (nN x9 qw M M)⟩,
    ⟨⟨[⟨16,fun _=>bC ay e2.Logic,some 3⟩],_,0,0,M,⟨(fun _=>M),aR⟩,M,M,M,M,M,fun _ sg _ _=>ae M (pe cQ M M)⟩,
    ⟨⟨[⟨1,fun _=>H Br parts,none⟩],_,0,0,M,⟨(fun _=>M),aR⟩,M,M,M,M,M,fun _ sg _ _=>ae M (nb M)⟩,
    ⟨⟨[⟨18,fun _=>H Br parts,some 5⟩],_,0,0,M,⟨(fun _=>M),aR⟩,M,M,M,M,M,fun _ sg _ _=>ae M (bp ni br M (D M) hI q_e3)⟩,
    ⟨⟨[⟨19,fun _=>bC aq e3,some 6⟩],_,0,0,M,⟨(fun _=>M),aR⟩,M,M,M,M,M,fun _ sg _ _=>ae M (nN x9 qw M M)⟩,
    ⟨⟨[⟨20,fun _=>bC ay e3.Logic,some 7⟩],_,0,0,M,⟨(fun _=>M),aR⟩,M,M,M,M,M,fun _ sg _ _=>ae M (pe cQ M M)⟩,
    ⟨⟨[⟨13,fun _=>H ak n,some 0⟩,⟨17,fun _=>H ay e2.Logic,some 4⟩,⟨21,fun _=>H ay e3.Logic,some 8⟩],_,0,0,M,⟨(fun _=>M),(fun _=>M),(fun _=>M),aR⟩,M,M,M,M,M,fun _ sg _ _=>ae M (cm SB (O0 _ _ _ q_r) ⟨(D M),(D M),(D M),aR⟩)⟩,
    ⟨⟨[⟨22,fun _=>tT [H ay r.1,H cN r.2],some 9⟩],_,0,0,M,⟨(fun _=>M),aR⟩,M,M,M,M,M,fun _ sg _ _=>ae M (nb M)⟩,
    ⟨⟨[⟨12,fun _=>tT [H ay r.1,H cN r.2],some 10⟩],_,0,0,M,⟨(fun _=>M),aR⟩,M,M,M,M,M,fun _ sg _ _=>ae M (Bh M M)⟩,
    ⟨⟨[⟨12,fun _=>tT [H ay r.1,H cN r.2],some 10⟩],_,0,1,M,⟨(fun _=>M),aR⟩,M,M,M,M,M,fun _ sg _ _=>ae M (Bh M M)⟩,
    ⟨⟨[⟨6,fun _=>tV (ax b1 0),none⟩,⟨23,fun _=>H ay r.1,some 11⟩],_,M,⟨(fun _=>M),(fun _=>M),aR⟩,M,M,M,fun sg=>cD M (ii cQ M (pV ac) M (D M) (D M))⟩,
    aR⟩⟩⟩⟩⟩⟩⟩⟩⟩⟩⟩⟩⟩⟩ (fun sg=>?_)
   refine(show RG _ _ _ _ [_,_] _ from ?_);refine jy M<|bt<|bq ?_;exact c9 (ah r.2 r.1 h) (bv M)
  ·refine cC h fun e4 q_e4 h=>cC h fun r1 q_r1 h=>?_
   refine jN 10 [tc (H ak n),tc (gk (aq) parts),tc (bC aq e4),tc (bC ay e4.Logic),tc (H ay e4.Logic),tc (tT [H ay r1.1,cE r1.2]),tc (tT [H ay r1.1,cE r1.2]),tc (H ay r1.1),tc (cE r1.2),tc (vR)] [false,false,false,false,false,false,false,false,false,true] [fun _=>[bx ay 39 b1 Bg,bx aq 87 b oF],fun sg1=>[bx ay 39 b1 r1.1,bx aq 87 b oF]] M mixed M M M M M
    ⟨⟨[⟨2,fun _=>bC ak n,none⟩],_,0,0,M,⟨(fun _=>M),aR⟩,M,M,M,M,M,fun _ sg1 _ _=>ae M (pe dV M M)⟩,
    ⟨⟨[⟨1,fun _=>H Br parts,none⟩],_,0,0,M,⟨(fun _=>M),aR⟩,M,M,M,M,M,fun _ sg1 _ _=>ae M (nb M)⟩,
    ⟨⟨[⟨27,fun _=>H Br parts,some 1⟩],_,0,0,M,⟨(fun _=>M),aR⟩,M,M,M,M,M,fun _ sg1 _ _=>ae M (bp ni br M (D M) hI q_e4)⟩,
    ⟨⟨[⟨28,fun _=>bC aq e4,some 2⟩],_,0,0,M,⟨(fun _=>M),aR⟩,M,M,M,M,M,fun _ sg1 _ _=>ae M (nN x9 qw M M)⟩,
    ⟨⟨[⟨29,fun _=>bC ay e4.Logic,some 3⟩],_,0,0,M,⟨(fun _=>M),aR⟩,M,M,M,M,M,fun _ sg1 _ _=>ae M (pe cQ M M)⟩,
    ⟨⟨[⟨26,fun _=>H ak n,some 0⟩,⟨30,fun _=>H ay e4.Logic,some 4⟩],_,0,0,M,⟨(fun _=>M),(fun _=>M),aR⟩,M,M,M,M,M,fun _ sg1 _ _=>ae M (cm SA (OZ _ _ q_r1) ⟨(D M),(D M),aR⟩)⟩,
    ⟨⟨[⟨31,fun _=>tT [H ay r1.1,H cN r1.2],some 5⟩],_,0,0,M,⟨(fun _=>M),aR⟩,M,M,M,M,M,fun _ sg1 _ _=>ae M (nb M)⟩,
    ⟨⟨[⟨25,fun _=>tT [H ay r1.1,H cN r1.2],some 6⟩],_,0,0,M,⟨(fun _=>M),aR⟩,M,M,M,M,M,fun _ sg1 _ _=>ae M (Bh M M)⟩,
    ⟨⟨[⟨25,fun _=>tT [H ay r1.1,H cN r1.2],some 6⟩],_,0,1,M,⟨(fun _=>M),aR⟩,M,M,M,M,M,fun _ sg1 _ _=>ae M (Bh M M)⟩,
    ⟨⟨[⟨6,fun _=>tV (ax b1 0),none⟩,⟨32,fun _=>H ay r1.1,some 7⟩],_,M,⟨(fun _=>M),(fun _=>M),aR⟩,M,M,M,fun sg1=>cD M (ii cQ M (pV ac) M (D M) (D M))⟩,
    aR⟩⟩⟩⟩⟩⟩⟩⟩⟩⟩ (fun sg1=>?_)
   refine(show RG _ _ _ _ [_,_] _ from ?_);refine jy M<|bt<|bq ?_;exact c9 (ah r1.2 r1.1 h) (bv M)

def NC{rec__:Option (List (Int×(am->Bool->Option (am×Int))))}(hr__: ∀{R:(List (Int×(am->Bool->Option (am×Int))))},rec__=some R->cK bh 65 [] (Ja (fun y:(am->Bool->Option (am×Int))=>DP bh xD HY (fun(x:am×Bool)=>y x.1 x.2)) rU R)) t deep{R}(h:cJ rec__ t deep=some R):cK bh 40 [H aq t,gC deep] (tT [H aq R.1,cE R.2]):=by
 refine ep Tryz.func40 M<|aV<|dh M<|aA br eW M fun b=>dj<|cb<|aI<|aI<|cC h fun r q_r h=>?_
 refine hD (ts:=[_,_,_,_,_,_]) mixed M M
  ⟨Lg M (cm Sy (hr__ q_r) trivial),
  ⟨qd 2 M M (nN iG dZ M M),
  ⟨fb 8 1 M M (nN mP fU M M),
  ⟨jf 2 ck M M,
  ⟨gg 7 0 10 3 M M M (Ek (args:=(fun(x:am×Bool)=>[H aq x.1,H rB x.2])) (res:=(fun(x:am×Int)=>tT [H aq x.1,H cN x.2])) (F:=(fun y:(am->Bool->Option (am×Int))=>(fun(x:am×Bool)=>y x.1 x.2))) Tryz.underlying118 (kQ qb) RQ (D M) (wm (D M))),
  ⟨fb 11 4 M M (Bi M),
  aR⟩⟩⟩⟩⟩⟩ ?_
 refine aB<|aZ M<|K (Ip ⟨_,_,_,Tryz.underlying93⟩ (D M))<|dv h M (fun h=>?_) (fun h=>?_)
 ·exact aZ M<|bw br M<|bu M<|cC h fun r1 q_r1 h=>K (Ir (args:=(fun(x:am×Bool)=>[H aq x.1,H rB x.2])) (res:=(fun(x:am×Int)=>tT [H aq x.1,H cN x.2])) (f:=(fun z=>((n7 r t.root.Op)).bind fun y=>((fun(x:am×Bool)=>y x.1 x.2)) z)) (x:=((t,deep):am×Bool)) (hFo (D M)) q_r1 ⟨(D M),(D M),aR⟩)<|bZ M M<|bZ M M<|aO br ac M<|bG M<|an<|aK 4 M<|so h▸bI M M ⟨bf br M M M,aQ M,aR⟩
 ·exact kF<|aV<|bw br M<|aO br ac M<|fY<|aK 4 M<|so h▸bI M M ⟨bf br M M M,aQ M,aR⟩

def ND{rec__:Option (List (Int×(am->Bool->Option (am×Int))))}(hr__: ∀{R:(List (Int×(am->Bool->Option (am×Int))))},rec__=some R->cK bh 65 [] (Ja (fun y:(am->Bool->Option (am×Int))=>DP bh xD HY (fun(x:am×Bool)=>y x.1 x.2)) rU R)) t{R}(h:j8 rec__ t=some R):cK bh 38 [H aq t] (tT [H aq R.1,gC R.2]):=by
 refine ep Tryz.func38 M<|aV<|rN (D M) M fun b=>aA br eW M fun b1=>cn<|cb<|Bc<|aI<|Bd<|aB<|aI<|av<|cd<|dn ?_;refine aP (HT (h3:=fun n t1 x=>dN rec__ n t1 x=some R) (Of:=fun t1 x=>[bx aq 87 b t1,bx aq 87 b1 x]) (Gf:=fun t1 x=>[(1,tV (ax b 0)),(2,tV (ax b1 0))]) (fun t1 x h=>nn h) (fun n ih t1 x h=>?_) gi t oF h) (bv M);refine kw<|av<|aV<|K (be br M M bO (.head _) (D M))<|eu h QU (NC hr__ _ _) (co M) fun r h=>bu M<|bZ M M<|bZ M M<|aA br eW M fun b2=>aO br ac M<|aD 4 M<|aY M<|bl<|bu M<|cb<|av<|aI ?_;refine aG<|dz M<|aY M<|oH h M (fun h=>?_) (fun h=>?_)
 ·exact iz<|bY M<|aM<|bY M<|aM<|dW<|aB<|aV<|K (be br M M bO (.head _) (D M))<|aT<|aO br ac M<|cn<|da<|qB<|aK 2 M<|aN<|so h▸bI M M ⟨bf br M M M,aQ M,aR⟩
 ·refine aV<|dz M<|aY M<|oH h M (fun h=>?_) (fun h=>?_)
  ·exact aV<|K (be br M M bO (.head _) (D M))<|aT<|aO br ac M<|cn<|da<|eN<|eN<|eN<|qB<|aK 2 M<|aN<|so h▸bI M M ⟨bf br M M M,aQ M,aR⟩
  ·refine cc<|bj<|aB<|aG<|bw br M<|aO br ac M<|bt<|bj ?_;exact bg (aP (ih r.1 x h) (bv M))

def MK b{R}(h:s0 b=some R):cK bh 119 [gC b] (H dA R):=by
 refine ep Tryz.func119 M<|aV<|aA pU mQ M fun b1=>cb<|aV<|K (bR (y:=Jl) pU J9 mQ (⟨_,_,_,_,_,M,qL,M,hI,M⟩))<|aA pU mQ M fun b2=>aO pU ac M<|cb ?_;refine jd (h3:=fun v=>rX v=some R) (Of:=fun v=>[bx dA 61 b1 H0,bx dA 61 b2 v]) (Gf:=fun v=>[(2,tV (ax b1 0)),(3,tV (ax b2 0))]) (fun v h=>?_) (fun ah=>?_)
 ·skip
  exact aV<|K (be pU M M bO (.tail _ (.head _)) (D M))<|aO pU ac M<|aD 2 M<|da<|aN<|so h▸gR M pU M M M
 ·skip
  refine aZ M<|dv h M (fun h=>?_) (fun h=>?_)
  ·refine aG<|bJ 1 AJ M<|dd PF M s4 M (D M) hI<|bt<|bq ?_;exact c9 (ah (bN.mk Jl.Kind (1:Int) Jl.U Jl.S) h) (bv M)
  ·refine cc<|bq ?_;exact c9 (ah Jl h) (bv M)

def Hw l{R}(h:o4 l=some R):cK bh 143 [gk (af) l] (tT [cE R.1,cE R.2]):=by
 refine ep Tryz.func143 M<|aV<|dj<|dj<|cb<|aV<|dj<|cb<|bl<|bu M<|cA kX M<|K (ci hI)<|cb<|av<|bA (k:=8) M fun hN=>cd ?_;refine aP (jp (h3:=fun ls i n=>(l.drop i=ls)/\lv ls n=some R) (Of:=fun _ i n=>[]) (Gf:=fun _ i n=>[(4,cE n),(8,gk (af) l),(9,jw l),(10,cE (i:Int))]) (fun i n h=>?_) (fun e tl ih i n h=>?_) l 0 (0:Int) ⟨M,h⟩) (bv M)
 ·obtain⟨I,h⟩:=h
  exact fa I M<|aB<|aZ M<|jy M<|fY<|so h▸fm M M M
 ·obtain⟨I,h⟩:=h
  refine eZ I M<|aI<|av<|aV<|gF kX aU M (fy I)<|aA aU cB M fun b=>aO aU ac M<|aD 6 M<|cb<|bl ?_;refine bw aU M<|eu h KT (AM _) (co M) fun r h=>aY M<|aZ M<|lH M<|dv h M (fun h=>?_) (fun h=>?_)
  ·exact aZ M<|dj<|bG M<|an<|eN<|an<|eN<|so h▸fm M M M
  ·refine kF<|aG<|bu M<|bP dq cG iU M<|cA na M<|K (lD (D M) (D M))<|jy M<|bt<|dU I hN M ?_;exact bg (aP (ih (i+1) (IntKind.i64.wrap (n+(e.Nodes.length:Int))) ⟨dH I,h⟩) (bv M))

def Pg(l:Option Nat)(c:Nat) out e{R}(h:va out e=some R):fz bh 156 [tB l c out,H af e] [hX ap 63 l c out] (fun i:OI=>tO ap (i.h 0).1 (i.h 0).2 R) (fun i=>[hX ap 63 (i.h 0).1 (i.h 0).2 R]):=by
 refine fz.of Tryz.func156 M M M fun w0 S0=>La 0 M<|aV<|dh M<|bL false ap 63<|K (bF tK)<|cb<|aZ M<|K (ke na (mK (D M)))<|aY M<|bl<|bP dq cG iU M<|cA na M<|K (ci hI)<|bt ?_;refine aB<|av<|bA (k:=11) M fun hN=>cd<|pu ?_;refine aP (rf (h3:=fun ls i out1 l1 c1=>(e.Nodes.drop i=ls)/\iv out ls out1=some R) (Of:=fun _ i out1 l1 c1=>[hX ap 63 l1 c1 out1]) (Gf:=fun _ i out1 l1 c1=>[(0,tO ap l1 c1 out1),(5,jw out),(11,gk (ap) e.Nodes),(12,jw e.Nodes),(13,cE (i:Int))]) (fun i out1 l1 c1 h=>?_) (fun e1 tl ih i out1 l1 c1 h=>?_) e.Nodes 0 out l c ⟨M,h⟩) (bv M)
 ·obtain⟨I,h⟩:=h
  exact fa I M<|aB<|aZ M<|bG M<|so h▸m9 M (oi l1 c1) M M (fun _ _ h=>h)
 ·obtain⟨I,h⟩:=h
  refine eZ I M<|aI<|av<|aV<|gF na fc M (fy I)<|aA fc iB M fun b=>aO fc ac M<|cb ?_;refine jd (h3:=fun n=>oo out (iv out tl) out1 n=some R) (Of:=fun n=>[hX ap 63 l1 c1 out1,bx ap 63 b n]) (Gf:=fun n=>[(0,tO ap l1 c1 out1),(5,jw out),(7,tV (ax b 0)),(11,gk (ap) e.Nodes),(12,jw e.Nodes),(13,cE (i:Int))]) (fun n h=>?_) (fun ah=>?_)
  ·skip
   refine jd (h3:=fun n1=>om (iv out tl) out1 n1=some R) (Of:=fun n1=>[hX ap 63 l1 c1 out1,bx ap 63 b n1]) (Gf:=fun n1=>[(0,tO ap l1 c1 out1),(5,jw out),(7,tV (ax b 0)),(11,gk (ap) e.Nodes),(12,jw e.Nodes),(13,cE (i:Int))]) (fun n1 h=>?_) (fun K1=>?_)
   ·skip
    refine aG<|bu M<|K (be fc M M bO (.tail _ (.head _)) (D M))<|K (aW (r:=ap) (ys:=[n1]) (xs:=[.tmp 34]) na fc M M M M M ⟨(D M),aR⟩)<|cC h fun out2 q_out2 h=>jo fc M M M M na M M (D M) (D M) q_out2 fun l2 c2=>jy M<|bt<|dU I hN M<|bq<|aN ?_;exact bg (aP (ih (i+1) out2 l2 c2 ⟨dH I,h⟩) (bv M))
   ·skip
    refine aV<|bJ 2 oh M<|K (be ck M M kT (.tail _ (.head _)) (D M))<|K (gX (D M) hI)<|dv h M (fun h=>?_) (fun h=>?_)
    ·refine aG<|bJ 2 oh M<|K (be ck M M kT (.tail _ (.head _)) (D M))<|bu M<|K (lD (D M) (D M))<|bJ 2 oh M<|aT<|aO ck oP M<|bt<|bq ?_;exact c9 (K1 (aj.mk n.Tag n.L (IntKind.i64.wrap (n.R+(out.length:Int))) n.Col n.Value) h) (bv M)
    ·refine cc ?_;exact c9 (K1 n h) (bv M)
  ·skip
   refine aV<|bJ 1 oj M<|K (be ck M M kU (.head _) (D M))<|K (gX (D M) hI)<|dv h M (fun h=>?_) (fun h=>?_)
   ·refine aG<|bJ 1 oj M<|K (be ck M M kU (.head _) (D M))<|bu M<|K (lD (D M) (D M))<|bJ 1 oj M<|aO ck oQ M<|bt<|bq ?_;exact c9 (ah (aj.mk e1.Tag (IntKind.i64.wrap (e1.L+(out.length:Int))) e1.R e1.Col e1.Value) h) (bv M)
   ·refine cc<|bq ?_;exact c9 (ah e1 h) (bv M)

def Hv root l{R}(h:i9 root l=some R):cK bh 144 [H ap root,gk (af) l] (H af R):=by
 refine ep Tryz.func144 M<|aV<|rN (D M) M fun b=>aA aU cB M fun b1=>cb<|aV<|bL false ap 63<|K (bF tK)<|cb<|aV<|K (u0 (r:=cN) (ys:=[pA,pA]) (xs:=[.const (.int .i64 (-1)),.const (.int .i64 (-1))]) zt ck M wG M M ⟨hI,hI,aR⟩)<|aA (r:=CH) (x:=(List.replicate 2 (0:Int))) wG (fun _=>AZ (r:=cN) 2 (fun _=>M) _) M fun b2=>aO wG ac M<|cb<|bl<|bu M ?_;refine cA kX M<|K (ci hI)<|cb<|av<|bA (k:=10) M fun hN=>cd<|dn<|IX<|K7 5 M<|dn<|fi<|kC<|kC ?_;refine aP (m8 (h3:=fun ls i out l1 c at1=>(l.drop i=ls)/\gN root ls i out at1=some R) (Of:=fun _ i out l1 c at1=>[hX ap 63 l1 c out,bx ap 63 b root,bx af 27 b1 kI,bx CH 116 b2 at1]) (Gf:=fun _ i out l1 c at1=>[(2,tV (ax b 0)),(4,tV (ax b1 0)),(5,tO ap l1 c out),(6,tV (ax b2 0)),(10,gk (af) l),(11,jw l),(12,cE (i:Int))]) (fun i out l1 c at1 h=>?_) (fun e tl ih i out l1 c at1 h=>?_) l 0 CI none 0 ([pA,pA]) ⟨M,h⟩) (bv M)
 ·obtain⟨I,h⟩:=h
  refine fa I M<|aB<|aI<|cC h fun e1 q_e1 h=>cC h fun e2 q_e2 h=>?_
  refine jN 6 [tc (tV (ax b2 ((0:Int).toNat*1))),tc (cE e1),tc (tV (ax b2 ((1:Int).toNat*1))),tc (cE e2),tc (tV (ax b 1)),tc (vR)] [false,false,false,false,false,true] [fun _=>[hX ap 63 l1 c out,bx ap 63 b root,bx af 27 b1 kI,bx CH 116 b2 at1],fun sg=>[bx ap 63 b ({root with L:=e1}:aj),hX ap 63 l1 c out,bx af 27 b1 kI,bx CH 116 b2 at1]] M mixed M M M M M
   ⟨⟨[⟨6,fun _=>tV (ax b2 0),none⟩],_,0,0,M,⟨(fun _=>M),aR⟩,M,M,M,M,M,sw (fun sg=>ae M (ge zt ck (.tail _ (.tail _ (.tail _ (.head _)))) (D M) hI q_e1))⟩,
   ⟨⟨[⟨26,fun _=>tV (ax b2 ((0:Int).toNat*1)),some 0⟩],_,0,0,M,⟨(fun _=>M),aR⟩,M,M,M,M,M,sw (fun sg=>ae M (Ar ck M M (.tail _ (.tail _ (.tail _ (.head _)))) q_e1 (D M)))⟩,
   ⟨⟨[⟨6,fun _=>tV (ax b2 0),none⟩],_,0,1,M,⟨(fun _=>M),aR⟩,M,M,M,M,M,xE (fun sg=>ae M (ge zt ck (.tail _ (.tail _ (.tail _ (.head _)))) (D M) hI q_e2)) (sw (fun sg=>ae M (ge zt ck (.tail _ (.tail _ (.tail _ (.head _)))) (D M) hI q_e2)))⟩,
   ⟨⟨[⟨28,fun _=>tV (ax b2 ((1:Int).toNat*1)),some 2⟩],_,0,1,M,⟨(fun _=>M),aR⟩,M,M,M,M,M,xE (fun sg=>ae M (Ar ck M M (.tail _ (.tail _ (.tail _ (.head _)))) q_e2 (D M))) (sw (fun sg=>ae M (Ar ck M M (.tail _ (.tail _ (.tail _ (.head _)))) q_e2 (D M))))⟩,
   ⟨⟨[⟨2,fun _=>tV (ax b 0),none⟩],_,0,0,M,⟨(fun _=>M),aR⟩,M,M,M,M,M,fun _ sg _ _=>ae M (rW 1 oj M M M)⟩,
   ⟨⟨[⟨30,fun _=>tV (ax b 1),some 4⟩,⟨27,fun _=>H cN e1,some 1⟩],_,M,⟨(fun _=>M),(fun _=>M),aR⟩,M,M,M,fun sg=>cD M (EffOK.fr1 (ii ck M (pV oQ) M (D M) (D M)))⟩,
   aR⟩⟩⟩⟩⟩⟩ (fun sg=>?_)
  refine(show RG _ _ _ _ [_,_,_,_] _ from ?_);exact bJ 2 oh M<|aO ck oP M<|cb<|aZ M<|K (be (x:=(aj.mk ({root with L:=e1}:aj).Tag ({root with L:=e1}:aj).L e2 ({root with L:=e1}:aj).Col ({root with L:=e1}:aj).Value)) fc M M bO (.head _) (D M))<|K (aW (r:=ap) (ys:=[(aj.mk ({root with L:=e1}:aj).Tag ({root with L:=e1}:aj).L e2 ({root with L:=e1}:aj).Col ({root with L:=e1}:aj).Value)]) (xs:=[.tmp 33]) na fc M M M M M ⟨(D M),aR⟩)<|aT<|cC h fun l2 q_l2 h=>jo fc M M M M na M M (D M) (D M) q_l2 fun l3 c1=>K (bR (y:=(⟨l2⟩:ai)) aU vp cB (⟨_,_,_,_,_,M,qv,M,(mK (D M)),M⟩))<|dy<|aO aU ac M<|aD 4 M<|da<|aN<|aN<|aN<|so h▸gR M aU M M M
 ·obtain⟨I,h⟩:=h
  refine eZ I M<|aI<|av<|aZ M<|gF kX aU M (fy I)<|aA aU cB M fun b3=>jy M<|aO aU ac M<|aD 8 M<|cb<|aI ?_;refine aG<|bu M<|bw aU M<|cC h fun r q_r h=>xr [hX ap 63 l1 c out] _ M Q1 (Pg l1 c _ _ q_r) ⟨(wH (D M)),(D M),aR⟩ M fun i1=>?_;refine(show RG _ _ _ _ [_,_,_,_] ((19,tO ap (i1.h 0).1 (i1.h 0).2 r)::_)from ?_);refine aY M<|aG<|bu M<|bu M<|K (ke na (mK (D M)))<|K (gc (D M) hI)<|cC h fun e3 q_e3 h=>K (ge zt ck (.tail _ (.tail _ (.tail _ (.head _)))) (D M) (D M) q_e3)<|ek<|cC h fun ar q_ar h=>IT ck M q_e3 (so q_ar) (D M) (D M)<|bt<|dU I hN M<|cy<|cy<|cy ?_;exact bg (aP (ih (i+1) r (i1.h 0).1 (i1.h 0).2 ar ⟨dH I,h⟩) (bv M))

end Go.Proofs.YtbmmihfagmchaaaGreat

