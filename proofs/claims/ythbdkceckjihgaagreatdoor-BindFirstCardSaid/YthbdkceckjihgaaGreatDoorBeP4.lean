/- cu of this claim: P4. -/
import Derived.Test.YthbdkceckjihgaaGreatDoorBeT
import Derived.Test.YthbdkceckjihgaaGreatDoorBeP3
set_option linter.all false
namespace Go.Proofs.YthbdkceckjihgaaGreatDoor
open Go
set_option maxRecDepth 100000

def Vv tag{R}(h:vv tag=some R):dn aO 63 [ba tag] (ml R):=by
 exact eu Tryz.func63 I<|bB<|dA<|ci<|aL I<|hM I<|bE I<|br I (eC I)<|br I (fun hg=>kj (db I hg) hI)<|br I (vj I)<|fa I I I I (fun hg=>jz I)<|fa I I I I (fun hg=>n5 (db I hg) hI)<|br I (fun hg=>lv (db I hg) (fun H=>(db I (vK hg H))))<|mp I<|bm I<|so h▸aT I I

def Vw kinds n l{R}(h:iG kinds n l=some R):dn aO 62 [K bh n,yC l,bn VV kinds] (tT [ba R.1,ba R.2]):=by
 refine eu Tryz.func62 I<|bB<|ea I<|cz<|cz<|ci<|bB<|cz<|ci<|bJ<|bE I<|dN iO I<|af (bU hI)<|ci<|av<|bF (k:=12) I fun hN=>bY ?_;refine aR (gM (aA:=fun ls i own=>(l.drop i=ls)/\kT kinds n ls own=some R) (Of:=fun _ i own=>[]) (Gf:=fun _ i own=>[(2,bn VV kinds),(3,bn bh n),(7,ba own),(12,yC l),(13,ni l),(14,ba (i:Int))]) (fun i own h=>?_) (fun e tl ih i own h=>?_) l 0 (0:Int) ⟨I,h⟩) (bI I)
 ·obtain⟨V,h⟩:=h
  refine eQ V I<|aJ<|aL I<|bH I<|bB<|cz<|ci ?_;refine aM<|av<|bB<|cK qg jK dC I<|hM I<|bH I<|tY h I (fun h=>?_) (fun h=>?_)
  ·exact bB<|yc C3 sj I<|cK xu uR dC I<|lj I<|gb<|dP<|so h▸fj I I I
  ·refine bB<|cK qg jK dC I<|hM I<|bH I<|tY h I (fun h=>?_) (fun h=>?_)
   ·exact bB<|dM kc I<|cK uW mL dC I<|cI h fun e1 q_e1 h=>jB iO dC I q_e1<|lj I<|gb<|dP<|so h▸fj I I I
   ·refine bB<|cK qg jK dC I<|hU h Y0 (Vv _) (eS I) fun r h=>bH I<|tY h I (fun h=>?_) (fun h=>?_)
    ·refine bg<|cz<|cz<|bN<|bR<|aJ<|bJ<|bE I<|hM I<|bE I<|br I (eC I)<|br I (BT I)<|br I (vj I)<|fa I I I I (fun hg=>jz I)<|fa I I I I (fun hg=>jz I)<|fa I I I I (fun hg=>lw (db I hg) (db I hg))<|br I (fun hg=>lv (db I hg) (fun H=>(db I (vK hg H))))<|mp I<|dY h I (fun h=>?_) (fun h=>?_)
     ·exact bB<|cz<|gb<|aw<|so h▸fj I I I
     ·exact nw<|aL I<|lj I<|gb<|so h▸fj I I I
    ·refine bB<|cK qg jK dC I<|hM I<|bE I<|br I (fE qg jK I I)<|br I (eE dC I I)<|br I (oK I)<|mp I<|bE I<|br I (fE qg jK I I)<|br I (eE dC I I)<|br I (oK I)<|mp I<|bH I<|tY h I (fun h=>?_) (fun h=>?_)
     ·refine bg<|cz<|bN<|bR<|aJ<|bJ<|bE I<|hM I<|bE I<|br I (eC I)<|br I (BT I)<|br I (vj I)<|fa I I I I (fun hg=>jz I)<|fa I I I I (fun hg=>jz I)<|fa I I I I (fun hg=>lw (db I hg) (db I hg))<|br I (fun hg=>lv (db I hg) (fun H=>(db I (vK hg H))))<|mp I<|dY h I (fun h=>?_) (fun h=>?_)
      ·exact bB<|cz<|gb<|aw<|so h▸fj I I I
      ·exact nw<|aL I<|lj I<|gb<|so h▸fj I I I
     ·refine co<|bR<|aJ<|bJ<|bE I<|hM I<|bE I<|br I (eC I)<|br I (BT I)<|br I (vj I)<|fa I I I I (fun hg=>jz I)<|fa I I I I (fun hg=>jz I)<|fa I I I I (fun hg=>lw (db I hg) (db I hg))<|br I (fun hg=>lv (db I hg) (fun H=>(db I (vK hg H))))<|mp I<|dY h I (fun h=>?_) (fun h=>?_)
      ·exact bB<|cz<|gb<|aw<|so h▸fj I I I
      ·exact nw<|aL I<|lj I<|gb<|so h▸fj I I I
 ·obtain⟨V,h⟩:=h
  refine eP V I<|aM<|av<|bB<|jB iO dC I (fF V)<|bH I<|av<|aL I<|hM I ?_;refine bE I<|br I (eC I)<|br I (eC I)<|br I (fun hg=>qe (db I hg) (db I hg))<|mp I<|bH I<|tY h I (fun h=>?_) (fun h=>?_)
  ·refine co<|bR<|eB V hN I ?_;exact bu (aR (ih (i+1) own ⟨ee V,h⟩) (bI I))
  ·refine aL I<|hM I<|bH I<|tY h I (fun h=>?_) (fun h=>?_)
   ·refine bg<|bE I<|lj I<|bN<|bR<|eB V hN I ?_;exact bu (aR (ih (i+1) e ⟨ee V,h⟩) (bI I))
   ·refine bg<|cz<|bN<|bR<|eB V hN I ?_;exact bu (aR (ih (i+1) j9 ⟨ee V,h⟩) (bI I))

def HQ e kinds{R}(h:pU e kinds=some R):dn aO 19 [K ae e,yC kinds] (tT [ba R.1,ba R.2]):=by
 refine eu Tryz.func19 I<|bB<|ea I<|ea I<|cz<|cz<|ci<|bJ<|dM cw I<|hU h Ts (HP _) (eS I) fun r h=>bH I<|aL I<|lk I<|ci ?_;refine tY h I (fun h=>?_) (fun h=>?_)
 ·exact aL I<|cz<|bm I<|aw<|so h▸fj I I I
 ·refine nw<|bJ<|dM kc I<|dN iO I<|af (bU hI)<|ci<|av<|bF (k:=16) I fun hN=>bY ?_;refine aR (jk (aA:=fun ls i=>(kinds.drop i=ls)/\ph e kinds ls=some R) (Of:=fun _ i=>[]) (Gf:=fun _ i=>[(2,bn ae e),(3,bn VV kinds),(16,yC kinds),(17,ni kinds),(18,ba (i:Int))]) (fun i h=>?_) (fun e1 tl ih i h=>?_) kinds 0 ⟨I,h⟩) (bI I)
  ·obtain⟨V,h⟩:=h
   refine eQ V I<|aJ<|bJ<|dM cw I<|PJ h Y3 (SE _) (eS I) fun r1 h l c=>af (fh iO (.head _) (M I))<|af (bU hI)<|ci<|av ?_;refine iz (.head _) fun hN1=>bY ?_;refine aR (jk (aA:=fun ls1 i1=>(r1.drop i1=ls1)/\lE e kinds ls1=some R) (Of:=fun _ i1=>[d7 aG 3 l c r1]) (Gf:=fun _ i1=>[(2,bn ae e),(3,bn VV kinds),(30,ve l c r1),(31,ni r1),(32,ba (i1:Int))]) (fun i1 h=>?_) (fun e2 tl1 ih1 i1 h=>?_) r1 0 ⟨I,h⟩) (bI I)
   ·obtain⟨hx1,h⟩:=h
    refine eQ hx1 I<|aJ<|bB<|dM cw I<|af ((show bP _ _ _ _ ((gX aO RY RX (fun(x:ap×(List Int))=>(iG kinds) x.1 x.2)))from ou (cts:=[bn VV kinds]) (caps:=[.tmp 3]) Y1 ⟨(M I),J⟩ (fun x y h=>Vw _ _ _ h)))<|hU h Y2 (Vx _ _) (eS I) fun r2 h=>dX I I<|dX I I<|lj I<|lj I<|bN ?_;exact aJ<|zB<|aK<|so h▸fj I I I
   ·obtain⟨hx1,h⟩:=h
    refine eP hx1 I<|aM<|av<|bB<|af (bK iO dC (.head _) (M I) (M I) (fF hx1))<|af (cS (r:=aG) (i:=(i1:Int)) (foff:=0) dC I I bS I (.head _) (fF hx1) (M I))<|bH I<|aL I<|dM kc I<|dN iO I ?_;refine af (kj (M I) (M I))<|dY h I (fun h=>?_) (fun h=>?_)
    ·exact bB<|cz<|gb<|dP<|aw<|dP<|aK<|so h▸fj I I I
    ·refine co<|eB hx1 hN1 I ?_;exact bu (aR (ih1 (i1+1) ⟨ee hx1,h⟩) (bI I))
  ·obtain⟨V,h⟩:=h
   refine eP V I<|aM<|av<|bB<|jB iO dC I (fF V)<|bH I<|aL I<|af (jn (M I) hI)<|bE I ?_;refine br I (eC I)<|br I (fun hg=>ki (db I hg) hI)<|mp I<|dY h I (fun h=>?_) (fun h=>?_)
   ·exact bB<|cz<|gb<|dP<|aw<|dP<|so h▸fj I I I
   ·refine co<|eB V hN I ?_;exact bu (aR (ih (i+1) ⟨ee V,h⟩) (bI I))

def Q4{R}(h:nS=some R):dn aO 76 [] (AZ (fun y:Int=>ba y) qW R):=by
 exact eu Tryz.func76 I<|bB<|af (cy (show aE _ _ (.const (.map none)) (Q (.map none))from fun _ _ _=>I))<|ci<|bB<|zq (Hw (fun y:Int=>ba y)) qW I fun b=>AG (γ:=(fun y:Int=>ba y)) (y:=(1:Int)) Dh (uL vQ) (M I) (K5 hI) hI fun os=>AG (γ:=(fun y:Int=>ba y)) (y:=(2:Int)) Dh (uL vQ) (M I) (K5 hI) hI fun os1=>AG (γ:=(fun y:Int=>ba y)) (y:=(3:Int)) Dh (uL vQ) (M I) (K5 hI) hI fun os2=>AG (γ:=(fun y:Int=>ba y)) (y:=(4:Int)) Dh (uL vQ) (M I) (K5 hI) hI fun os3=>AG (γ:=(fun y:Int=>ba y)) (y:=(5:Int)) Dh (uL vQ) (M I) (K5 hI) hI fun os4=>bE I<|bm I<|J4 0 I<|so h▸aT I I

def VF(l:Option Nat)(c:Nat) out e{R}(h:xv out e=some R):dZ aO 235 [ve l c out,K ae e] [Z bh 106 l c out] (fun i:OI=>tO bh (i.h 0).1 (i.h 0).2 R) (fun i=>[Z bh 106 (i.h 0).1 (i.h 0).2 R]):=by
 refine dZ.of Tryz.func235 I I I fun w0 S0=>RJ 0 I<|bB<|ea I<|cn false bh 106<|af (cy C0)<|ci<|aL I<|af (mE tS (qZ (M I)))<|bH I<|bJ<|cK zh pQ Ko I<|dN tS I<|af (bU hI)<|bN ?_;refine aJ<|av<|bF (k:=11) I fun hN=>bY<|C5 ?_;refine aR (sA (aA:=fun ls i out1 l1 c1=>(e.Nodes.drop i=ls)/\iv out ls out1=some R) (Of:=fun _ i out1 l1 c1=>[Z bh 106 l1 c1 out1]) (Gf:=fun _ i out1 l1 c1=>[(0,tO bh l1 c1 out1),(5,ni out),(11,iL (bh) e.Nodes),(12,ni e.Nodes),(13,ba (i:Int))]) (fun i out1 l1 c1 h=>?_) (fun e1 tl ih i out1 l1 c1 h=>?_) e.Nodes 0 out l c ⟨I,h⟩) (bI I)
 ·obtain⟨V,h⟩:=h
  exact eQ V I<|aJ<|aL I<|bm I<|so h▸dG I (oi l1 c1) I I (fun _ _ h=>h)
 ·obtain⟨V,h⟩:=h
  refine eP V I<|aM<|av<|bB<|jB tS iP I (fF V)<|aW iP ny I fun b=>cm iP am I<|ci ?_;refine oB (aA:=fun n=>pg out (iv out tl) out1 n=some R) (Of:=fun n=>[Z bh 106 l1 c1 out1,bx bh 106 b n]) (Gf:=fun n=>[(0,tO bh l1 c1 out1),(5,ni out),(7,Q (ai b 0)),(11,iL (bh) e.Nodes),(12,ni e.Nodes),(13,ba (i:Int))]) (fun n h=>?_) (fun tD=>?_)
  ·skip
   refine oB (aA:=fun n1=>pf (iv out tl) out1 n1=some R) (Of:=fun n1=>[Z bh 106 l1 c1 out1,bx bh 106 b n1]) (Gf:=fun n1=>[(0,tO bh l1 c1 out1),(5,ni out),(7,Q (ai b 0)),(11,iL (bh) e.Nodes),(12,ni e.Nodes),(13,ba (i:Int))]) (fun n1 h=>?_) (fun K1=>?_)
   ·skip
    refine bg<|bE I<|af (aV iP I I bS (.tail _ (.head _)) (M I))<|af (aZ (r:=bh) (ys:=[n1]) (xs:=[.tmp 34]) tS iP I I I I I ⟨(M I),J⟩)<|cI h fun out2 q_out2 h=>oe iP I I I I tS I I (M I) (M I) q_out2 fun l2 c2=>lj I<|bN<|eB V hN I<|dc<|aK ?_;exact bu (aR (ih (i+1) out2 l2 c2 ⟨ee V,h⟩) (bI I))
   ·skip
    refine bB<|bt 2 Aq I<|af (aV dC I I uS (.tail _ (.head _)) (M I))<|af (kj (M I) hI)<|dY h I (fun h=>?_) (fun h=>?_)
    ·refine bg<|bt 2 Aq I<|af (aV dC I I uS (.tail _ (.head _)) (M I))<|bE I<|af (tJ (M I) (M I))<|bt 2 Aq I<|cE<|cm dC DF I<|bN<|dc ?_;exact dh (K1 (ap.mk n.Tag n.L (IntKind.i64.wrap (n.R+(out.length:Int))) n.Col n.Value) h) (bI I)
    ·refine co ?_;exact dh (K1 n h) (bI I)
  ·skip
   refine bB<|bt 1 Ar I<|af (aV dC I I uT (.head _) (M I))<|af (kj (M I) hI)<|dY h I (fun h=>?_) (fun h=>?_)
   ·refine bg<|bt 1 Ar I<|af (aV dC I I uT (.head _) (M I))<|bE I<|af (tJ (M I) (M I))<|bt 1 Ar I<|cm dC DG I<|bN<|dc ?_;exact dh (tD (ap.mk e1.Tag (IntKind.i64.wrap (e1.L+(out.length:Int))) e1.R e1.Col e1.Value) h) (bI I)
   ·refine co<|dc ?_;exact dh (tD e1 h) (bI I)

def SR root l{R}(h:j5 root l=some R):dn aO 214 [K bh root,iL (ae) l] (K ae R):=by
 refine eu Tryz.func214 I<|bB<|AH (M I) I fun b=>aW cw ei I fun b1=>ci<|bB<|cn false bh 106<|af (cy C0)<|ci<|bB<|af (ry (r:=aG) (ys:=[j9,j9]) (xs:=[.const (.int .i64 (-1)),.const (.int .i64 (-1))]) C7 dC I Hb I I ⟨hI,hI,J⟩)<|aW (r:=G0) (x:=(List.replicate 2 (0:Int))) Hb (fun _=>JM (r:=aG) 2 (fun _=>I) _) I fun b2=>cm Hb am I<|ci<|bJ<|bE I ?_;refine dN sD I<|af (bU hI)<|ci<|av<|bF (k:=10) I fun hN=>bY<|gS<|Pp<|RE 5 I<|gS<|iY<|rG<|rG ?_;refine aR (Fb (aA:=fun ls i out l1 c at1=>(l.drop i=ls)/\gI root ls i out at1=some R) (Of:=fun _ i out l1 c at1=>[Z bh 106 l1 c out,bx bh 106 b root,bx ae 62 b1 qX,bx G0 80 b2 at1]) (Gf:=fun _ i out l1 c at1=>[(2,Q (ai b 0)),(4,Q (ai b1 0)),(5,tO bh l1 c out),(6,Q (ai b2 0)),(10,iL (ae) l),(11,ni l),(12,ba (i:Int))]) (fun i out l1 c at1 h=>?_) (fun e tl ih i out l1 c at1 h=>?_) l 0 ([]:List ap) none 0 ([j9,j9]) ⟨I,h⟩) (bI I)
 ·obtain⟨V,h⟩:=h
  refine eQ V I<|aJ<|aM<|cI h fun e1 q_e1 h=>cI h fun e2 q_e2 h=>?_
  refine eH 6 [tc (Q (ai b2 ((0:Int).toNat*1))),tc (ba e1),tc (Q (ai b2 ((1:Int).toNat*1))),tc (ba e2),tc (Q (ai b 1)),tc (tz)] [false,false,false,false,false,true] [fun _=>[Z bh 106 l1 c out,bx bh 106 b root,bx ae 62 b1 qX,bx G0 80 b2 at1],fun sg=>[bx bh 106 b ({root with L:=e1}:ap),Z bh 106 l1 c out,bx ae 62 b1 qX,bx G0 80 b2 at1]] I mixed I I I I I
   ⟨⟨[⟨6,fun _=>Q (ai b2 0),none⟩],_,0,0,I,⟨(fun _=>I),J⟩,I,I,I,I,I,eD (fun sg=>aC I (nD C7 dC (.tail _ (.tail _ (.tail _ (.head _)))) (M I) hI q_e1))⟩,
   ⟨⟨[⟨26,fun _=>Q (ai b2 ((0:Int).toNat*1)),some 0⟩],_,0,0,I,⟨(fun _=>I),J⟩,I,I,I,I,I,eD (fun sg=>aC I (D8 dC I I (.tail _ (.tail _ (.tail _ (.head _)))) q_e1 (M I)))⟩,
   ⟨⟨[⟨6,fun _=>Q (ai b2 0),none⟩],_,0,1,I,⟨(fun _=>I),J⟩,I,I,I,I,I,pF (fun sg=>aC I (nD C7 dC (.tail _ (.tail _ (.tail _ (.head _)))) (M I) hI q_e2)) (eD (fun sg=>aC I (nD C7 dC (.tail _ (.tail _ (.tail _ (.head _)))) (M I) hI q_e2)))⟩,
   ⟨⟨[⟨28,fun _=>Q (ai b2 ((1:Int).toNat*1)),some 2⟩],_,0,1,I,⟨(fun _=>I),J⟩,I,I,I,I,I,pF (fun sg=>aC I (D8 dC I I (.tail _ (.tail _ (.tail _ (.head _)))) q_e2 (M I))) (eD (fun sg=>aC I (D8 dC I I (.tail _ (.tail _ (.tail _ (.head _)))) q_e2 (M I))))⟩,
   ⟨⟨[⟨2,fun _=>Q (ai b 0),none⟩],_,0,0,I,⟨(fun _=>I),J⟩,I,I,I,I,I,fun _ sg _ _=>aC I (mW 1 Ar I I I)⟩,
   ⟨⟨[⟨30,fun _=>Q (ai b 1),some 4⟩,⟨27,fun _=>K aG e1,some 1⟩],_,I,⟨(fun _=>I),(fun _=>I),J⟩,I,I,I,fun sg=>bw I (EffOK.fr1 (dB dC I (wa DG) I (M I) (M I)))⟩,
   J⟩⟩⟩⟩⟩⟩ (fun sg=>?_)
  refine(show RG _ _ _ _ [_,_,_,_] _ from ?_);exact bt 2 Aq I<|cm dC DF I<|ci<|aL I<|af (aV (x:=(ap.mk ({root with L:=e1}:ap).Tag ({root with L:=e1}:ap).L e2 ({root with L:=e1}:ap).Col ({root with L:=e1}:ap).Value)) iP I I bS (.head _) (M I))<|af (aZ (r:=bh) (ys:=[(ap.mk ({root with L:=e1}:ap).Tag ({root with L:=e1}:ap).L e2 ({root with L:=e1}:ap).Col ({root with L:=e1}:ap).Value)]) (xs:=[.tmp 33]) tS iP I I I I I ⟨(M I),J⟩)<|cE<|cI h fun l2 q_l2 h=>oe iP I I I I tS I I (M I) (M I) q_l2 fun l3 c1=>af (cd (y:=(⟨l2⟩:aD)) cw La ei (⟨_,_,_,_,_,I,Oe,I,(qZ (M I)),I⟩))<|ib<|cm cw am I<|aX 4 I<|ie<|aK<|aK<|aK<|so h▸sC I cw I I I
 ·obtain⟨V,h⟩:=h
  refine eP V I<|aM<|av<|aL I<|jB sD cw I (fF V)<|aW cw ei I fun b3=>lj I<|cm cw am I<|aX 8 I<|ci<|aM ?_;refine bg<|bE I<|dM cw I<|cI h fun r q_r h=>wT [Z bh 106 l1 c out] _ I Xn (VF l1 c _ _ q_r) ⟨(vX (M I)),(M I),J⟩ I fun i1=>?_;refine(show RG _ _ _ _ [_,_,_,_] ((19,tO bh (i1.h 0).1 (i1.h 0).2 r)::_)from ?_);refine bH I<|bg<|bE I<|bE I<|af (mE tS (qZ (M I)))<|af (o9 (M I) hI)<|cI h fun e3 q_e3 h=>af (nD C7 dC (.tail _ (.tail _ (.tail _ (.head _)))) (M I) (M I) q_e3)<|la<|cI h fun ar q_ar h=>Pi dC I q_e3 (so q_ar) (M I) (M I)<|bN<|eB V hN I<|lg<|lg<|lg ?_;exact bu (aR (ih (i+1) r (i1.h 0).1 (i1.h 0).2 ar ⟨ee V,h⟩) (bI I))

def HR root l{R}(h:pT root l=some R):dn aO 175 [K bh root,iL (ae) l] (tT [K ae R.1,ba R.2]):=by
 refine eu Tryz.func175 I<|bB<|ea I<|aW cw ei I fun b=>cz<|ci<|bJ<|bE I<|dN sD I<|af (bU hI)<|ci<|av<|bF (k:=11) I fun hN=>bY ?_;refine aR (gM (aA:=fun ls i x=>(l.drop i=ls)/\lD root l ls x=some R) (Of:=fun _ i x=>[bx ae 62 b x]) (Gf:=fun _ i x=>[(1,iL (ae) l),(2,bn bh root),(4,Q (ai b 0)),(11,iL (ae) l),(12,ni l),(13,ba (i:Int))]) (fun i x h=>?_) (fun e tl ih i x h=>?_) l 0 qX ⟨I,h⟩) (bI I)
 ·obtain⟨V,h⟩:=h
  refine eQ V I<|aJ<|bB<|dM iP I<|bE I<|hU h Xt (SR _ _) (eS I) fun r h=>aW cw ei I fun b1=>cm cw am I<|aX 9 I<|ci ?_;refine bJ<|dM cw I<|hU h Ts (HP _) (eS I) fun r1 h=>bH I<|aL I<|lk I<|dY h I (fun h=>?_) (fun h=>?_)
  ·exact bB<|af (cd cw La ei I)<|bE I<|cm cw am I<|bm I<|aw<|dl 4 I<|so h▸nf I I ⟨eY cw I I I,cH I,J⟩
  ·exact nw<|bB<|dM cw I<|cm cw am I<|gb<|dl 4 I<|so h▸nf I I ⟨eY cw I I I,cH I,J⟩
 ·obtain⟨V,h⟩:=h
  refine eP V I<|aM<|av<|bB<|jB sD cw I (fF V)<|aW cw ei I fun b2=>cm cw am I<|aX 7 I<|ci<|bB<|dM cw I ?_;refine hU h Ts (HP _) (eS I) fun r2 h=>bH I<|aL I<|lk I<|dY h I (fun h=>?_) (fun h=>?_)
  ·exact bB<|af (cd cw La ei I)<|bE I<|cm cw am I<|bm I<|dP<|aw<|dP<|dl 4 I<|so h▸nf I I ⟨eY cw I I I,cH I,J⟩
  ·refine co<|eB V hN I ?_;exact bu (aR (ih (i+1) x ⟨ee V,h⟩) (bI I))

def Nk n{R}(h:rA n=some R):dn aO 142 [K bh n] (tT [K ae R.1,ba R.2]):=by
 exact eu Tryz.func142 I<|bB<|ea I<|aW cw ei I fun b=>cz<|ci<|bB<|dM iP I<|hU h Rn (HR _ _) ⟨(M I),WB,J⟩ fun r h=>dX I I<|dX I I<|cm cw am I<|aX 2 I<|bm I<|so h▸nf I I ⟨eY cw I I I,cH I,J⟩

def SZ n{R}(h:bk n=some R):dn aO 176 [K bh n] (tT [K ae R.1,ba R.2]):=by
 exact eu Tryz.func176 I<|bB<|ea I<|aW cw ei I fun b=>cz<|ci<|bB<|dM iP I<|hU h Ud (Nk _) (eS I) fun r h=>dX I I<|dX I I<|cm cw am I<|aX 2 I<|bm I<|so h▸nf I I ⟨eY cw I I I,cH I,J⟩

set_option maxHeartbeats 4000000 in
def VJ(b:Nat)(ix:OI) s group{R}(h:eZ s group=some R):dZ aO 177 [ml group,bn (rT (Q (ai b 0))) ()] (cA b s ix) (fun _:OI=>yC R) (fun _=>(cA b s ix)):=by
 refine dZ.of Tryz.func177 I I I fun w0 S0=>?_;refine(show CG _ _ _ [bx (rH ax (z10 ix s)) 127 b s,Z aG 3 (ix.h 0).1 (ix.h 0).2 s.out.Tables,Z aF 71 (ix.h 1).1 (ix.h 1).2 s.out.Joins,Z aG 3 (ix.h 2).1 (ix.h 2).2 s.out.Keys,Z aU 73 (ix.h 3).1 (ix.h 3).2 s.out.Aggs,Z ae 62 (ix.h 4).1 (ix.h 4).2 s.out.Items,Z aG 3 (ix.h 5).1 (ix.h 5).2 s.kinds,Z aG 3 (ix.h 6).1 (ix.h 6).2 s.groups,bo kq dp (ix.h 7).2 none (ix.oss 0) s.called,bo dO dp (ix.h 8).2 none (ix.oss 1) s.alone,dE (fun y:Int=>ba y) jc (ix.h 9).2 s.behind] _ from ?_);refine bB<|yd aG<|ci<|bJ<|bE I<|dY h I (fun h=>?_) (fun h=>?_)
 ·exact bB<|af (r0 Iw (M I))<|af (bC (M I))<|bt 23 xq I<|af (ed kc I (.head _) (.tail _ (.tail _ (.tail _ (.tail _ (.tail _ (.tail _ (.tail _ (.head _)))))))) (M I))<|bm I<|aw<|oC 3 I<|so h▸dG I nj I I (fun _ _ h=>h)
 ·exact nw<|bB<|af (r0 Iw (M I))<|af (bC (M I))<|bt 22 te I<|af (ed kc I (.head _) (.tail _ (.tail _ (.tail _ (.tail _ (.tail _ (.tail _ (.head _))))))) (M I))<|bm I<|oC 3 I<|so h▸dG I nj I I (fun _ _ h=>h)

set_option maxHeartbeats 4000000 in
def Q8(b:Nat)(ix:OI) s n{R}(h:iW s n=some R):dZ aO 141 [Q (ai b 0),K d8 n] (cA b s ix) (fun _:OI=>tT [ba R.1,ba R.2]) (fun _=>(cA b s ix)):=by
 refine dZ.of Tryz.func141 I I I fun w0 S0=>?_;refine(show CG _ _ _ [bx (rH ax (z10 ix s)) 127 b s,Z aG 3 (ix.h 0).1 (ix.h 0).2 s.out.Tables,Z aF 71 (ix.h 1).1 (ix.h 1).2 s.out.Joins,Z aG 3 (ix.h 2).1 (ix.h 2).2 s.out.Keys,Z aU 73 (ix.h 3).1 (ix.h 3).2 s.out.Aggs,Z ae 62 (ix.h 4).1 (ix.h 4).2 s.out.Items,Z aG 3 (ix.h 5).1 (ix.h 5).2 s.kinds,Z aG 3 (ix.h 6).1 (ix.h 6).2 s.groups,bo kq dp (ix.h 7).2 none (ix.oss 0) s.called,bo dO dp (ix.h 8).2 none (ix.oss 1) s.alone,dE (fun y:Int=>ba y) jc (ix.h 9).2 s.behind] _ from ?_);refine bB<|ea I<|cz<|cz<|ci<|bJ<|cK QS Bw oH I<|af (CW (M I) hS)<|dY h I (fun h=>?_) (fun h=>?_)
 ·refine aM ?_
  refine ne (ts:=[_,_,_,_,_,_,_,_,_,_,_]) mixed I I
   ⟨oL I I,
   ⟨ka 13 0 I I (bC (M I)),
   ⟨ka 14 1 I I (mW 21 M0 I I I),
   ⟨ka 15 2 I I (nC TU I (.head _) (M I)),
   ⟨xQ 3 I I (ur AW I I),
   ⟨oF 16 3 17 4 I I I (I3 (γ:=fun y:Int=>K aG y) (z:=(0:Int)) Tryz.underlying125 Ww Ye (fun S=>⟨_,I,(fun _=>I) S⟩) (.tail _ (.tail _ (.tail _ (.tail _ (.tail _ (.tail _ (.tail _ (.tail _ (.tail _ (.tail _ (.head _))))))))))) (M I) (QI (p:=(n.Table,n.Name)) I (fun _ _ h=>Wy h) (M I))),
   ⟨ka 18 5 I I (jz I),
   ⟨ka 12 6 I I (yK I I),
   ⟨ka 12 6 I I (yK I I),
   ⟨ka 19 7 I I (FQ I),
   ⟨ka 20 8 I I (FQ I),
   J⟩⟩⟩⟩⟩⟩⟩⟩⟩⟩⟩ ?_
  refine aJ<|bJ<|bE I<|af (nZ (M I))<|dY h I (fun h=>?_) (fun h=>?_)
  ·exact bB<|cz<|gb<|aw<|aw<|so h▸gN (ts:=[ba 0,ba 222]) (rvs:=[.tmp 4,.tmp 5]) I I ⟨cH I,cH I,J⟩ nj I I
  ·exact nw<|aL I<|lj I<|gb<|aw<|so h▸gN (ts:=[ba ((fP s.behind (n.Table,n.Name)).getD (0:Int)),ba 0]) (rvs:=[.tmp 4,.tmp 5]) I I ⟨cH I,cH I,J⟩ nj I I
 ·refine nw<|aM<|aM ?_
  refine ne (ts:=[_,_,_,_,_,_,_,_]) mixed I I
   ⟨oL I I,
   ⟨ka 24 0 I I (bC (M I)),
   ⟨ka 25 1 I I (mW 20 HN I I I),
   ⟨ka 26 2 I I (nC Iv I (.head _) (M I)),
   ⟨xQ 3 I I (yb QR Bv I I),
   ⟨yM 4 oH I I,
   ⟨oF 27 3 29 5 I I I (KR Tryz.underlying124 (Ah ik) V1 (.tail _ (.tail _ (.tail _ (.tail _ (.tail _ (.tail _ (.tail _ (.tail _ (.tail _ (.head _)))))))))) (M I) (QH (M I))),
   ⟨ka 30 6 I I (FQ I),
   J⟩⟩⟩⟩⟩⟩⟩⟩ ?_
  refine aJ<|aL I<|dN iO I<|ci<|av<|bB<|hM I<|bH I<|tY h I (fun h=>?_) (fun h=>?_)
  ·exact bB<|cz<|gb<|dP<|so h▸gN (ts:=[ba 0,ba 222]) (rvs:=[.tmp 4,.tmp 5]) I I ⟨cH I,cH I,J⟩ nj I I
  ·refine bB<|hM I<|bH I<|tY h I (fun h=>?_) (fun h=>?_)
   ·exact aL I<|cI h fun e q_e h=>af (iq iO dC I (M I) hI q_e)<|dM dC I<|lj I<|gb<|dP<|so h▸gN (ts:=[ba e,ba 0]) (rvs:=[.tmp 4,.tmp 5]) I I ⟨cH I,cH I,J⟩ nj I I
   ·exact co<|bR<|aJ<|bB<|cz<|gb<|so h▸gN (ts:=[ba 0,ba 223]) (rvs:=[.tmp 4,.tmp 5]) I I ⟨cH I,cH I,J⟩ nj I I

end Go.Proofs.YthbdkceckjihgaaGreatDoor

