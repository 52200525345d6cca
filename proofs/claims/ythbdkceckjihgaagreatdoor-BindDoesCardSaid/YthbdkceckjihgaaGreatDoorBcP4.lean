/- dm of this claim: P4. -/
import Derived.Test.YthbdkceckjihgaaGreatDoorBcT
import Derived.Test.YthbdkceckjihgaaGreatDoorBcP3
set_option linter.all false
namespace Go.Proofs.YthbdkceckjihgaaGreatDoor
open Go
set_option maxRecDepth 100000

def YJ tag{R}(h:yU tag=some R):cN bd 63 [bf tag] (iD R):=by
 exact dp Tryz.func63 I<|aV<|bC<|bP<|aI I<|dn I<|aY I<|ap I (de I)<|ap I (fun V=>ff (bE I V) hI)<|ap I (rn I)<|em I I I I (fun V=>fR I)<|em I I I I (fun V=>kr (bE I V) hI)<|ap I (fun V=>jr (bE I V) (fun A=>(bE I (sr V A))))<|dU I<|bj I<|so h▸au I I

def YK kinds n l{R}(h:kA kinds n l=some R):cN bd 62 [Z bt n,qn l,bo Zw kinds] (tT [bf R.1,bf R.2]):=by
 refine dp Tryz.func62 I<|aV<|cL I<|bF<|bF<|bP<|aV<|bF<|bP<|aR<|aY I<|bY fH I<|d (bB hI)<|bP<|ai<|aN (k:=12) I fun hN=>bp ?_;refine ay (jX (tD:=fun ls i own=>(l.drop i=ls)/\nu kinds n ls own=some R) (Of:=fun _ i own=>[]) (Gf:=fun _ i own=>[(2,bo Zw kinds),(3,bo bt n),(7,bf own),(12,qn l),(13,iG l),(14,bf (i:Int))]) (fun i own h=>?_) (fun e tl ih i own h=>?_) l 0 (0:Int) ⟨I,h⟩) (a8 I)
 ·obtain⟨D,h⟩:=h
  refine dh D I<|aq<|aI I<|bh I<|aV<|bF<|bP ?_;refine aA<|ai<|aV<|aU m7 gN cF I<|dn I<|bh I<|lO h I (fun h=>?_) (fun h=>?_)
  ·exact aV<|oU wP nX I<|aU tB pE cF I<|gx I<|dG<|bT<|so h▸c0 I I I
  ·refine aV<|aU m7 gN cF I<|dn I<|bh I<|lO h I (fun h=>?_) (fun h=>?_)
   ·exact aV<|cM fV I<|aU p9 jw cF I<|cu h fun e1 q_e1 h=>d9 fH cF I q_e1<|gx I<|dG<|bT<|so h▸c0 I I I
   ·refine aV<|aU m7 gN cF I<|eg h acH (YJ _) (da I) fun r h=>bh I<|lO h I (fun h=>?_) (fun h=>?_)
    ·refine aL<|bF<|bF<|br<|bn<|aq<|aR<|aY I<|dn I<|aY I<|ap I (de I)<|ap I (uI I)<|ap I (rn I)<|em I I I I (fun V=>fR I)<|em I I I I (fun V=>fR I)<|em I I I I (fun V=>du (bE I V) (bE I V))<|ap I (fun V=>jr (bE I V) (fun A=>(bE I (sr V A))))<|dU I<|bX h I (fun h=>?_) (fun h=>?_)
     ·exact aV<|bF<|dG<|af<|so h▸c0 I I I
     ·exact gp<|aI I<|gx I<|dG<|so h▸c0 I I I
    ·refine aV<|aU m7 gN cF I<|dn I<|aY I<|ap I (bQ m7 gN I I)<|ap I (bN cF I I)<|ap I (mX I)<|dU I<|aY I<|ap I (bQ m7 gN I I)<|ap I (bN cF I I)<|ap I (mX I)<|dU I<|bh I<|lO h I (fun h=>?_) (fun h=>?_)
     ·refine aL<|bF<|br<|bn<|aq<|aR<|aY I<|dn I<|aY I<|ap I (de I)<|ap I (uI I)<|ap I (rn I)<|em I I I I (fun V=>fR I)<|em I I I I (fun V=>fR I)<|em I I I I (fun V=>du (bE I V) (bE I V))<|ap I (fun V=>jr (bE I V) (fun A=>(bE I (sr V A))))<|dU I<|bX h I (fun h=>?_) (fun h=>?_)
      ·exact aV<|bF<|dG<|af<|so h▸c0 I I I
      ·exact gp<|aI I<|gx I<|dG<|so h▸c0 I I I
     ·refine bl<|bn<|aq<|aR<|aY I<|dn I<|aY I<|ap I (de I)<|ap I (uI I)<|ap I (rn I)<|em I I I I (fun V=>fR I)<|em I I I I (fun V=>fR I)<|em I I I I (fun V=>du (bE I V) (bE I V))<|ap I (fun V=>jr (bE I V) (fun A=>(bE I (sr V A))))<|dU I<|bX h I (fun h=>?_) (fun h=>?_)
      ·exact aV<|bF<|dG<|af<|so h▸c0 I I I
      ·exact gp<|aI I<|gx I<|dG<|so h▸c0 I I I
 ·obtain⟨D,h⟩:=h
  refine dg D I<|aA<|ai<|aV<|d9 fH cF I (cW D)<|bh I<|ai<|aI I<|dn I ?_;refine aY I<|ap I (de I)<|ap I (de I)<|ap I (fun V=>m6 (bE I V) (bE I V))<|dU I<|bh I<|lO h I (fun h=>?_) (fun h=>?_)
  ·refine bl<|bn<|cS D hN I ?_;exact aO (ay (ih (i+1) own ⟨cO D,h⟩) (a8 I))
  ·refine aI I<|dn I<|bh I<|lO h I (fun h=>?_) (fun h=>?_)
   ·refine aL<|aY I<|gx I<|br<|bn<|cS D hN I ?_;exact aO (ay (ih (i+1) e ⟨cO D,h⟩) (a8 I))
   ·refine aL<|bF<|br<|bn<|cS D hN I ?_;exact aO (ay (ih (i+1) mg ⟨cO D,h⟩) (a8 I))

def Kp e kinds{R}(h:s0 e kinds=some R):cN bd 19 [Z ac e,qn kinds] (tT [bf R.1,bf R.2]):=by
 refine dp Tryz.func19 I<|aV<|cL I<|cL I<|bF<|bF<|bP<|aR<|cM bJ I<|eg h WA (Kl _) (da I) fun r h=>bh I<|aI I<|ib I<|bP ?_;refine lO h I (fun h=>?_) (fun h=>?_)
 ·exact aI I<|bF<|bj I<|af<|so h▸c0 I I I
 ·refine gp<|aR<|cM fV I<|bY fH I<|d (bB hI)<|bP<|ai<|aN (k:=16) I fun hN=>bp ?_;refine ay (dx (tD:=fun ls i=>(kinds.drop i=ls)/\sl e kinds ls=some R) (Of:=fun _ i=>[]) (Gf:=fun _ i=>[(2,bo ac e),(3,bo Zw kinds),(16,qn kinds),(17,iG kinds),(18,bf (i:Int))]) (fun i h=>?_) (fun e1 tl ih i h=>?_) kinds 0 ⟨I,h⟩) (a8 I)
  ·obtain⟨D,h⟩:=h
   refine dh D I<|aq<|aR<|cM bJ I<|F6 h acK (Vo _) (da I) fun r1 h l c=>d (ip fH (.head _) (M I))<|d (bB hI)<|bP<|ai ?_;refine oe (.head _) fun hN1=>bp ?_;refine ay (dx (tD:=fun ls1 i1=>(r1.drop i1=ls1)/\n6 e kinds ls1=some R) (Of:=fun _ i1=>[f6 aP 3 l c r1]) (Gf:=fun _ i1=>[(2,bo ac e),(3,bo Zw kinds),(30,sy l c r1),(31,iG r1),(32,bf (i1:Int))]) (fun i1 h=>?_) (fun e2 tl1 ih1 i1 h=>?_) r1 0 ⟨I,h⟩) (a8 I)
   ·obtain⟨hx1,h⟩:=h
    refine dh hx1 I<|aq<|aV<|cM bJ I<|d ((show cH _ _ _ _ ((jT bd UO UN (fun(x:aD×(List Int))=>(kA kinds) x.1 x.2)))from rs (cts:=[bo Zw kinds]) (caps:=[.tmp 3]) acI ⟨(M I),Q⟩ (fun x y h=>YK _ _ _ h)))<|eg h acJ (YL _ _) (da I) fun r2 h=>cU I I<|cU I I<|gx I<|gx I<|br ?_;exact aq<|yJ<|aM<|so h▸c0 I I I
   ·obtain⟨hx1,h⟩:=h
    refine dg hx1 I<|aA<|ai<|aV<|d (cz fH cF (.head _) (M I) (M I) (cW hx1))<|d (dN (r:=aP) (i:=(i1:Int)) (foff:=0) cF I I cE I (.head _) (cW hx1) (M I))<|bh I<|aI I<|cM fV I<|bY fH I ?_;refine d (ff (M I) (M I))<|bX h I (fun h=>?_) (fun h=>?_)
    ·exact aV<|bF<|dG<|bT<|af<|bT<|aM<|so h▸c0 I I I
    ·refine bl<|cS hx1 hN1 I ?_;exact aO (ay (ih1 (i1+1) ⟨cO hx1,h⟩) (a8 I))
  ·obtain⟨D,h⟩:=h
   refine dg D I<|aA<|ai<|aV<|d9 fH cF I (cW D)<|bh I<|aI I<|d (eN (M I) hI)<|aY I ?_;refine ap I (de I)<|ap I (fun V=>eX (bE I V) hI)<|dU I<|bX h I (fun h=>?_) (fun h=>?_)
   ·exact aV<|bF<|dG<|bT<|af<|bT<|so h▸c0 I I I
   ·refine bl<|cS D hN I ?_;exact aO (ay (ih (i+1) ⟨cO D,h⟩) (a8 I))

def TB{R}(h:qW=some R):cN bd 76 [] (DH (fun y:Int=>bf y) uQ R):=by
 exact dp Tryz.func76 I<|aV<|d (cg (show bk _ _ (.const (.map none)) (tV (.map none))from fun _ _ _=>I))<|bP<|aV<|Ce (J1 (fun y:Int=>bf y)) uQ I fun b=>Dt (γ:=(fun y:Int=>bf y)) (y:=(1:Int)) FX (yg vy) (M I) (N2 hI) hI fun os=>Dt (γ:=(fun y:Int=>bf y)) (y:=(2:Int)) FX (yg vy) (M I) (N2 hI) hI fun os1=>Dt (γ:=(fun y:Int=>bf y)) (y:=(3:Int)) FX (yg vy) (M I) (N2 hI) hI fun os2=>Dt (γ:=(fun y:Int=>bf y)) (y:=(4:Int)) FX (yg vy) (M I) (N2 hI) hI fun os3=>Dt (γ:=(fun y:Int=>bf y)) (y:=(5:Int)) FX (yg vy) (M I) (N2 hI) hI fun os4=>aY I<|bj I<|MQ 0 I<|so h▸au I I

def Y4(l:Option Nat)(c:Nat) out e{R}(h:AE out e=some R):ea bd 235 [sy l c out,Z ac e] [K bt 106 l c out] (fun i:OI=>tO bt (i.h 0).1 (i.h 0).2 R) (fun i=>[K bt 106 (i.h 0).1 (i.h 0).2 R]):=by
 refine ea.of Tryz.func235 I I I fun w0 S0=>Uy 0 I<|aV<|cL I<|ck false bt 106<|d (cg zf)<|bP<|aI I<|d (fO mv (kp (M I)))<|bh I<|aR<|aU jV ge sB I<|bY mv I<|d (bB hI)<|br ?_;refine aq<|ai<|aN (k:=11) I fun hN=>bp<|yH ?_;refine ay (jC (tD:=fun ls i out1 l1 c1=>(e.Nodes.drop i=ls)/\kj out ls out1=some R) (Of:=fun _ i out1 l1 c1=>[K bt 106 l1 c1 out1]) (Gf:=fun _ i out1 l1 c1=>[(0,tO bt l1 c1 out1),(5,iG out),(11,gb (bt) e.Nodes),(12,iG e.Nodes),(13,bf (i:Int))]) (fun i out1 l1 c1 h=>?_) (fun e1 tl ih i out1 l1 c1 h=>?_) e.Nodes 0 out l c ⟨I,h⟩) (a8 I)
 ·obtain⟨D,h⟩:=h
  exact dh D I<|aq<|aI I<|bj I<|so h▸eu I (oi l1 c1) I I (fun _ _ h=>h)
 ·obtain⟨D,h⟩:=h
  refine dg D I<|aA<|ai<|aV<|d9 mv eH I (cW D)<|aX eH iN I fun b=>bM eH aj I<|bP ?_;refine ia (tD:=fun n=>sk out (kj out tl) out1 n=some R) (Of:=fun n=>[K bt 106 l1 c1 out1,bx bt 106 b n]) (Gf:=fun n=>[(0,tO bt l1 c1 out1),(5,iG out),(7,tV (an b 0)),(11,gb (bt) e.Nodes),(12,iG e.Nodes),(13,bf (i:Int))]) (fun n h=>?_) (fun aw=>?_)
  ·skip
   refine ia (tD:=fun n1=>sj (kj out tl) out1 n1=some R) (Of:=fun n1=>[K bt 106 l1 c1 out1,bx bt 106 b n1]) (Gf:=fun n1=>[(0,tO bt l1 c1 out1),(5,iG out),(7,tV (an b 0)),(11,gb (bt) e.Nodes),(12,iG e.Nodes),(13,bf (i:Int))]) (fun n1 h=>?_) (fun K1=>?_)
   ·skip
    refine aL<|aY I<|d (bA eH I I cE (.tail _ (.head _)) (M I))<|d (ba (r:=bt) (ys:=[n1]) (xs:=[.tmp 34]) mv eH I I I I I ⟨(M I),Q⟩)<|cu h fun out2 q_out2 h=>md eH I I I I mv I I (M I) (M I) q_out2 fun l2 c2=>gx I<|br<|cS D hN I<|dI<|aM ?_;exact aO (ay (ih (i+1) out2 l2 c2 ⟨cO D,h⟩) (a8 I))
   ·skip
    refine aV<|bu 2 n4 I<|d (bA cF I I lZ (.tail _ (.head _)) (M I))<|d (ff (M I) hI)<|bX h I (fun h=>?_) (fun h=>?_)
    ·refine aL<|bu 2 n4 I<|d (bA cF I I lZ (.tail _ (.head _)) (M I))<|aY I<|d (fq (M I) (M I))<|bu 2 n4 I<|dS<|bM cF vH I<|br<|dI ?_;exact cj (K1 (aD.mk n.Tag n.L (IntKind.i64.wrap (n.R+(out.length:Int))) n.Col n.Value) h) (a8 I)
    ·refine bl ?_;exact cj (K1 n h) (a8 I)
  ·skip
   refine aV<|bu 1 o8 I<|d (bA cF I I mS (.head _) (M I))<|d (ff (M I) hI)<|bX h I (fun h=>?_) (fun h=>?_)
   ·refine aL<|bu 1 o8 I<|d (bA cF I I mS (.head _) (M I))<|aY I<|d (fq (M I) (M I))<|bu 1 o8 I<|bM cF vI I<|br<|dI ?_;exact cj (aw (aD.mk e1.Tag (IntKind.i64.wrap (e1.L+(out.length:Int))) e1.R e1.Col e1.Value) h) (a8 I)
   ·refine bl<|dI ?_;exact cj (aw e1 h) (a8 I)

def VL root l{R}(h:mK root l=some R):cN bd 214 [Z bt root,gb (ac) l] (Z ac R):=by
 refine dp Tryz.func214 I<|aV<|AL (M I) I fun b=>aX bJ cZ I fun b1=>bP<|aV<|ck false bt 106<|d (cg zf)<|bP<|aV<|d (sQ (r:=aP) (ys:=[mg,mg]) (xs:=[.const (.int .i64 (-1)),.const (.int .i64 (-1))]) FO cF I JN I I ⟨hI,hI,Q⟩)<|aX (r:=JD) (x:=(List.replicate 2 (0:Int))) JN (fun _=>HG (r:=aP) 2 (fun _=>I) _) I fun b2=>bM JN aj I<|bP<|aR<|aY I ?_;refine bY oQ I<|d (bB hI)<|bP<|ai<|aN (k:=10) I fun hN=>bp<|hZ<|Ew<|HP 5 I<|hZ<|kb<|rA<|rA ?_;refine ay (Dy (tD:=fun ls i out l1 c at1=>(l.drop i=ls)/\jx root ls i out at1=some R) (Of:=fun _ i out l1 c at1=>[K bt 106 l1 c out,bx bt 106 b root,bx ac 62 b1 th,bx JD 80 b2 at1]) (Gf:=fun _ i out l1 c at1=>[(2,tV (an b 0)),(4,tV (an b1 0)),(5,tO bt l1 c out),(6,tV (an b2 0)),(10,gb (ac) l),(11,iG l),(12,bf (i:Int))]) (fun i out l1 c at1 h=>?_) (fun e tl ih i out l1 c at1 h=>?_) l 0 ([]:List aD) none 0 ([mg,mg]) ⟨I,h⟩) (a8 I)
 ·obtain⟨D,h⟩:=h
  refine dh D I<|aq<|aA<|cu h fun e1 q_e1 h=>cu h fun e2 q_e2 h=>?_
  refine er 6 [tc (tV (an b2 ((0:Int).toNat*1))),tc (bf e1),tc (tV (an b2 ((1:Int).toNat*1))),tc (bf e2),tc (tV (an b 1)),tc (tS)] [false,false,false,false,false,true] [fun _=>[K bt 106 l1 c out,bx bt 106 b root,bx ac 62 b1 th,bx JD 80 b2 at1],fun sg=>[bx bt 106 b ({root with L:=e1}:aD),K bt 106 l1 c out,bx ac 62 b1 th,bx JD 80 b2 at1]] I mixed I I I I I
   ⟨⟨[⟨6,fun _=>tV (an b2 0),none⟩],_,0,0,I,⟨(fun _=>I),Q⟩,I,I,I,I,I,fM (fun sg=>h2 I (qF FO cF (.tail _ (.tail _ (.tail _ (.head _)))) (M I) hI q_e1))⟩,
   ⟨⟨[⟨26,fun _=>tV (an b2 ((0:Int).toNat*1)),some 0⟩],_,0,0,I,⟨(fun _=>I),Q⟩,I,I,I,I,I,fM (fun sg=>h2 I (GN cF I I (.tail _ (.tail _ (.tail _ (.head _)))) q_e1 (M I)))⟩,
   ⟨⟨[⟨6,fun _=>tV (an b2 0),none⟩],_,0,1,I,⟨(fun _=>I),Q⟩,I,I,I,I,I,ur (fun sg=>h2 I (qF FO cF (.tail _ (.tail _ (.tail _ (.head _)))) (M I) hI q_e2)) (fM (fun sg=>h2 I (qF FO cF (.tail _ (.tail _ (.tail _ (.head _)))) (M I) hI q_e2)))⟩,
   ⟨⟨[⟨28,fun _=>tV (an b2 ((1:Int).toNat*1)),some 2⟩],_,0,1,I,⟨(fun _=>I),Q⟩,I,I,I,I,I,ur (fun sg=>h2 I (GN cF I I (.tail _ (.tail _ (.tail _ (.head _)))) q_e2 (M I))) (fM (fun sg=>h2 I (GN cF I I (.tail _ (.tail _ (.tail _ (.head _)))) q_e2 (M I))))⟩,
   ⟨⟨[⟨2,fun _=>tV (an b 0),none⟩],_,0,0,I,⟨(fun _=>I),Q⟩,I,I,I,I,I,fun _ sg _ _=>h2 I (lu 1 o8 I I I)⟩,
   ⟨⟨[⟨30,fun _=>tV (an b 1),some 4⟩,⟨27,fun _=>Z aP e1,some 1⟩],_,I,⟨(fun _=>I),(fun _=>I),Q⟩,I,I,I,fun sg=>bL I (EffOK.fr1 (dr cF I (uy vI) I (M I) (M I)))⟩,
   Q⟩⟩⟩⟩⟩⟩ (fun sg=>?_)
  refine(show RG _ _ _ _ [_,_,_,_] _ from ?_);exact bu 2 n4 I<|bM cF vH I<|bP<|aI I<|d (bA (x:=(aD.mk ({root with L:=e1}:aD).Tag ({root with L:=e1}:aD).L e2 ({root with L:=e1}:aD).Col ({root with L:=e1}:aD).Value)) eH I I cE (.head _) (M I))<|d (ba (r:=bt) (ys:=[(aD.mk ({root with L:=e1}:aD).Tag ({root with L:=e1}:aD).L e2 ({root with L:=e1}:aD).Col ({root with L:=e1}:aD).Value)]) (xs:=[.tmp 33]) mv eH I I I I I ⟨(M I),Q⟩)<|dS<|cu h fun l2 q_l2 h=>md eH I I I I mv I I (M I) (M I) q_l2 fun l3 c1=>d (bS (y:=(⟨l2⟩:aZ)) bJ BX cZ (⟨_,_,_,_,_,I,Rd,I,(kp (M I)),I⟩))<|hU<|bM bJ aj I<|aQ 4 I<|cA<|aM<|aM<|aM<|so h▸sw I bJ I I I
 ·obtain⟨D,h⟩:=h
  refine dg D I<|aA<|ai<|aI I<|d9 oQ bJ I (cW D)<|aX bJ cZ I fun b3=>gx I<|bM bJ aj I<|aQ 8 I<|bP<|aA ?_;refine aL<|aY I<|cM bJ I<|cu h fun r q_r h=>Du [K bt 106 l1 c out] _ I aaY (Y4 l1 c _ _ q_r) ⟨(tR (M I)),(M I),Q⟩ I fun i1=>?_;refine(show RG _ _ _ _ [_,_,_,_] ((19,tO bt (i1.h 0).1 (i1.h 0).2 r)::_)from ?_);refine bh I<|aL<|aY I<|aY I<|d (fO mv (kp (M I)))<|d (fm (M I) hI)<|cu h fun e3 q_e3 h=>d (qF FO cF (.tail _ (.tail _ (.tail _ (.head _)))) (M I) (M I) q_e3)<|ka<|cu h fun ar q_ar h=>R7 cF I q_e3 (so q_ar) (M I) (M I)<|br<|cS D hN I<|kc<|kc<|kc ?_;exact aO (ay (ih (i+1) r (i1.h 0).1 (i1.h 0).2 ar ⟨cO D,h⟩) (a8 I))

def Kq root l{R}(h:sZ root l=some R):cN bd 175 [Z bt root,gb (ac) l] (tT [Z ac R.1,bf R.2]):=by
 refine dp Tryz.func175 I<|aV<|cL I<|aX bJ cZ I fun b=>bF<|bP<|aR<|aY I<|bY oQ I<|d (bB hI)<|bP<|ai<|aN (k:=11) I fun hN=>bp ?_;refine ay (jX (tD:=fun ls i x=>(l.drop i=ls)/\n5 root l ls x=some R) (Of:=fun _ i x=>[bx ac 62 b x]) (Gf:=fun _ i x=>[(1,gb (ac) l),(2,bo bt root),(4,tV (an b 0)),(11,gb (ac) l),(12,iG l),(13,bf (i:Int))]) (fun i x h=>?_) (fun e tl ih i x h=>?_) l 0 th ⟨I,h⟩) (a8 I)
 ·obtain⟨D,h⟩:=h
  refine dh D I<|aq<|aV<|cM eH I<|aY I<|eg h aa7 (VL _ _) (da I) fun r h=>aX bJ cZ I fun b1=>bM bJ aj I<|aQ 9 I<|bP ?_;refine aR<|cM bJ I<|eg h WA (Kl _) (da I) fun r1 h=>bh I<|aI I<|ib I<|bX h I (fun h=>?_) (fun h=>?_)
  ·exact aV<|d (bS bJ BX cZ I)<|aY I<|bM bJ aj I<|bj I<|af<|cq 4 I<|so h▸ly I I ⟨di bJ I I I,bH I,Q⟩
  ·exact gp<|aV<|cM bJ I<|bM bJ aj I<|dG<|cq 4 I<|so h▸ly I I ⟨di bJ I I I,bH I,Q⟩
 ·obtain⟨D,h⟩:=h
  refine dg D I<|aA<|ai<|aV<|d9 oQ bJ I (cW D)<|aX bJ cZ I fun b2=>bM bJ aj I<|aQ 7 I<|bP<|aV<|cM bJ I ?_;refine eg h WA (Kl _) (da I) fun r2 h=>bh I<|aI I<|ib I<|bX h I (fun h=>?_) (fun h=>?_)
  ·exact aV<|d (bS bJ BX cZ I)<|aY I<|bM bJ aj I<|bj I<|bT<|af<|bT<|cq 4 I<|so h▸ly I I ⟨di bJ I I I,bH I,Q⟩
  ·refine bl<|cS D hN I ?_;exact aO (ay (ih (i+1) x ⟨cO D,h⟩) (a8 I))

def Qd n{R}(h:vq n=some R):cN bd 142 [Z bt n] (tT [Z ac R.1,bf R.2]):=by
 exact dp Tryz.func142 I<|aV<|cL I<|aX bJ cZ I fun b=>bF<|bP<|aV<|cM eH I<|eg h T6 (Kq _ _) ⟨(M I),RH,Q⟩ fun r h=>cU I I<|cU I I<|bM bJ aj I<|aQ 2 I<|bj I<|so h▸ly I I ⟨di bJ I I I,bH I,Q⟩

def VY n{R}(h:ca n=some R):cN bd 176 [Z bt n] (tT [Z ac R.1,bf R.2]):=by
 exact dp Tryz.func176 I<|aV<|cL I<|aX bJ cZ I fun b=>bF<|bP<|aV<|cM eH I<|eg h Xs (Qd _) (da I) fun r h=>cU I I<|cU I I<|bM bJ aj I<|aQ 2 I<|bj I<|so h▸ly I I ⟨di bJ I I I,bH I,Q⟩

set_option maxHeartbeats 4000000 in
def Y9(b:Nat)(ix:OI) s group{R}(h:gA s group=some R):ea bd 177 [iD group,bo (rT (tV (an b 0))) ()] (dq b s ix) (fun _:OI=>qn R) (fun _=>(dq b s ix)):=by
 refine ea.of Tryz.func177 I I I fun w0 S0=>?_;refine(show CG _ _ _ [bx (rH aS (z10 ix s)) 127 b s,K aP 3 (ix.h 0).1 (ix.h 0).2 s.out.Tables,K av 71 (ix.h 1).1 (ix.h 1).2 s.out.Joins,K aP 3 (ix.h 2).1 (ix.h 2).2 s.out.Keys,K aT 73 (ix.h 3).1 (ix.h 3).2 s.out.Aggs,K ac 62 (ix.h 4).1 (ix.h 4).2 s.out.Items,K aP 3 (ix.h 5).1 (ix.h 5).2 s.kinds,K aP 3 (ix.h 6).1 (ix.h 6).2 s.groups,ci mW ew (ix.h 7).2 none (ix.oss 0) s.called,ci fe ew (ix.h 8).2 none (ix.oss 1) s.alone,eO (fun y:Int=>bf y) lc (ix.h 9).2 s.behind] _ from ?_);refine aV<|xp aP<|bP<|aR<|aY I<|bX h I (fun h=>?_) (fun h=>?_)
 ·exact aV<|d (vP La (M I))<|d (bm (M I))<|bu 23 AB I<|d (cR fV I (.head _) (.tail _ (.tail _ (.tail _ (.tail _ (.tail _ (.tail _ (.tail _ (.head _)))))))) (M I))<|bj I<|af<|nF 3 I<|so h▸eu I oD I I (fun _ _ h=>h)
 ·exact gp<|aV<|d (vP La (M I))<|d (bm (M I))<|bu 22 wN I<|d (cR fV I (.head _) (.tail _ (.tail _ (.tail _ (.tail _ (.tail _ (.tail _ (.head _))))))) (M I))<|bj I<|nF 3 I<|so h▸eu I oD I I (fun _ _ h=>h)

set_option maxHeartbeats 4000000 in
def TJ(b:Nat)(ix:OI) s n{R}(h:kJ s n=some R):ea bd 141 [tV (an b 0),Z fI n] (dq b s ix) (fun _:OI=>tT [bf R.1,bf R.2]) (fun _=>(dq b s ix)):=by
 refine ea.of Tryz.func141 I I I fun w0 S0=>?_;refine(show CG _ _ _ [bx (rH aS (z10 ix s)) 127 b s,K aP 3 (ix.h 0).1 (ix.h 0).2 s.out.Tables,K av 71 (ix.h 1).1 (ix.h 1).2 s.out.Joins,K aP 3 (ix.h 2).1 (ix.h 2).2 s.out.Keys,K aT 73 (ix.h 3).1 (ix.h 3).2 s.out.Aggs,K ac 62 (ix.h 4).1 (ix.h 4).2 s.out.Items,K aP 3 (ix.h 5).1 (ix.h 5).2 s.kinds,K aP 3 (ix.h 6).1 (ix.h 6).2 s.groups,ci mW ew (ix.h 7).2 none (ix.oss 0) s.called,ci fe ew (ix.h 8).2 none (ix.oss 1) s.alone,eO (fun y:Int=>bf y) lc (ix.h 9).2 s.behind] _ from ?_);refine aV<|cL I<|bF<|bF<|bP<|aR<|aU Kc xG ja I<|d (va (M I) hS)<|bX h I (fun h=>?_) (fun h=>?_)
 ·refine aA ?_
  refine d8 (ts:=[_,_,_,_,_,_,_,_,_,_,_]) mixed I I
   ⟨fv I I,
   ⟨fL 13 0 I I (bm (M I)),
   ⟨fL 14 1 I I (lu 21 PV I I I),
   ⟨fL 15 2 I I (qE WY I (.head _) (M I)),
   ⟨qN 3 I I (nM vB I I),
   ⟨eh 16 3 17 4 I I I (LO (γ:=fun y:Int=>Z aP y) (z:=(0:Int)) Tryz.underlying125 aaa zv3 (fun S=>⟨_,I,(fun _=>I) S⟩) (.tail _ (.tail _ (.tail _ (.tail _ (.tail _ (.tail _ (.tail _ (.tail _ (.tail _ (.tail _ (.head _))))))))))) (M I) (Te (p:=(n.Table,n.Name)) I (fun _ _ h=>aac h) (M I))),
   ⟨fL 18 5 I I (fR I),
   ⟨fL 12 6 I I (w9 I I),
   ⟨fL 12 6 I I (w9 I I),
   ⟨fL 19 7 I I (Cm I),
   ⟨fL 20 8 I I (Cm I),
   Q⟩⟩⟩⟩⟩⟩⟩⟩⟩⟩⟩ ?_
  refine aq<|aR<|aY I<|d (fD (M I))<|bX h I (fun h=>?_) (fun h=>?_)
  ·exact aV<|bF<|dG<|af<|af<|so h▸dc (ts:=[bf 0,bf 222]) (rvs:=[.tmp 4,.tmp 5]) I I ⟨bH I,bH I,Q⟩ oD I I
  ·exact gp<|aI I<|gx I<|dG<|af<|so h▸dc (ts:=[bf ((ie s.behind (n.Table,n.Name)).getD (0:Int)),bf 0]) (rvs:=[.tmp 4,.tmp 5]) I I ⟨bH I,bH I,Q⟩ oD I I
 ·refine gp<|aA<|aA ?_
  refine d8 (ts:=[_,_,_,_,_,_,_,_]) mixed I I
   ⟨fv I I,
   ⟨fL 24 0 I I (bm (M I)),
   ⟨fL 25 1 I I (lu 20 Kj I I I),
   ⟨fL 26 2 I I (qE K9 I (.head _) (M I)),
   ⟨qN 3 I I (kO Kb xF I I),
   ⟨fA 4 ja I I,
   ⟨eh 27 3 29 5 I I I (NP Tryz.underlying124 (C1 nG) ZB (.tail _ (.tail _ (.tail _ (.tail _ (.tail _ (.tail _ (.tail _ (.tail _ (.tail _ (.head _)))))))))) (M I) (Td (M I))),
   ⟨fL 30 6 I I (Cm I),
   Q⟩⟩⟩⟩⟩⟩⟩⟩ ?_
  refine aq<|aI I<|bY fH I<|bP<|ai<|aV<|dn I<|bh I<|lO h I (fun h=>?_) (fun h=>?_)
  ·exact aV<|bF<|dG<|bT<|so h▸dc (ts:=[bf 0,bf 222]) (rvs:=[.tmp 4,.tmp 5]) I I ⟨bH I,bH I,Q⟩ oD I I
  ·refine aV<|dn I<|bh I<|lO h I (fun h=>?_) (fun h=>?_)
   ·exact aI I<|cu h fun e q_e h=>d (d6 fH cF I (M I) hI q_e)<|cM cF I<|gx I<|dG<|bT<|so h▸dc (ts:=[bf e,bf 0]) (rvs:=[.tmp 4,.tmp 5]) I I ⟨bH I,bH I,Q⟩ oD I I
   ·exact bl<|bn<|aq<|aV<|bF<|dG<|so h▸dc (ts:=[bf 0,bf 223]) (rvs:=[.tmp 4,.tmp 5]) I I ⟨bH I,bH I,Q⟩ oD I I

end Go.Proofs.YthbdkceckjihgaaGreatDoor

