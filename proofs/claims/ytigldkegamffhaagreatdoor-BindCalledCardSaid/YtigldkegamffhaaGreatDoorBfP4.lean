/- de of this claim: P4. -/
import Derived.Test.YtigldkegamffhaaGreatDoorBfT
import Derived.Test.YtigldkegamffhaaGreatDoorBfP3
set_option linter.all false
namespace Go.Proofs.YtigldkegamffhaaGreatDoor
open Go
set_option maxRecDepth 100000

def Zn tag{R}(h:xP tag=some R):dZ aY 83 [br tag] (mb R):=by
 exact fc Tryz.func83 I<|bA<|cJ<|co<|aQ I<|jK I<|bC I<|bY I (gB I)<|bY I (fun hg=>lQ (df I hg) hI)<|bY I (yx I)<|iA I I I I (fun hg=>jM I)<|iA I I I I (fun hg=>pJ (df I hg) hI)<|bY I (fun hg=>n8 (df I hg) (fun H=>(df I (zy hg H))))<|ph I<|bF I<|so h▸aT I I

def Zo kinds n l{R}(h:jZ kinds n l=some R):dZ aY 82 [K bK n,yl l,bt zzr kinds] (tT [br R.1,br R.2]):=by
 refine fc Tryz.func82 I<|bA<|eA I<|dg<|dg<|co<|bA<|dg<|co<|bN<|bC I<|dr jL I<|Q (bG hI)<|co<|am<|bE (k:=12) I fun hN=>cc ?_;refine aP (gY (tV:=fun ls i own=>(l.drop i=ls)/\mK kinds n ls own=some R) (Of:=fun _ i own=>[]) (Gf:=fun _ i own=>[(2,bt zzr kinds),(3,bt bK n),(7,br own),(12,yl l),(13,mY l),(14,br (i:Int))]) (fun i own h=>?_) (fun e tl ih i own h=>?_) l 0 (0:Int) ⟨I,h⟩) (bO I)
 ·obtain⟨D,h⟩:=h
  refine fH D I<|aC<|aQ I<|bP I<|bA<|dg<|co ?_;refine aE<|am<|bA<|cU vP kX er I<|jK I<|bP I<|u7 h I (fun h=>?_) (fun h=>?_)
  ·exact bA<|AD KP uM I<|cU Er xc er I<|lI I<|iG<|ej<|so h▸gP I I I
  ·refine bA<|cU vP kX er I<|jK I<|bP I<|u7 h I (fun h=>?_) (fun h=>?_)
   ·exact bA<|d5 ky I<|cU BL ol er I<|cV h fun e1 q_e1 h=>i9 jL er I q_e1<|lI I<|iG<|ej<|so h▸gP I I I
   ·refine bA<|cU vP kX er I<|jE h acW (Zn _) (gm I) fun r h=>bP I<|u7 h I (fun h=>?_) (fun h=>?_)
    ·refine aO<|dg<|dg<|bu<|bW<|aC<|bN<|bC I<|jK I<|bC I<|bY I (gB I)<|bY I (EV I)<|bY I (yx I)<|iA I I I I (fun hg=>jM I)<|iA I I I I (fun hg=>jM I)<|iA I I I I (fun hg=>jg (df I hg) (df I hg))<|bY I (fun hg=>n8 (df I hg) (fun H=>(df I (zy hg H))))<|ph I<|eK h I (fun h=>?_) (fun h=>?_)
     ·exact bA<|dg<|iG<|an<|so h▸gP I I I
     ·exact nG<|aQ I<|lI I<|iG<|so h▸gP I I I
    ·refine bA<|cU vP kX er I<|jK I<|bC I<|bY I (dQ vP kX I I)<|bY I (dw er I I)<|bY I (sv I)<|ph I<|bC I<|bY I (dQ vP kX I I)<|bY I (dw er I I)<|bY I (sv I)<|ph I<|bP I<|u7 h I (fun h=>?_) (fun h=>?_)
     ·refine aO<|dg<|bu<|bW<|aC<|bN<|bC I<|jK I<|bC I<|bY I (gB I)<|bY I (EV I)<|bY I (yx I)<|iA I I I I (fun hg=>jM I)<|iA I I I I (fun hg=>jM I)<|iA I I I I (fun hg=>jg (df I hg) (df I hg))<|bY I (fun hg=>n8 (df I hg) (fun H=>(df I (zy hg H))))<|ph I<|eK h I (fun h=>?_) (fun h=>?_)
      ·exact bA<|dg<|iG<|an<|so h▸gP I I I
      ·exact nG<|aQ I<|lI I<|iG<|so h▸gP I I I
     ·refine ck<|bW<|aC<|bN<|bC I<|jK I<|bC I<|bY I (gB I)<|bY I (EV I)<|bY I (yx I)<|iA I I I I (fun hg=>jM I)<|iA I I I I (fun hg=>jM I)<|iA I I I I (fun hg=>jg (df I hg) (df I hg))<|bY I (fun hg=>n8 (df I hg) (fun H=>(df I (zy hg H))))<|ph I<|eK h I (fun h=>?_) (fun h=>?_)
      ·exact bA<|dg<|iG<|an<|so h▸gP I I I
      ·exact nG<|aQ I<|lI I<|iG<|so h▸gP I I I
 ·obtain⟨D,h⟩:=h
  refine fG D I<|aE<|am<|bA<|i9 jL er I (d6 D)<|bP I<|am<|aQ I<|jK I ?_;refine bC I<|bY I (gB I)<|bY I (gB I)<|bY I (fun hg=>sf (df I hg) (df I hg))<|ph I<|bP I<|u7 h I (fun h=>?_) (fun h=>?_)
  ·refine ck<|bW<|eP D hN I ?_;exact bl (aP (ih (i+1) own ⟨eg D,h⟩) (bO I))
  ·refine aQ I<|jK I<|bP I<|u7 h I (fun h=>?_) (fun h=>?_)
   ·refine aO<|bC I<|lI I<|bu<|bW<|eP D hN I ?_;exact bl (aP (ih (i+1) e ⟨eg D,h⟩) (bO I))
   ·refine aO<|dg<|bu<|bW<|eP D hN I ?_;exact bl (aP (ih (i+1) lJ ⟨eg D,h⟩) (bO I))

def K0 e kinds{R}(h:kN e kinds=some R):dZ aY 56 [K ah e,yl kinds] (tT [br R.1,br R.2]):=by
 refine fc Tryz.func56 I<|bA<|eA I<|eA I<|dg<|dg<|co<|bN<|d5 cI I<|jE h Xz (KY _) (gm I) fun r h=>bP I<|aQ I<|mp I<|co ?_;refine u7 h I (fun h=>?_) (fun h=>?_)
 ·exact aQ I<|dg<|bF I<|an<|so h▸gP I I I
 ·refine nG<|bN<|d5 ky I<|dr jL I<|Q (bG hI)<|co<|am<|bE (k:=16) I fun hN=>cc ?_;refine aP (gG (tV:=fun ls i=>(kinds.drop i=ls)/\qP e kinds ls=some R) (Of:=fun _ i=>[]) (Gf:=fun _ i=>[(2,bt ah e),(3,bt zzr kinds),(16,yl kinds),(17,mY kinds),(18,br (i:Int))]) (fun i h=>?_) (fun e1 tl ih i h=>?_) kinds 0 ⟨I,h⟩) (bO I)
  ·obtain⟨D,h⟩:=h
   refine fH D I<|aC<|bN<|d5 cI I<|Qi h acZ (WS _) (gm I) fun r1 h l c=>Q (fa jL (.head _) (M I))<|Q (bG hI)<|co<|am ?_;refine fQ (.head _) fun hN1=>cc ?_;refine aP (gG (tV:=fun ls1 i1=>(r1.drop i1=ls1)/\ni e kinds ls1=some R) (Of:=fun _ i1=>[dv aU 3 l c r1]) (Gf:=fun _ i1=>[(2,bt ah e),(3,bt zzr kinds),(30,uZ l c r1),(31,mY r1),(32,br (i1:Int))]) (fun i1 h=>?_) (fun e2 tl1 ih1 i1 h=>?_) r1 0 ⟨I,h⟩) (bO I)
   ·obtain⟨hx1,h⟩:=h
    refine fH hx1 I<|aC<|bA<|d5 cI I<|Q ((show ce _ _ _ _ ((gZ aY V8 V7 (fun(x:ap×(List Int))=>(jZ kinds) x.1 x.2)))from n9 (cts:=[bt zzr kinds]) (caps:=[.tmp 3]) acX ⟨(M I),J⟩ (fun x y h=>Zo _ _ _ h)))<|jE h acY (Zp _ _) (gm I) fun r2 h=>fI I I<|fI I I<|lI I<|lI I<|bu ?_;exact aC<|zE<|aZ<|so h▸gP I I I
   ·obtain⟨hx1,h⟩:=h
    refine fG hx1 I<|aE<|am<|bA<|Q (bo jL er (.head _) (M I) (M I) (d6 hx1))<|Q (cb (r:=aU) (i:=(i1:Int)) (foff:=0) er I I cg I (.head _) (d6 hx1) (M I))<|bP I<|aQ I<|d5 ky I<|dr jL I ?_;refine Q (lQ (M I) (M I))<|eK h I (fun h=>?_) (fun h=>?_)
    ·exact bA<|dg<|iG<|ej<|an<|ej<|aZ<|so h▸gP I I I
    ·refine ck<|eP hx1 hN1 I ?_;exact bl (aP (ih1 (i1+1) ⟨eg hx1,h⟩) (bO I))
  ·obtain⟨D,h⟩:=h
   refine fG D I<|aE<|am<|bA<|i9 jL er I (d6 D)<|bP I<|aQ I<|Q (jh (M I) hI)<|bC I ?_;refine bY I (gB I)<|bY I (fun hg=>lP (df I hg) hI)<|ph I<|eK h I (fun h=>?_) (fun h=>?_)
   ·exact bA<|dg<|iG<|ej<|an<|ej<|so h▸gP I I I
   ·refine ck<|eP D hN I ?_;exact bl (aP (ih (i+1) ⟨eg D,h⟩) (bO I))

def U8{R}(h:lq=some R):dZ aY 97 [] (DG (fun y:Int=>br y) tp R):=by
 exact fc Tryz.func97 I<|bA<|Q (cR (show aL _ _ (.const (.map none)) (Z (.map none))from fun _ _ _=>I))<|co<|bA<|BR (KB (fun y:Int=>br y)) tp I fun b=>Do (γ:=(fun y:Int=>br y)) (y:=(1:Int)) Gb (wV tn) (M I) (OQ hI) hI fun os=>Do (γ:=(fun y:Int=>br y)) (y:=(2:Int)) Gb (wV tn) (M I) (OQ hI) hI fun os1=>Do (γ:=(fun y:Int=>br y)) (y:=(3:Int)) Gb (wV tn) (M I) (OQ hI) hI fun os2=>Do (γ:=(fun y:Int=>br y)) (y:=(4:Int)) Gb (wV tn) (M I) (OQ hI) hI fun os3=>Do (γ:=(fun y:Int=>br y)) (y:=(5:Int)) Gb (wV tn) (M I) (OQ hI) hI fun os4=>bC I<|bF I<|Nx 0 I<|so h▸aT I I

def ZT(l:Option Nat)(c:Nat) out e{R}(h:Ac out e=some R):eJ aY 142 [uZ l c out,K ah e] [d bK 73 l c out] (fun i:OI=>tO bK (i.h 0).1 (i.h 0).2 R) (fun i=>[d bK 73 (i.h 0).1 (i.h 0).2 R]):=by
 refine eJ.of Tryz.func142 I I I fun w0 S0=>VV 0 I<|bA<|eA I<|cM false bK 73<|Q (cR F1)<|co<|aQ I<|Q (oc vX (tv (M I)))<|bP I<|bN<|cU BK rF NY I<|dr vX I<|Q (bG hI)<|bu ?_;refine aC<|am<|bE (k:=11) I fun hN=>cc<|F3 ?_;refine aP (sL (tV:=fun ls i out1 l1 c1=>(e.Nodes.drop i=ls)/\jR out ls out1=some R) (Of:=fun _ i out1 l1 c1=>[d bK 73 l1 c1 out1]) (Gf:=fun _ i out1 l1 c1=>[(0,tO bK l1 c1 out1),(5,mY out),(11,jo (bK) e.Nodes),(12,mY e.Nodes),(13,br (i:Int))]) (fun i out1 l1 c1 h=>?_) (fun e1 tl ih i out1 l1 c1 h=>?_) e.Nodes 0 out l c ⟨I,h⟩) (bO I)
 ·obtain⟨D,h⟩:=h
  exact fH D I<|aC<|aQ I<|bF I<|so h▸eZ I (oi l1 c1) I I (fun _ _ h=>h)
 ·obtain⟨D,h⟩:=h
  refine fG D I<|aE<|am<|bA<|i9 vX oD I (d6 D)<|ba oD pf I fun b=>cG oD ak I<|co ?_;refine oZ (tV:=fun n=>qO out (jR out tl) out1 n=some R) (Of:=fun n=>[d bK 73 l1 c1 out1,bx bK 73 b n]) (Gf:=fun n=>[(0,tO bK l1 c1 out1),(5,mY out),(7,Z (al b 0)),(11,jo (bK) e.Nodes),(12,mY e.Nodes),(13,br (i:Int))]) (fun n h=>?_) (fun tD=>?_)
  ·skip
   refine oZ (tV:=fun n1=>qN (jR out tl) out1 n1=some R) (Of:=fun n1=>[d bK 73 l1 c1 out1,bx bK 73 b n1]) (Gf:=fun n1=>[(0,tO bK l1 c1 out1),(5,mY out),(7,Z (al b 0)),(11,jo (bK) e.Nodes),(12,mY e.Nodes),(13,br (i:Int))]) (fun n1 h=>?_) (fun K1=>?_)
   ·skip
    refine aO<|bC I<|Q (bn oD I I cg (.tail _ (.head _)) (M I))<|Q (bI (r:=bK) (ys:=[n1]) (xs:=[.tmp 34]) vX oD I I I I I ⟨(M I),J⟩)<|cV h fun out2 q_out2 h=>uU oD I I I I vX I I (M I) (M I) q_out2 fun l2 c2=>lI I<|bu<|eP D hN I<|dW<|aZ ?_;exact bl (aP (ih (i+1) out2 l2 c2 ⟨eg D,h⟩) (bO I))
   ·skip
    refine bA<|ca 2 HC I<|Q (bn er I I xd (.tail _ (.head _)) (M I))<|Q (lQ (M I) hI)<|eK h I (fun h=>?_) (fun h=>?_)
    ·refine aO<|ca 2 HC I<|Q (bn er I I xd (.tail _ (.head _)) (M I))<|bC I<|Q (vO (M I) (M I))<|ca 2 HC I<|cY<|cG er GC I<|bu<|dW ?_;exact ed (K1 (ap.mk n.Tag n.L (IntKind.i64.wrap (n.R+(out.length:Int))) n.Col n.Value) h) (bO I)
    ·refine ck ?_;exact ed (K1 n h) (bO I)
  ·skip
   refine bA<|ca 1 HD I<|Q (bn er I I xe (.head _) (M I))<|Q (lQ (M I) hI)<|eK h I (fun h=>?_) (fun h=>?_)
   ·refine aO<|ca 1 HD I<|Q (bn er I I xe (.head _) (M I))<|bC I<|Q (vO (M I) (M I))<|ca 1 HD I<|cG er GD I<|bu<|dW ?_;exact ed (tD (ap.mk e1.Tag (IntKind.i64.wrap (e1.L+(out.length:Int))) e1.R e1.Col e1.Value) h) (bO I)
   ·refine ck<|dW ?_;exact ed (tD e1 h) (bO I)

def Xe root l{R}(h:lD root l=some R):dZ aY 129 [K bK root,jo (ah) l] (K ah R):=by
 refine fc Tryz.func129 I<|bA<|Dp (M I) I fun b=>ba cI fx I fun b1=>co<|bA<|cM false bK 73<|Q (cR F1)<|co<|bA<|Q (ub (r:=aU) (ys:=[lJ,lJ]) (xs:=[.const (.int .i64 (-1)),.const (.int .i64 (-1))]) Ce er I Ke I I ⟨hI,hI,J⟩)<|ba (r:=DC) (x:=(List.replicate 2 (0:Int))) Ke (fun _=>Na (r:=aU) 2 (fun _=>I) _) I fun b2=>cG Ke ak I<|co<|bN<|bC I ?_;refine dr rl I<|Q (bG hI)<|co<|am<|bE (k:=10) I fun hN=>cc<|gx<|Tk<|VQ 5 I<|gx<|jt<|oY<|oY ?_;refine aP (Ii (tV:=fun ls i out l1 c at1=>(l.drop i=ls)/\jj root ls i out at1=some R) (Of:=fun _ i out l1 c at1=>[d bK 73 l1 c out,bx bK 73 b root,bx ah 76 b1 tt,bx DC 29 b2 at1]) (Gf:=fun _ i out l1 c at1=>[(2,Z (al b 0)),(4,Z (al b1 0)),(5,tO bK l1 c out),(6,Z (al b2 0)),(10,jo (ah) l),(11,mY l),(12,br (i:Int))]) (fun i out l1 c at1 h=>?_) (fun e tl ih i out l1 c at1 h=>?_) l 0 ([]:List ap) none 0 ([lJ,lJ]) ⟨I,h⟩) (bO I)
 ·obtain⟨D,h⟩:=h
  refine fH D I<|aC<|aE<|cV h fun e1 q_e1 h=>cV h fun e2 q_e2 h=>?_
  refine fY 6 [tc (Z (al b2 ((0:Int).toNat*1))),tc (br e1),tc (Z (al b2 ((1:Int).toNat*1))),tc (br e2),tc (Z (al b 1)),tc (tw)] [false,false,false,false,false,true] [fun _=>[d bK 73 l1 c out,bx bK 73 b root,bx ah 76 b1 tt,bx DC 29 b2 at1],fun sg=>[bx bK 73 b ({root with L:=e1}:ap),d bK 73 l1 c out,bx ah 76 b1 tt,bx DC 29 b2 at1]] I mixed I I I I I
   ⟨⟨[⟨6,fun _=>Z (al b2 0),none⟩],_,0,0,I,⟨(fun _=>I),J⟩,I,I,I,I,I,dX (fun sg=>aK I (pr Ce er (.tail _ (.tail _ (.tail _ (.head _)))) (M I) hI q_e1))⟩,
   ⟨⟨[⟨26,fun _=>Z (al b2 ((0:Int).toNat*1)),some 0⟩],_,0,0,I,⟨(fun _=>I),J⟩,I,I,I,I,I,dX (fun sg=>aK I (G6 er I I (.tail _ (.tail _ (.tail _ (.head _)))) q_e1 (M I)))⟩,
   ⟨⟨[⟨6,fun _=>Z (al b2 0),none⟩],_,0,1,I,⟨(fun _=>I),J⟩,I,I,I,I,I,rq (fun sg=>aK I (pr Ce er (.tail _ (.tail _ (.tail _ (.head _)))) (M I) hI q_e2)) (dX (fun sg=>aK I (pr Ce er (.tail _ (.tail _ (.tail _ (.head _)))) (M I) hI q_e2)))⟩,
   ⟨⟨[⟨28,fun _=>Z (al b2 ((1:Int).toNat*1)),some 2⟩],_,0,1,I,⟨(fun _=>I),J⟩,I,I,I,I,I,rq (fun sg=>aK I (G6 er I I (.tail _ (.tail _ (.tail _ (.head _)))) q_e2 (M I))) (dX (fun sg=>aK I (G6 er I I (.tail _ (.tail _ (.tail _ (.head _)))) q_e2 (M I))))⟩,
   ⟨⟨[⟨2,fun _=>Z (al b 0),none⟩],_,0,0,I,⟨(fun _=>I),J⟩,I,I,I,I,I,fun _ sg _ _=>aK I (qX 1 HD I I I)⟩,
   ⟨⟨[⟨30,fun _=>Z (al b 1),some 4⟩,⟨27,fun _=>K aU e1,some 1⟩],_,I,⟨(fun _=>I),(fun _=>I),J⟩,I,I,I,fun sg=>bL I (EffOK.fr1 (em er I (yK GD) I (M I) (M I)))⟩,
   J⟩⟩⟩⟩⟩⟩ (fun sg=>?_)
  refine(show RG _ _ _ _ [_,_,_,_] _ from ?_);exact ca 2 HC I<|cG er GC I<|co<|aQ I<|Q (bn (x:=(ap.mk ({root with L:=e1}:ap).Tag ({root with L:=e1}:ap).L e2 ({root with L:=e1}:ap).Col ({root with L:=e1}:ap).Value)) oD I I cg (.head _) (M I))<|Q (bI (r:=bK) (ys:=[(ap.mk ({root with L:=e1}:ap).Tag ({root with L:=e1}:ap).L e2 ({root with L:=e1}:ap).Col ({root with L:=e1}:ap).Value)]) (xs:=[.tmp 33]) vX oD I I I I I ⟨(M I),J⟩)<|cY<|cV h fun l2 q_l2 h=>uU oD I I I I vX I I (M I) (M I) q_l2 fun l3 c1=>Q (cQ (y:=(⟨l2⟩:aA)) cI O4 fx (⟨_,_,_,_,_,I,R6,I,(tv (M I)),I⟩))<|gw<|cG cI ak I<|a8 4 I<|fh<|aZ<|aZ<|aZ<|so h▸sN I cI I I I
 ·obtain⟨D,h⟩:=h
  refine fG D I<|aE<|am<|aQ I<|i9 rl cI I (d6 D)<|ba cI fx I fun b3=>lI I<|cG cI ak I<|a8 8 I<|co<|aE ?_;refine aO<|bC I<|d5 cI I<|cV h fun r q_r h=>uT [d bK 73 l1 c out] _ I abP (ZT l1 c _ _ q_r) ⟨(Bi (M I)),(M I),J⟩ I fun i1=>?_;refine(show RG _ _ _ _ [_,_,_,_] ((19,tO bK (i1.h 0).1 (i1.h 0).2 r)::_)from ?_);refine bP I<|aO<|bC I<|bC I<|Q (oc vX (tv (M I)))<|Q (qF (M I) hI)<|cV h fun e3 q_e3 h=>Q (pr Ce er (.tail _ (.tail _ (.tail _ (.head _)))) (M I) (M I) q_e3)<|jq<|cV h fun ar q_ar h=>Tc er I q_e3 (so q_ar) (M I) (M I)<|bu<|eP D hN I<|qa<|qa<|qa ?_;exact bl (aP (ih (i+1) r (i1.h 0).1 (i1.h 0).2 ar ⟨eg D,h⟩) (bO I))

def K5 root l{R}(h:rJ root l=some R):dZ aY 102 [K bK root,jo (ah) l] (tT [K ah R.1,br R.2]):=by
 refine fc Tryz.func102 I<|bA<|eA I<|ba cI fx I fun b=>dg<|co<|bN<|bC I<|dr rl I<|Q (bG hI)<|co<|am<|bE (k:=11) I fun hN=>cc ?_;refine aP (gY (tV:=fun ls i x=>(l.drop i=ls)/\nh root l ls x=some R) (Of:=fun _ i x=>[bx ah 76 b x]) (Gf:=fun _ i x=>[(1,jo (ah) l),(2,bt bK root),(4,Z (al b 0)),(11,jo (ah) l),(12,mY l),(13,br (i:Int))]) (fun i x h=>?_) (fun e tl ih i x h=>?_) l 0 tt ⟨I,h⟩) (bO I)
 ·obtain⟨D,h⟩:=h
  refine fH D I<|aC<|bA<|d5 oD I<|bC I<|jE h abV (Xe _ _) (gm I) fun r h=>ba cI fx I fun b1=>cG cI ak I<|a8 9 I<|co ?_;refine bN<|d5 cI I<|jE h Xz (KY _) (gm I) fun r1 h=>bP I<|aQ I<|mp I<|eK h I (fun h=>?_) (fun h=>?_)
  ·exact bA<|Q (cQ cI O4 fx I)<|bC I<|cG cI ak I<|bF I<|an<|dV 4 I<|so h▸o0 I I ⟨gC cI I I I,dq I,J⟩
  ·exact nG<|bA<|d5 cI I<|cG cI ak I<|iG<|dV 4 I<|so h▸o0 I I ⟨gC cI I I I,dq I,J⟩
 ·obtain⟨D,h⟩:=h
  refine fG D I<|aE<|am<|bA<|i9 rl cI I (d6 D)<|ba cI fx I fun b2=>cG cI ak I<|a8 7 I<|co<|bA<|d5 cI I ?_;refine jE h Xz (KY _) (gm I) fun r2 h=>bP I<|aQ I<|mp I<|eK h I (fun h=>?_) (fun h=>?_)
  ·exact bA<|Q (cQ cI O4 fx I)<|bC I<|cG cI ak I<|bF I<|ej<|an<|ej<|dV 4 I<|so h▸o0 I I ⟨gC cI I I I,dq I,J⟩
  ·refine ck<|eP D hN I ?_;exact bl (aP (ih (i+1) x ⟨eg D,h⟩) (bO I))

def Va n{R}(h:ud n=some R):dZ aY 77 [K bK n] (tT [K ah R.1,br R.2]):=by
 exact fc Tryz.func77 I<|bA<|eA I<|ba cI fx I fun b=>dg<|co<|bA<|d5 oD I<|jE h VA (K5 _ _) ⟨(M I),aaZ,J⟩ fun r h=>fI I I<|fI I I<|cG cI ak I<|a8 2 I<|bF I<|so h▸o0 I I ⟨gC cI I I I,dq I,J⟩

def Xp n{R}(h:bz n=some R):dZ aY 103 [K bK n] (tT [K ah R.1,br R.2]):=by
 exact fc Tryz.func103 I<|bA<|eA I<|ba cI fx I fun b=>dg<|co<|bA<|d5 oD I<|jE h abv (Va _) (gm I) fun r h=>fI I I<|fI I I<|cG cI ak I<|a8 2 I<|bF I<|so h▸o0 I I ⟨gC cI I I I,dq I,J⟩

set_option maxHeartbeats 4000000 in
def Z2(b:Nat)(ix:OI) s group{R}(h:gD s group=some R):eJ aY 104 [mb group,bt (rT (Z (al b 0))) ()] (dh b s ix) (fun _:OI=>yl R) (fun _=>(dh b s ix)):=by
 refine eJ.of Tryz.func104 I I I fun w0 S0=>?_;refine(show CG _ _ _ [bx (rH aD [(10,Y (ix.h 0).1 (ix.h 0).2 s.out.Tables.length),(11,Y (ix.h 1).1 (ix.h 1).2 s.out.Joins.length),(16,Y (ix.h 2).1 (ix.h 2).2 s.out.Keys.length),(17,Y (ix.h 3).1 (ix.h 3).2 s.out.Aggs.length),(18,Y (ix.h 4).1 (ix.h 4).2 s.out.Items.length),(22,Y (ix.h 5).1 (ix.h 5).2 s.kinds.length),(23,Y (ix.h 6).1 (ix.h 6).2 s.groups.length),(19,au (ix.h 7).2),(20,au (ix.h 8).2),(21,au (ix.h 9).2)]) 103 b s,d aU 3 (ix.h 0).1 (ix.h 0).2 s.out.Tables,d aM 115 (ix.h 1).1 (ix.h 1).2 s.out.Joins,d aU 3 (ix.h 2).1 (ix.h 2).2 s.out.Keys,d bg 119 (ix.h 3).1 (ix.h 3).2 s.out.Aggs,d ah 76 (ix.h 4).1 (ix.h 4).2 s.out.Items,d aU 3 (ix.h 5).1 (ix.h 5).2 s.kinds,d aU 3 (ix.h 6).1 (ix.h 6).2 s.groups,bQ lW ez (ix.h 7).2 none (ix.oss 0) s.called,bQ fq ez (ix.h 8).2 none (ix.oss 1) s.alone,eQ (fun y:Int=>br y) kj (ix.h 9).2 s.behind] _ from ?_);refine bA<|AE aU<|co<|bN<|bC I<|eK h I (fun h=>?_) (fun h=>?_)
 ·exact bA<|Q (uG TM (M I))<|Q (bZ (M I))<|ca 23 Ab I<|Q (fU ky I (.head _) (.tail _ (.tail _ (.tail _ (.tail _ (.tail _ (.tail _ (.tail _ (.head _)))))))) (M I))<|bF I<|an<|qb 3 I<|so h▸eZ I oA I I (fun _ _ h=>h)
 ·exact nG<|bA<|Q (uG TM (M I))<|Q (bZ (M I))<|ca 22 vx I<|Q (fU ky I (.head _) (.tail _ (.tail _ (.tail _ (.tail _ (.tail _ (.tail _ (.head _))))))) (M I))<|bF I<|qb 3 I<|so h▸eZ I oA I I (fun _ _ h=>h)

set_option maxHeartbeats 4000000 in
def Ya(b:Nat)(ix:OI) s n{R}(h:fZ s n=some R):eJ aY 75 [Z (al b 0),K cK n] (dh b s ix) (fun _:OI=>tT [br R.1,br R.2]) (fun _=>(dh b s ix)):=by
 refine eJ.of Tryz.func75 I I I fun w0 S0=>?_;refine(show CG _ _ _ [bx (rH aD [(10,Y (ix.h 0).1 (ix.h 0).2 s.out.Tables.length),(11,Y (ix.h 1).1 (ix.h 1).2 s.out.Joins.length),(16,Y (ix.h 2).1 (ix.h 2).2 s.out.Keys.length),(17,Y (ix.h 3).1 (ix.h 3).2 s.out.Aggs.length),(18,Y (ix.h 4).1 (ix.h 4).2 s.out.Items.length),(22,Y (ix.h 5).1 (ix.h 5).2 s.kinds.length),(23,Y (ix.h 6).1 (ix.h 6).2 s.groups.length),(19,au (ix.h 7).2),(20,au (ix.h 8).2),(21,au (ix.h 9).2)]) 103 b s,d aU 3 (ix.h 0).1 (ix.h 0).2 s.out.Tables,d aM 115 (ix.h 1).1 (ix.h 1).2 s.out.Joins,d aU 3 (ix.h 2).1 (ix.h 2).2 s.out.Keys,d bg 119 (ix.h 3).1 (ix.h 3).2 s.out.Aggs,d ah 76 (ix.h 4).1 (ix.h 4).2 s.out.Items,d aU 3 (ix.h 5).1 (ix.h 5).2 s.kinds,d aU 3 (ix.h 6).1 (ix.h 6).2 s.groups,bQ lW ez (ix.h 7).2 none (ix.oss 0) s.called,bQ fq ez (ix.h 8).2 none (ix.oss 1) s.alone,eQ (fun y:Int=>br y) kj (ix.h 9).2 s.behind] _ from ?_);refine bA<|eA I<|dg<|dg<|co<|bN<|cU KR z7 mT I<|Q (CL (M I) hS)<|eK h I (fun h=>?_) (fun h=>?_)
 ·refine aE ?_
  refine mn (ts:=[_,_,_,_,_,_,_,_,_,_,_]) mixed I I
   ⟨kO I I,
   ⟨mU 13 0 I I (bZ (M I)),
   ⟨mU 14 1 I I (qX 21 Q9 I I I),
   ⟨mU 15 2 I I (po XX I (.head _) (M I)),
   ⟨DF 3 I I (wx yd I I),
   ⟨ma 16 3 17 4 I I I (Mb (γ:=fun y:Int=>K aU y) (z:=(0:Int)) Tryz.underlying101 aaS zv3 (fun S=>⟨_,I,(fun _=>I) S⟩) (.tail _ (.tail _ (.tail _ (.tail _ (.tail _ (.tail _ (.tail _ (.tail _ (.tail _ (.tail _ (.head _))))))))))) (M I) (UM (p:=(n.Table,n.Name)) I (fun _ _ h=>aaU h) (M I))),
   ⟨mU 18 5 I I (jM I),
   ⟨mU 12 6 I I (Bd I I),
   ⟨mU 12 6 I I (Bd I I),
   ⟨mU 19 7 I I (IV I),
   ⟨mU 20 8 I I (IV I),
   J⟩⟩⟩⟩⟩⟩⟩⟩⟩⟩⟩ ?_
  refine aC<|bN<|bC I<|Q (m9 (M I))<|eK h I (fun h=>?_) (fun h=>?_)
  ·exact bA<|dg<|iG<|an<|an<|so h▸jn (ts:=[br 0,br 222]) (rvs:=[.tmp 4,.tmp 5]) I I ⟨dq I,dq I,J⟩ oA I I
  ·exact nG<|aQ I<|lI I<|iG<|an<|so h▸jn (ts:=[br ((fj s.behind (n.Table,n.Name)).getD (0:Int)),br 0]) (rvs:=[.tmp 4,.tmp 5]) I I ⟨dq I,dq I,J⟩ oA I I
 ·refine nG<|aE<|aE ?_
  refine mn (ts:=[_,_,_,_,_,_,_,_]) mixed I I
   ⟨kO I I,
   ⟨mU 24 0 I I (bZ (M I)),
   ⟨mU 25 1 I I (qX 20 KV I I I),
   ⟨mU 26 2 I I (po LB I (.head _) (M I)),
   ⟨DF 3 I I (AC U3 Eo I I),
   ⟨wc 4 mT I I,
   ⟨ma 27 3 29 5 I I I (OD Tryz.underlying100 (CT i6) aag (.tail _ (.tail _ (.tail _ (.tail _ (.tail _ (.tail _ (.tail _ (.tail _ (.tail _ (.head _)))))))))) (M I) (UL (M I))),
   ⟨mU 30 6 I I (IV I),
   J⟩⟩⟩⟩⟩⟩⟩⟩ ?_
  refine aC<|aQ I<|dr jL I<|co<|am<|bA<|jK I<|bP I<|u7 h I (fun h=>?_) (fun h=>?_)
  ·exact bA<|dg<|iG<|ej<|so h▸jn (ts:=[br 0,br 222]) (rvs:=[.tmp 4,.tmp 5]) I I ⟨dq I,dq I,J⟩ oA I I
  ·refine bA<|jK I<|bP I<|u7 h I (fun h=>?_) (fun h=>?_)
   ·exact aQ I<|cV h fun e q_e h=>Q (kC jL er I (M I) hI q_e)<|d5 er I<|lI I<|iG<|ej<|so h▸jn (ts:=[br e,br 0]) (rvs:=[.tmp 4,.tmp 5]) I I ⟨dq I,dq I,J⟩ oA I I
   ·exact ck<|bW<|aC<|bA<|dg<|iG<|so h▸jn (ts:=[br 0,br 223]) (rvs:=[.tmp 4,.tmp 5]) I I ⟨dq I,dq I,J⟩ oA I I

end Go.Proofs.YtigldkegamffhaaGreatDoor

