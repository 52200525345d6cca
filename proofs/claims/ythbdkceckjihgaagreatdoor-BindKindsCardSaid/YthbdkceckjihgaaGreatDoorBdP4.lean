/- cm of this claim: P4. -/
import Derived.Test.YthbdkceckjihgaaGreatDoorBdT
import Derived.Test.YthbdkceckjihgaaGreatDoorBdP3
set_option linter.all false
namespace Go.Proofs.YthbdkceckjihgaaGreatDoor
open Go
set_option maxRecDepth 100000

def T9 tag{R}(h:ud tag=some R):de aQ 63 [aW tag] (lx R):=by
 exact ec Tryz.func63 I<|bl<|cS<|bX<|aI I<|gv I<|bo I<|aM I (d7 I)<|aM I (fun hg=>iU (cC I hg) hI)<|aM I (sy I)<|fk I I I I (fun hg=>jr I)<|fk I I I I (fun hg=>nt (cC I hg) hI)<|aM I (fun hg=>kV (cC I hg) (fun H=>(cC I (tP hg H))))<|kf I<|a8 I<|so h▸aL I I

def Ua kinds n l{R}(h:iv kinds n l=some R):de aQ 62 [K bh n,qq l,aU UF kinds] (tT [aW R.1,aW R.2]):=by
 refine ec Tryz.func62 I<|bl<|d6 I<|cv<|cv<|bX<|bl<|cv<|bX<|bv<|bo I<|cR f8 I<|af (bL hI)<|bX<|aq<|aY (k:=12) I fun hN=>bO ?_;refine aO (jc (aA:=fun ls i own=>(l.drop i=ls)/\kE kinds n ls own=some R) (Of:=fun _ i own=>[]) (Gf:=fun _ i own=>[(2,aU UF kinds),(3,aU bh n),(7,aW own),(12,qq l),(13,kO l),(14,aW (i:Int))]) (fun i own h=>?_) (fun e tl ih i own h=>?_) l 0 (0:Int) ⟨I,h⟩) (bu I)
 ·obtain⟨D,h⟩:=h
  refine ea D I<|aJ<|aI I<|bw I<|bl<|cv<|bX ?_;refine aN<|aq<|bl<|bW pe jE da I<|gv I<|bw I<|sm h I (fun h=>?_) (fun h=>?_)
  ·exact bl<|sw BH qP I<|bW vP tp da I<|j3 I<|fN<|cQ<|so h▸eC I I I
  ·refine bl<|bW pe jE da I<|gv I<|bw I<|sm h I (fun h=>?_) (fun h=>?_)
   ·exact bl<|dk iC I<|bW tF mq da I<|cL h fun e1 q_e1 h=>gp f8 da I q_e1<|j3 I<|fN<|cQ<|so h▸eC I I I
   ·refine bl<|bW pe jE da I<|f9 h XL (T9 _) (dU I) fun r h=>bw I<|sm h I (fun h=>?_) (fun h=>?_)
    ·refine bd<|cv<|cv<|bR<|ca<|aJ<|bv<|bo I<|gv I<|bo I<|aM I (d7 I)<|aM I (AC I)<|aM I (sy I)<|fk I I I I (fun hg=>jr I)<|fk I I I I (fun hg=>jr I)<|fk I I I I (fun hg=>jh (cC I hg) (cC I hg))<|aM I (fun hg=>kV (cC I hg) (fun H=>(cC I (tP hg H))))<|kf I<|dl h I (fun h=>?_) (fun h=>?_)
     ·exact bl<|cv<|fN<|ai<|so h▸eC I I I
     ·exact lW<|aI I<|j3 I<|fN<|so h▸eC I I I
    ·refine bl<|bW pe jE da I<|gv I<|bo I<|aM I (dF pe jE I I)<|aM I (di da I I)<|aM I (nD I)<|kf I<|bo I<|aM I (dF pe jE I I)<|aM I (di da I I)<|aM I (nD I)<|kf I<|bw I<|sm h I (fun h=>?_) (fun h=>?_)
     ·refine bd<|cv<|bR<|ca<|aJ<|bv<|bo I<|gv I<|bo I<|aM I (d7 I)<|aM I (AC I)<|aM I (sy I)<|fk I I I I (fun hg=>jr I)<|fk I I I I (fun hg=>jr I)<|fk I I I I (fun hg=>jh (cC I hg) (cC I hg))<|aM I (fun hg=>kV (cC I hg) (fun H=>(cC I (tP hg H))))<|kf I<|dl h I (fun h=>?_) (fun h=>?_)
      ·exact bl<|cv<|fN<|ai<|so h▸eC I I I
      ·exact lW<|aI I<|j3 I<|fN<|so h▸eC I I I
     ·refine bT<|ca<|aJ<|bv<|bo I<|gv I<|bo I<|aM I (d7 I)<|aM I (AC I)<|aM I (sy I)<|fk I I I I (fun hg=>jr I)<|fk I I I I (fun hg=>jr I)<|fk I I I I (fun hg=>jh (cC I hg) (cC I hg))<|aM I (fun hg=>kV (cC I hg) (fun H=>(cC I (tP hg H))))<|kf I<|dl h I (fun h=>?_) (fun h=>?_)
      ·exact bl<|cv<|fN<|ai<|so h▸eC I I I
      ·exact lW<|aI I<|j3 I<|fN<|so h▸eC I I I
 ·obtain⟨D,h⟩:=h
  refine d9 D I<|aN<|aq<|bl<|gp f8 da I (ei D)<|bw I<|aq<|aI I<|gv I ?_;refine bo I<|aM I (d7 I)<|aM I (d7 I)<|aM I (fun hg=>nd (cC I hg) (cC I hg))<|kf I<|bw I<|sm h I (fun h=>?_) (fun h=>?_)
  ·refine bT<|ca<|dQ D hN I ?_;exact bf (aO (ih (i+1) own ⟨dJ D,h⟩) (bu I))
  ·refine aI I<|gv I<|bw I<|sm h I (fun h=>?_) (fun h=>?_)
   ·refine bd<|bo I<|j3 I<|bR<|ca<|dQ D hN I ?_;exact bf (aO (ih (i+1) e ⟨dJ D,h⟩) (bu I))
   ·refine bd<|cv<|bR<|ca<|dQ D hN I ?_;exact bf (aO (ih (i+1) j4 ⟨dJ D,h⟩) (bu I))

def xu e kinds{R}(h:lC e kinds=some R):de aQ 19 [K ae e,qq kinds] (tT [aW R.1,aW R.2]):=by
 refine ec Tryz.func19 I<|bl<|d6 I<|d6 I<|cv<|cv<|bX<|bv<|dk ci I<|f9 h RZ (Gp _) (dU I) fun r h=>bw I<|aI I<|iY I<|bX ?_;refine sm h I (fun h=>?_) (fun h=>?_)
 ·exact aI I<|cv<|a8 I<|ai<|so h▸eC I I I
 ·refine lW<|bv<|dk iC I<|cR f8 I<|af (bL hI)<|bX<|aq<|aY (k:=16) I fun hN=>bO ?_;refine aO (fU (aA:=fun ls i=>(kinds.drop i=ls)/\oj e kinds ls=some R) (Of:=fun _ i=>[]) (Gf:=fun _ i=>[(2,aU ae e),(3,aU UF kinds),(16,qq kinds),(17,kO kinds),(18,aW (i:Int))]) (fun i h=>?_) (fun e1 tl ih i h=>?_) kinds 0 ⟨I,h⟩) (bu I)
  ·obtain⟨D,h⟩:=h
   refine ea D I<|aJ<|bv<|dk ci I<|KI h XO (Q4 _) (dU I) fun r1 h l c=>af (fW f8 (.head _) (M I))<|af (bL hI)<|bX<|aq ?_;refine lm (.head _) fun hN1=>bO ?_;refine aO (fU (aA:=fun ls1 i1=>(r1.drop i1=ls1)/\kZ e kinds ls1=some R) (Of:=fun _ i1=>[fq Q 3 l c r1]) (Gf:=fun _ i1=>[(2,aU ae e),(3,aU UF kinds),(30,rW l c r1),(31,kO r1),(32,aW (i1:Int))]) (fun i1 h=>?_) (fun e2 tl1 ih1 i1 h=>?_) r1 0 ⟨I,h⟩) (bu I)
   ·obtain⟨hx1,h⟩:=h
    refine ea hx1 I<|aJ<|bl<|dk ci I<|af ((show bM _ _ _ _ ((gn aQ Ql Qk (fun(x:ap×(List Int))=>(iv kinds) x.1 x.2)))from mg (cts:=[aU UF kinds]) (caps:=[.tmp 3]) XM ⟨(M I),J⟩ (fun x y h=>Ua _ _ _ h)))<|f9 h XN (Ub _ _) (dU I) fun r2 h=>dE I I<|dE I I<|j3 I<|j3 I<|bR ?_;exact aJ<|xH<|aP<|so h▸eC I I I
   ·obtain⟨hx1,h⟩:=h
    refine d9 hx1 I<|aN<|aq<|bl<|af (bU f8 da (.head _) (M I) (M I) (ei hx1))<|af (dd (r:=Q) (i:=(i1:Int)) (foff:=0) da I I cr I (.head _) (ei hx1) (M I))<|bw I<|aI I<|dk iC I<|cR f8 I ?_;refine af (iU (M I) (M I))<|dl h I (fun h=>?_) (fun h=>?_)
    ·exact bl<|cv<|fN<|cQ<|ai<|cQ<|aP<|so h▸eC I I I
    ·refine bT<|dQ hx1 hN1 I ?_;exact bf (aO (ih1 (i1+1) ⟨dJ hx1,h⟩) (bu I))
  ·obtain⟨D,h⟩:=h
   refine d9 D I<|aN<|aq<|bl<|gp f8 da I (ei D)<|bw I<|aI I<|af (ir (M I) hI)<|bo I ?_;refine aM I (d7 I)<|aM I (fun hg=>jA (cC I hg) hI)<|kf I<|dl h I (fun h=>?_) (fun h=>?_)
   ·exact bl<|cv<|fN<|cQ<|ai<|cQ<|so h▸eC I I I
   ·refine bT<|dQ D hN I ?_;exact bf (aO (ih (i+1) ⟨dJ D,h⟩) (bu I))

def Ph{R}(h:nh=some R):de aQ 76 [] (zw (fun y:Int=>aW y) pV R):=by
 exact ec Tryz.func76 I<|bl<|af (ck (show aC _ _ (.const (.map none)) (tV (.map none))from fun _ _ _=>I))<|bX<|bl<|xy (F4 (fun y:Int=>aW y)) pV I fun b=>y0 (γ:=(fun y:Int=>aW y)) (y:=(1:Int)) BW (tg uv) (M I) (JF hI) hI fun os=>y0 (γ:=(fun y:Int=>aW y)) (y:=(2:Int)) BW (tg uv) (M I) (JF hI) hI fun os1=>y0 (γ:=(fun y:Int=>aW y)) (y:=(3:Int)) BW (tg uv) (M I) (JF hI) hI fun os2=>y0 (γ:=(fun y:Int=>aW y)) (y:=(4:Int)) BW (tg uv) (M I) (JF hI) hI fun os3=>y0 (γ:=(fun y:Int=>aW y)) (y:=(5:Int)) BW (tg uv) (M I) (JF hI) hI fun os4=>bo I<|a8 I<|IQ 0 I<|so h▸aL I I

def Ul(l:Option Nat)(c:Nat) out e{R}(h:vQ out e=some R):ek aQ 235 [rW l c out,K ae e] [Z bh 106 l c out] (fun i:OI=>tO bh (i.h 0).1 (i.h 0).2 R) (fun i=>[Z bh 106 (i.h 0).1 (i.h 0).2 R]):=by
 refine ek.of Tryz.func235 I I I fun w0 S0=>PV 0 I<|bl<|d6 I<|cu false bh 106<|af (ck zR)<|bX<|aI I<|af (mh qr (pZ (M I)))<|bw I<|bv<|bW si lB DX I<|cR qr I<|af (bL hI)<|bR ?_;refine aJ<|aq<|aY (k:=11) I fun hN=>bO<|zc ?_;refine aO (mC (aA:=fun ls i out1 l1 c1=>(e.Nodes.drop i=ls)/\ig out ls out1=some R) (Of:=fun _ i out1 l1 c1=>[Z bh 106 l1 c1 out1]) (Gf:=fun _ i out1 l1 c1=>[(0,tO bh l1 c1 out1),(5,kO out),(11,hM (bh) e.Nodes),(12,kO e.Nodes),(13,aW (i:Int))]) (fun i out1 l1 c1 h=>?_) (fun e1 tl ih i out1 l1 c1 h=>?_) e.Nodes 0 out l c ⟨I,h⟩) (bu I)
 ·obtain⟨D,h⟩:=h
  exact ea D I<|aJ<|aI I<|a8 I<|so h▸dK I (oi l1 c1) I I (fun _ _ h=>h)
 ·obtain⟨D,h⟩:=h
  refine d9 D I<|aN<|aq<|bl<|gp qr iD I (ei D)<|aV iD mZ I fun b=>cn iD al I<|bX ?_;refine lF (aA:=fun n=>oh out (ig out tl) out1 n=some R) (Of:=fun n=>[Z bh 106 l1 c1 out1,bx bh 106 b n]) (Gf:=fun n=>[(0,tO bh l1 c1 out1),(5,kO out),(7,tV (ak b 0)),(11,hM (bh) e.Nodes),(12,kO e.Nodes),(13,aW (i:Int))]) (fun n h=>?_) (fun tD=>?_)
  ·skip
   refine lF (aA:=fun n1=>oe (ig out tl) out1 n1=some R) (Of:=fun n1=>[Z bh 106 l1 c1 out1,bx bh 106 b n1]) (Gf:=fun n1=>[(0,tO bh l1 c1 out1),(5,kO out),(7,tV (ak b 0)),(11,hM (bh) e.Nodes),(12,kO e.Nodes),(13,aW (i:Int))]) (fun n1 h=>?_) (fun K1=>?_)
   ·skip
    refine bd<|bo I<|af (bz iD I I cr (.tail _ (.head _)) (M I))<|af (aZ (r:=bh) (ys:=[n1]) (xs:=[.tmp 34]) qr iD I I I I I ⟨(M I),J⟩)<|cL h fun out2 q_out2 h=>qV iD I I I I qr I I (M I) (M I) q_out2 fun l2 c2=>j3 I<|bR<|dQ D hN I<|d5<|aP ?_;exact bf (aO (ih (i+1) out2 l2 c2 ⟨dJ D,h⟩) (bu I))
   ·skip
    refine bl<|bF 2 yM I<|af (bz da I I tu (.tail _ (.head _)) (M I))<|af (iU (M I) hI)<|dl h I (fun h=>?_) (fun h=>?_)
    ·refine bd<|bF 2 yM I<|af (bz da I I tu (.tail _ (.head _)) (M I))<|bo I<|af (oM (M I) (M I))<|bF 2 yM I<|dx<|cn da Cp I<|bR<|d5 ?_;exact cP (K1 (ap.mk n.Tag n.L (IntKind.i64.wrap (n.R+(out.length:Int))) n.Col n.Value) h) (bu I)
    ·refine bT ?_;exact cP (K1 n h) (bu I)
  ·skip
   refine bl<|bF 1 yN I<|af (bz da I I tv (.head _) (M I))<|af (iU (M I) hI)<|dl h I (fun h=>?_) (fun h=>?_)
   ·refine bd<|bF 1 yN I<|af (bz da I I tv (.head _) (M I))<|bo I<|af (oM (M I) (M I))<|bF 1 yN I<|cn da Cq I<|bR<|d5 ?_;exact cP (tD (ap.mk e1.Tag (IntKind.i64.wrap (e1.L+(out.length:Int))) e1.R e1.Col e1.Value) h) (bu I)
   ·refine bT<|d5 ?_;exact cP (tD e1 h) (bu I)

def Rl root l{R}(h:jX root l=some R):de aQ 214 [K bh root,hM (ae) l] (K ae R):=by
 refine ec Tryz.func214 I<|bl<|BJ (M I) I fun b=>aV ci eb I fun b1=>bX<|bl<|cu false bh 106<|af (ck zR)<|bX<|bl<|af (qj (r:=Q) (ys:=[j4,j4]) (xs:=[.const (.int .i64 (-1)),.const (.int .i64 (-1))]) BM da I FI I I ⟨hI,hI,J⟩)<|aV (r:=Fy) (x:=(List.replicate 2 (0:Int))) FI (fun _=>Iy (r:=Q) 2 (fun _=>I) _) I fun b2=>cn FI al I<|bX<|bv<|bo I ?_;refine cR pH I<|af (bL hI)<|bX<|aq<|aY (k:=10) I fun hN=>bO<|gZ<|NC<|PS 5 I<|gZ<|lE<|sP<|sP ?_;refine aO (DF (aA:=fun ls i out l1 c at1=>(l.drop i=ls)/\gC root ls i out at1=some R) (Of:=fun _ i out l1 c at1=>[Z bh 106 l1 c out,bx bh 106 b root,bx ae 62 b1 pW,bx Fy 80 b2 at1]) (Gf:=fun _ i out l1 c at1=>[(2,tV (ak b 0)),(4,tV (ak b1 0)),(5,tO bh l1 c out),(6,tV (ak b2 0)),(10,hM (ae) l),(11,kO l),(12,aW (i:Int))]) (fun i out l1 c at1 h=>?_) (fun e tl ih i out l1 c at1 h=>?_) l 0 ([]:List ap) none 0 ([j4,j4]) ⟨I,h⟩) (bu I)
 ·obtain⟨D,h⟩:=h
  refine ea D I<|aJ<|aN<|cL h fun e1 q_e1 h=>cL h fun e2 q_e2 h=>?_
  refine fm 6 [tc (tV (ak b2 ((0:Int).toNat*1))),tc (aW e1),tc (tV (ak b2 ((1:Int).toNat*1))),tc (aW e2),tc (tV (ak b 1)),tc (rY)] [false,false,false,false,false,true] [fun _=>[Z bh 106 l1 c out,bx bh 106 b root,bx ae 62 b1 pW,bx Fy 80 b2 at1],fun sg=>[bx bh 106 b ({root with L:=e1}:ap),Z bh 106 l1 c out,bx ae 62 b1 pW,bx Fy 80 b2 at1]] I mixed I I I I I
   ⟨⟨[⟨6,fun _=>tV (ak b2 0),none⟩],_,0,0,I,⟨(fun _=>I),J⟩,I,I,I,I,I,eY (fun sg=>aE I (m6 BM da (.tail _ (.tail _ (.tail _ (.head _)))) (M I) hI q_e1))⟩,
   ⟨⟨[⟨26,fun _=>tV (ak b2 ((0:Int).toNat*1)),some 0⟩],_,0,0,I,⟨(fun _=>I),J⟩,I,I,I,I,I,eY (fun sg=>aE I (CF da I I (.tail _ (.tail _ (.tail _ (.head _)))) q_e1 (M I)))⟩,
   ⟨⟨[⟨6,fun _=>tV (ak b2 0),none⟩],_,0,1,I,⟨(fun _=>I),J⟩,I,I,I,I,I,qx (fun sg=>aE I (m6 BM da (.tail _ (.tail _ (.tail _ (.head _)))) (M I) hI q_e2)) (eY (fun sg=>aE I (m6 BM da (.tail _ (.tail _ (.tail _ (.head _)))) (M I) hI q_e2)))⟩,
   ⟨⟨[⟨28,fun _=>tV (ak b2 ((1:Int).toNat*1)),some 2⟩],_,0,1,I,⟨(fun _=>I),J⟩,I,I,I,I,I,qx (fun sg=>aE I (CF da I I (.tail _ (.tail _ (.tail _ (.head _)))) q_e2 (M I))) (eY (fun sg=>aE I (CF da I I (.tail _ (.tail _ (.tail _ (.head _)))) q_e2 (M I))))⟩,
   ⟨⟨[⟨2,fun _=>tV (ak b 0),none⟩],_,0,0,I,⟨(fun _=>I),J⟩,I,I,I,I,I,fun _ sg _ _=>aE I (oy 1 yN I I I)⟩,
   ⟨⟨[⟨30,fun _=>tV (ak b 1),some 4⟩,⟨27,fun _=>K Q e1,some 1⟩],_,I,⟨(fun _=>I),(fun _=>I),J⟩,I,I,I,fun sg=>bJ I (EffOK.fr1 (dB da I (uI Cq) I (M I) (M I)))⟩,
   J⟩⟩⟩⟩⟩⟩ (fun sg=>?_)
  refine(show RG _ _ _ _ [_,_,_,_] _ from ?_);exact bF 2 yM I<|cn da Cp I<|bX<|aI I<|af (bz (x:=(ap.mk ({root with L:=e1}:ap).Tag ({root with L:=e1}:ap).L e2 ({root with L:=e1}:ap).Col ({root with L:=e1}:ap).Value)) iD I I cr (.head _) (M I))<|af (aZ (r:=bh) (ys:=[(ap.mk ({root with L:=e1}:ap).Tag ({root with L:=e1}:ap).L e2 ({root with L:=e1}:ap).Col ({root with L:=e1}:ap).Value)]) (xs:=[.tmp 33]) qr iD I I I I I ⟨(M I),J⟩)<|dx<|cL h fun l2 q_l2 h=>qV iD I I I I qr I I (M I) (M I) q_l2 fun l3 c1=>af (co (y:=(⟨l2⟩:aB)) ci JK eb (⟨_,_,_,_,_,I,Mt,I,(pZ (M I)),I⟩))<|jR<|cn ci al I<|aS 4 I<|fR<|aP<|aP<|aP<|so h▸q9 I ci I I I
 ·obtain⟨D,h⟩:=h
  refine d9 D I<|aN<|aq<|aI I<|gp pH ci I (ei D)<|aV ci eb I fun b3=>j3 I<|cn ci al I<|aS 8 I<|bX<|aN ?_;refine bd<|bo I<|dk ci I<|cL h fun r q_r h=>y8 [Z bh 106 l1 c out] _ I VW (Ul l1 c _ _ q_r) ⟨(wT (M I)),(M I),J⟩ I fun i1=>?_;refine(show RG _ _ _ _ [_,_,_,_] ((19,tO bh (i1.h 0).1 (i1.h 0).2 r)::_)from ?_);refine bw I<|bd<|bo I<|bo I<|af (mh qr (pZ (M I)))<|af (nr (M I) hI)<|cL h fun e3 q_e3 h=>af (m6 BM da (.tail _ (.tail _ (.tail _ (.head _)))) (M I) (M I) q_e3)<|oY<|cL h fun ar q_ar h=>Nw da I q_e3 (so q_ar) (M I) (M I)<|bR<|dQ D hN I<|nN<|nN<|nN ?_;exact bf (aO (ih (i+1) r (i1.h 0).1 (i1.h 0).2 ar ⟨dJ D,h⟩) (bu I))

def Gr root l{R}(h:oU root l=some R):de aQ 175 [K bh root,hM (ae) l] (tT [K ae R.1,aW R.2]):=by
 refine ec Tryz.func175 I<|bl<|d6 I<|aV ci eb I fun b=>cv<|bX<|bv<|bo I<|cR pH I<|af (bL hI)<|bX<|aq<|aY (k:=11) I fun hN=>bO ?_;refine aO (jc (aA:=fun ls i x=>(l.drop i=ls)/\kY root l ls x=some R) (Of:=fun _ i x=>[bx ae 62 b x]) (Gf:=fun _ i x=>[(1,hM (ae) l),(2,aU bh root),(4,tV (ak b 0)),(11,hM (ae) l),(12,kO l),(13,aW (i:Int))]) (fun i x h=>?_) (fun e tl ih i x h=>?_) l 0 pW ⟨I,h⟩) (bu I)
 ·obtain⟨D,h⟩:=h
  refine ea D I<|aJ<|bl<|dk iD I<|bo I<|f9 h V2 (Rl _ _) (dU I) fun r h=>aV ci eb I fun b1=>cn ci al I<|aS 9 I<|bX ?_;refine bv<|dk ci I<|f9 h RZ (Gp _) (dU I) fun r1 h=>bw I<|aI I<|iY I<|dl h I (fun h=>?_) (fun h=>?_)
  ·exact bl<|af (co ci JK eb I)<|bo I<|cn ci al I<|a8 I<|ai<|dm 4 I<|so h▸mQ I I ⟨eS ci I I I,cD I,J⟩
  ·exact lW<|bl<|dk ci I<|cn ci al I<|fN<|dm 4 I<|so h▸mQ I I ⟨eS ci I I I,cD I,J⟩
 ·obtain⟨D,h⟩:=h
  refine d9 D I<|aN<|aq<|bl<|gp pH ci I (ei D)<|aV ci eb I fun b2=>cn ci al I<|aS 7 I<|bX<|bl<|dk ci I ?_;refine f9 h RZ (Gp _) (dU I) fun r2 h=>bw I<|aI I<|iY I<|dl h I (fun h=>?_) (fun h=>?_)
  ·exact bl<|af (co ci JK eb I)<|bo I<|cn ci al I<|a8 I<|cQ<|ai<|cQ<|dm 4 I<|so h▸mQ I I ⟨eS ci I I I,cD I,J⟩
  ·refine bT<|dQ D hN I ?_;exact bf (aO (ih (i+1) x ⟨dJ D,h⟩) (bu I))

def Lw n{R}(h:ql n=some R):de aQ 142 [K bh n] (tT [K ae R.1,aW R.2]):=by
 exact ec Tryz.func142 I<|bl<|d6 I<|aV ci eb I fun b=>cv<|bX<|bl<|dk iD I<|f9 h PD (Gr _ _) ⟨(M I),Vp,J⟩ fun r h=>dE I I<|dE I I<|cn ci al I<|aS 2 I<|a8 I<|so h▸mQ I I ⟨eS ci I I I,cD I,J⟩

def Ru n{R}(h:bm n=some R):de aQ 176 [K bh n] (tT [K ae R.1,aW R.2]):=by
 exact ec Tryz.func176 I<|bl<|d6 I<|aV ci eb I fun b=>cv<|bX<|bl<|dk iD I<|f9 h SE (Lw _) (dU I) fun r h=>dE I I<|dE I I<|cn ci al I<|aS 2 I<|a8 I<|so h▸mQ I I ⟨eS ci I I I,cD I,J⟩

set_option maxHeartbeats 4000000 in
def Up(b:Nat)(ix:OI) s group{R}(h:eU s group=some R):ek aQ 177 [lx group,aU (rT (tV (ak b 0))) ()] (cx b s ix) (fun _:OI=>qq R) (fun _=>(cx b s ix)):=by
 refine ek.of Tryz.func177 I I I fun w0 S0=>?_;refine(show CG _ _ _ [bx (rH ax (z10 ix s)) 127 b s,Z Q 3 (ix.h 0).1 (ix.h 0).2 s.out.Tables,Z aD 71 (ix.h 1).1 (ix.h 1).2 s.out.Joins,Z Q 3 (ix.h 2).1 (ix.h 2).2 s.out.Keys,Z aR 73 (ix.h 3).1 (ix.h 3).2 s.out.Aggs,Z ae 62 (ix.h 4).1 (ix.h 4).2 s.out.Items,Z Q 3 (ix.h 5).1 (ix.h 5).2 s.kinds,Z Q 3 (ix.h 6).1 (ix.h 6).2 s.groups,br ke dn (ix.h 7).2 none (ix.oss 0) s.called,br dV dn (ix.h 8).2 none (ix.oss 1) s.alone,dG (fun y:Int=>aW y) iX (ix.h 9).2 s.behind] _ from ?_);refine bl<|sx Q<|bX<|bv<|bo I<|dl h I (fun h=>?_) (fun h=>?_)
 ·exact bl<|af (qG He (M I))<|af (bB (M I))<|bF 23 vN I<|af (eg iC I (.head _) (.tail _ (.tail _ (.tail _ (.tail _ (.tail _ (.tail _ (.tail _ (.head _)))))))) (M I))<|a8 I<|ai<|lG 3 I<|so h▸dK I nQ I I (fun _ _ h=>h)
 ·exact lW<|bl<|af (qG He (M I))<|af (bB (M I))<|bF 22 rE I<|af (eg iC I (.head _) (.tail _ (.tail _ (.tail _ (.tail _ (.tail _ (.tail _ (.head _))))))) (M I))<|a8 I<|lG 3 I<|so h▸dK I nQ I I (fun _ _ h=>h)

set_option maxHeartbeats 4000000 in
def Pn(b:Nat)(ix:OI) s n{R}(h:iK s n=some R):ek aQ 141 [tV (ak b 0),K eH n] (cx b s ix) (fun _:OI=>tT [aW R.1,aW R.2]) (fun _=>(cx b s ix)):=by
 refine ek.of Tryz.func141 I I I fun w0 S0=>?_;refine(show CG _ _ _ [bx (rH ax (z10 ix s)) 127 b s,Z Q 3 (ix.h 0).1 (ix.h 0).2 s.out.Tables,Z aD 71 (ix.h 1).1 (ix.h 1).2 s.out.Joins,Z Q 3 (ix.h 2).1 (ix.h 2).2 s.out.Keys,Z aR 73 (ix.h 3).1 (ix.h 3).2 s.out.Aggs,Z ae 62 (ix.h 4).1 (ix.h 4).2 s.out.Items,Z Q 3 (ix.h 5).1 (ix.h 5).2 s.kinds,Z Q 3 (ix.h 6).1 (ix.h 6).2 s.groups,br ke dn (ix.h 7).2 none (ix.oss 0) s.called,br dV dn (ix.h 8).2 none (ix.oss 1) s.alone,dG (fun y:Int=>aW y) iX (ix.h 9).2 s.behind] _ from ?_);refine bl<|d6 I<|cv<|cv<|bX<|bv<|bW O6 z2 nR I<|af (BA (M I) hS)<|dl h I (fun h=>?_) (fun h=>?_)
 ·refine aN ?_
  refine lU (ts:=[_,_,_,_,_,_,_,_,_,_,_]) mixed I I
   ⟨oz I I,
   ⟨ly 13 0 I I (bB (M I)),
   ⟨ly 14 1 I I (oy 21 Ls I I I),
   ⟨ly 15 2 I I (m5 Sm I (.head _) (M I)),
   ⟨AA 3 I I (sX zr I I),
   ⟨nP 16 3 17 4 I I I (HH (γ:=fun y:Int=>K Q y) (z:=(0:Int)) Tryz.underlying125 Vk WP (fun S=>⟨_,I,(fun _=>I) S⟩) (.tail _ (.tail _ (.tail _ (.tail _ (.tail _ (.tail _ (.tail _ (.tail _ (.tail _ (.tail _ (.head _))))))))))) (M I) (OT (p:=(n.Table,n.Name)) I (fun _ _ h=>Vm h) (M I))),
   ⟨ly 18 5 I I (jr I),
   ⟨ly 12 6 I I (wd I I),
   ⟨ly 12 6 I I (wd I I),
   ⟨ly 19 7 I I (DN I),
   ⟨ly 20 8 I I (DN I),
   J⟩⟩⟩⟩⟩⟩⟩⟩⟩⟩⟩ ?_
  refine aJ<|bv<|bo I<|af (mT (M I))<|dl h I (fun h=>?_) (fun h=>?_)
  ·exact bl<|cv<|fN<|ai<|ai<|so h▸gF (ts:=[aW 0,aW 222]) (rvs:=[.tmp 4,.tmp 5]) I I ⟨cD I,cD I,J⟩ nQ I I
  ·exact lW<|aI I<|j3 I<|fN<|ai<|so h▸gF (ts:=[aW ((fD s.behind (n.Table,n.Name)).getD (0:Int)),aW 0]) (rvs:=[.tmp 4,.tmp 5]) I I ⟨cD I,cD I,J⟩ nQ I I
 ·refine lW<|aN<|aN ?_
  refine lU (ts:=[_,_,_,_,_,_,_,_]) mixed I I
   ⟨oz I I,
   ⟨ly 24 0 I I (bB (M I)),
   ⟨ly 25 1 I I (oy 20 Gl I I I),
   ⟨ly 26 2 I I (m5 Hd I (.head _) (M I)),
   ⟨AA 3 I I (wP O5 z1 I I),
   ⟨zp 4 nR I I,
   ⟨nP 27 3 29 5 I I I (Jw Tryz.underlying124 (yy hY) UN (.tail _ (.tail _ (.tail _ (.tail _ (.tail _ (.tail _ (.tail _ (.tail _ (.tail _ (.head _)))))))))) (M I) (OS (M I))),
   ⟨ly 30 6 I I (DN I),
   J⟩⟩⟩⟩⟩⟩⟩⟩ ?_
  refine aJ<|aI I<|cR f8 I<|bX<|aq<|bl<|gv I<|bw I<|sm h I (fun h=>?_) (fun h=>?_)
  ·exact bl<|cv<|fN<|cQ<|so h▸gF (ts:=[aW 0,aW 222]) (rvs:=[.tmp 4,.tmp 5]) I I ⟨cD I,cD I,J⟩ nQ I I
  ·refine bl<|gv I<|bw I<|sm h I (fun h=>?_) (fun h=>?_)
   ·exact aI I<|cL h fun e q_e h=>af (ic f8 da I (M I) hI q_e)<|dk da I<|j3 I<|fN<|cQ<|so h▸gF (ts:=[aW e,aW 0]) (rvs:=[.tmp 4,.tmp 5]) I I ⟨cD I,cD I,J⟩ nQ I I
   ·exact bT<|ca<|aJ<|bl<|cv<|fN<|so h▸gF (ts:=[aW 0,aW 223]) (rvs:=[.tmp 4,.tmp 5]) I I ⟨cD I,cD I,J⟩ nQ I I

end Go.Proofs.YthbdkceckjihgaaGreatDoor

