/- cm of this claim: P3. -/
import Derived.Test.YthbdkceckjihgaaGreatDoorBdT
import Derived.Test.YthbdkceckjihgaaGreatDoorBdP2
set_option linter.all false
namespace Go.Proofs.YthbdkceckjihgaaGreatDoor
open Go
set_option maxRecDepth 100000

set_option maxHeartbeats 4000000 in
def VF(b:Nat)(ix:OI) s{R}(h:gj s=some R):ek aQ 93 [tV (ak b 0)] (cx b s ix) (fun _:OI=>aW R.1) (fun j=>cx b R.2 j):=by
 refine ek.of Tryz.func93 I I I fun w0 S0=>?_;refine(show CG _ _ _ [bx (rH ax (z10 ix s)) 127 b s,Z Q 3 (ix.h 0).1 (ix.h 0).2 s.out.Tables,Z aD 71 (ix.h 1).1 (ix.h 1).2 s.out.Joins,Z Q 3 (ix.h 2).1 (ix.h 2).2 s.out.Keys,Z aR 73 (ix.h 3).1 (ix.h 3).2 s.out.Aggs,Z ae 62 (ix.h 4).1 (ix.h 4).2 s.out.Items,Z Q 3 (ix.h 5).1 (ix.h 5).2 s.kinds,Z Q 3 (ix.h 6).1 (ix.h 6).2 s.groups,br ke dn (ix.h 7).2 none (ix.oss 0) s.called,br dV dn (ix.h 8).2 none (ix.oss 1) s.alone,dG (fun y:Int=>aW y) iX (ix.h 9).2 s.behind] _ from ?_);refine bl<|cv<|bX<|aI I<|af (bB (M I))<|bF 24 tE I<|ik (dB da I (wt (hs' :=(z10 ix s)) oI ⟨.inr ⟨I,I⟩,.inr ⟨I,I⟩,.inr ⟨I,I⟩,.inr ⟨I,I⟩,.inr ⟨I,I⟩,.inr ⟨I,I⟩,.inr ⟨I,I⟩,.inr ⟨I,I⟩,.inr ⟨I,I⟩,.inr ⟨I,I⟩,J⟩ I) I (M I) hI) fun i=>?_;refine(show RG _ _ _ _ [_,_,_,_,_,_,_,_,_,_,_] _ from ?_);refine bX<|aI I<|bo I<|af (bB (M I))<|bF 1 lQ I<|bF 4 Pc I<|af (bz (r:=rH ax (z10 ix s)) (x:=({s with at_:=(0:Int)}:ac)) Mg I I (qb (fg gB AQ)) (.head _) (M I))<|cL h fun r q_r h=>mW (iH (xs:=[.tmp 6,.tmp 11]) (ts:=[tV (ak b 0),K gc ((({s with at_:=(0:Int)}:ac).from_).From)]) (cx b ({s with at_:=(0:Int)}:ac) ix) _ I SG (Po b ix ({s with at_:=(0:Int)}:ac) _ q_r) ⟨(M I),(M I),J⟩ (fun _=>I)) I fun i1=>?_;refine(show RG _ _ _ _ [_,_,_,_,_,_,_,_,_,_,_] ((12,aW r.1)::_)from ?_);exact a8 I<|so h▸dK I i1 I I (fun _ _ h=>h)

def LB tag{R}(h:oT tag=some R):de aQ 119 [aW tag] (aW R):=by
 refine ec Tryz.func119 I<|bl<|cv<|bX<|aN<|aq<|aI I<|gv I<|bo I<|aM I (d7 I)<|aM I (nD I)<|kf I<|bw I<|sm h I (fun h=>?_) (fun h=>?_)
 ·exact bl<|fN<|cQ<|so h▸aL I I
 ·refine aI I<|af (iU (M I) hI)<|bo I<|aG I (d7 I)<|aG I (fun hg=>nt (cC I hg) hI)<|im I<|bw I<|sm h I (fun h=>?_) (fun h=>?_)
  ·exact bl<|fN<|cQ<|so h▸aL I I
  ·refine aI I<|af (iU (M I) hI)<|bo I<|aG I (d7 I)<|aG I (fun hg=>nt (cC I hg) hI)<|im I<|bw I<|sm h I (fun h=>?_) (fun h=>?_)
   ·exact bl<|fN<|cQ<|so h▸aL I I
   ·exact bT<|ca<|aJ<|bl<|fN<|so h▸aL I I

def RC n{R}(h:rF n=some R):de aQ 155 [K bh n] (lx R):=by
 refine ec Tryz.func155 I<|bl<|d6 I<|cS<|bX<|bv<|bW pe jE da I<|bX<|aq<|bl<|gv I<|bw I<|sm h I (fun h=>?_) (fun h=>?_)
 ·exact bl<|bW BH qP po I<|f9 h SC (Lv _) (dU I) fun r h=>bo I<|aG I (dF tF mq I I)<|aG I (di da I I)<|aG I (nD I)<|im I<|a8 I<|cQ<|so h▸aL I I
 ·refine bl<|gv I<|bw I<|sm h I (fun h=>?_) (fun h=>?_)
  ·exact bl<|bW BH qP po I<|af (co po Lm qw I)<|af (K7 LD (M I) (M I))<|bo I<|aG I (dF tF mq I I)<|aG I (di da I I)<|aG I (fun hg=>iU (cC I hg) hI)<|im I<|bo I<|aG I (dF tF mq I I)<|aG I (di da I I)<|aG I (fun hg=>ir (cC I hg) hI)<|im I<|a8 I<|cQ<|so h▸aL I I
  ·exact bT<|ca<|aJ<|bl<|bW BH qP po I<|af (co po Lm qw I)<|af (K7 LD (M I) (M I))<|bo I<|aG I (dF tF mq I I)<|aG I (di da I I)<|aG I (nD I)<|im I<|a8 I<|so h▸aL I I

def RP e{R}(h:vb e=some R):de aQ 114 [K ae e] (tT [qq R.1,lx R.2]):=by
 refine ec Tryz.func114 I<|bl<|d6 I<|sx Q<|cS<|bX<|bl<|cu false Q 3<|af (ck zR)<|cu false Q 3<|af (ck zR)<|bX<|bv<|bW si lB DX I<|cR qr I<|af (bL hI)<|bR ?_;refine aJ<|aq<|aY (k:=15) I fun hN=>bO<|gZ ?_;refine aO (DE (aA:=fun ls i all l c open1 l1 c1=>(e.Nodes.drop i=ls)/\jF ls i all open1=some R) (Of:=fun _ i all l c open1 l1 c1=>[fq Q 3 l c all,fq Q 3 l1 c1 open1]) (Gf:=fun _ i all l c open1 l1 c1=>[(4,rW l c all),(5,rW l1 c1 open1),(15,hM (bh) e.Nodes),(16,kO e.Nodes),(17,aW (i:Int))]) (fun i all l c open1 l1 c1 h=>?_) (fun e1 tl ih i all l c open1 l1 c1 h=>?_) e.Nodes 0 xZ none 0 xZ none 0 ⟨I,h⟩) (bu I)
 ·obtain⟨D,h⟩:=h
  refine ea D I<|aJ<|aI I<|bo I<|af (fW f8 (.tail _ (.head _)) (M I))<|gv I<|bo I<|aG I (d7 I)<|aG I (fun hg=>fW f8 (.head _) (cC I hg))<|aG I (fun hg=>nt (cC I hg) hI)<|im I ?_;exact j3 I<|a8 I<|qp<|jd 4 I<|jd 84 I<|jd 2 I<|lG 2 I<|aP<|aP<|so h▸eC I I I
 ·obtain⟨D,h⟩:=h
  refine d9 D I<|aN<|aq<|aI I<|gp qr iD I (ei D)<|aV iD mZ I fun b=>j3 I<|cn iD al I<|aS 7 I<|bX<|aN ?_;refine bd<|bW pe jE da I<|f9 h SM (LB _) (dU I) fun r h=>bw I<|bv<|bo I<|af (ir (M I) hI)<|bo I<|aM I (d7 I)<|aM I (d7 I)<|aM I (fun hg=>fW f8 (.tail _ (.head _)) (cC I hg))<|aM I (fun hg=>jA (cC I hg) (cC I hg))<|kf I<|bo I<|cL h fun t q_t h=>aM I (fun hg=>sX iD I I) ?_
  obtain⟨r1,h1t,h0t⟩:=og q_t
  have q_r1g:=fun H=>(h1t H).1
  refine aM I (fun hg=>bN Wl (RC _ (q_r1g hg)) ⟨(cC I hg),J⟩)<|aM I (uA I)<|af (ef (M I) (fun H=>(cC I (rd H))) (fun H=>(h1t H).2) h0t)<|dl h I (fun h=>?_) (fun h=>?_)
  ·exact bl<|sx Q<|cS<|fR<|ai<|cQ<|ai<|cQ<|aP<|aP<|so h▸eC I I I
  ·refine lW<|aI I<|bo I<|af (fW f8 (.tail _ (.head _)) (M I))<|bo I<|af (nr (M I) (M I))<|cL h fun y q_y h=>af (pt f8 da I (.tail _ (.head _)) (M I) (M I) q_y)<|ou (.tail _ (.head _)) q_y fun hv=>bw I<|bl<|af (qj (r:=Q) (ys:=[j4,j4]) (xs:=[.const (.int .i64 (-1)),.const (.int .i64 (-1))]) BM da I FI I I ⟨hI,hI,J⟩)<|aV (r:=Fy) (x:=(List.replicate 2 (0:Int))) FI (fun _=>Iy (r:=Q) 2 (fun _=>I) _) I fun b1=>cn FI al I<|bX<|bl ?_;refine bo I<|bw I<|bv<|bo I<|af (K6 f8 (.tail _ (.tail _ (.head _))) q_y (M I))<|af (bL hI)<|bX<|aq ?_
   have hN1:=hv.2
   refine bO<|lE<|lE ?_;refine aO (q8 (aA:=fun ls1 i1 first at1=>(y.drop i1=ls1)/\kD (jF tl) i e1 all open1 r ls1 i1 first at1=some R) (Of:=fun _ i1 first at1=>[fq Q 3 l c all,fq Q 3 l1 c1 open1,bx Fy 80 b1 at1]) (Gf:=fun _ i1 first at1=>[(4,rW l c all),(5,rW l1 c1 open1),(6,aW (i:Int)),(7,aU bh e1),(8,aW r),(10,tV (ak b1 0)),(11,aW first),(15,hM (bh) e.Nodes),(16,kO e.Nodes),(17,aW (i:Int)),(46,tV (lV 1 l1 c1 (IntKind.i64.wrap ((open1.length:Int)-r)).toNat y.length)),(47,kO y),(48,aW (i1:Int))]) (fun i1 first at1 h=>?_) (fun e2 tl1 ih1 i1 first at1 h=>?_) y 0 (i:Int) ([j4,j4]) ⟨I,h⟩) (bu I)
   ·obtain⟨hx1,h⟩:=h
    refine ea hx1 I<|aJ<|bv<|af (bz FI I I cr (.tail _ (.tail _ (.head _))) (M I))<|bW yN tv da I<|bW yM tu da I<|af (qj (r:=Q) (ys:=[e1.L,e1.R]) (xs:=[.tmp 65,.tmp 67]) BM da I FI I I ⟨(M I),(M I),J⟩)<|af (BB Xq (M I) (M I))<|bR ?_;refine aJ<|sm h I (fun h=>?_) (fun h=>?_)
    ·exact bl<|sx Q<|cS<|fR<|ai<|cQ<|ai<|cQ<|aP<|aP<|aP<|so h▸eC I I I
    ·refine lW<|aI I<|bo I<|af (aZ (r:=Q) (ys:=[first]) (xs:=[.tmp 71]) f8 da I I I I I ⟨(M I),J⟩)<|cL h fun all1 q_all1 h=>ev da I I I I f8 I I (M I) (M I) q_all1 fun l2 c2=>bw I<|bd<|bo I<|bo I<|af (fW f8 (.tail _ (.head _)) (M I))<|bo I<|af (nr (M I) (M I))<|cL h fun y1 q_y1 h=>af (ro f8 da I (.tail _ (.head _)) (M I) (M I) q_y1)<|bo I<|af (aZ (r:=Q) (ys:=[(i:Int)]) (xs:=[.tmp 80]) f8 da I I I I I ⟨(M I),J⟩)<|dx<|GJ q_y1 ?_;refine cL h fun open2 q_open2 h=>ev da I I I I f8 I I (M I) (M I) q_open2 fun l3 c3=>j3 I<|bR<|dQ D hN I<|iO<|aP<|d5 ?_;exact bf (aO (ih (i+1) all1 l2 c2 open2 l3 c3 ⟨dJ D,h⟩) (bu I))
   ·obtain⟨hx1,h⟩:=h
    refine d9 hx1 I<|aN<|aq<|aI I<|af (wy f8 da I (.tail _ (.head _)) q_y (M I) (M I) (ei hx1))<|af (dd (r:=Q) (i:=((IntKind.i64.wrap ((open1.length:Int)-r))+(i1:Int))) (foff:=0) da I I cr I (.tail _ (.head _)) (wV q_y (ei hx1)).1 (M I))<|j3 I<|bw I<|cL h fun e3 q_e3 h=>cL h fun e4 q_e4 h=>cL h fun ar q_ar h=>?_
    refine fm 10 [tc (aW (i1:Int)),tc (aW e2),tc (aW first),tc (rW l c all),tc (aW e2),tc (tV (cK l (e2.toNat*1+0))),tc (aW e3),tc (aW (min first e3)),tc (tV (ak b1 ((i1:Int).toNat*1))),tc (rY)] [false,false,false,false,false,false,false,false,false,true] [fun _=>[fq Q 3 l c all,fq Q 3 l1 c1 open1,bx Fy 80 b1 at1],fun sg=>[bx Fy 80 b1 ar,fq Q 3 l c all,fq Q 3 l1 c1 open1]] I mixed I I I I I
     ⟨⟨[⟨12,fun _=>K Q (i1:Int),none⟩],_,0,0,I,⟨(fun _=>I),J⟩,I,I,I,I,I,fun _ sg _ _=>aE I (jr I)⟩,
     ⟨⟨[⟨13,fun _=>K Q e2,none⟩],_,0,0,I,⟨(fun _=>I),J⟩,I,I,I,I,I,fun _ sg _ _=>aE I (jr I)⟩,
     ⟨⟨[⟨11,fun _=>K Q first,none⟩],_,0,1,I,⟨(fun _=>I),J⟩,I,I,I,I,I,fun _ sg _ _=>aE I (jr I)⟩,
     ⟨⟨[⟨4,fun _=>tV (Y l c all.length),none⟩],_,0,1,I,⟨(fun _=>I),J⟩,I,I,I,I,I,fun _ sg _ _=>aE I (jr I)⟩,
     ⟨⟨[⟨13,fun _=>K Q e2,none⟩],_,0,1,I,⟨(fun _=>I),J⟩,I,I,I,I,I,fun _ sg _ _=>aE I (jr I)⟩,
     ⟨⟨[⟨56,fun _=>tV (Y l c all.length),some 3⟩,⟨57,fun _=>K Q e2,some 4⟩],_,0,1,I,⟨(fun _=>I),(fun _=>I),J⟩,I,I,I,I,I,qx (fun sg=>aE I (bU f8 da (.head _) (M I) (M I) q_e3)) (eY (fun sg=>aE I (bU f8 da (.tail _ (.head _)) (M I) (M I) q_e3)))⟩,
     ⟨⟨[⟨58,fun _=>tV (cK l (e2.toNat*1+0)),some 5⟩],_,0,1,I,⟨(fun _=>I),J⟩,I,I,I,I,I,qx (fun sg=>aE I (dd (r:=Q) (i:=e2) (foff:=0) da I I cr I (.head _) q_e3 (M I))) (eY (fun sg=>aE I (dd (r:=Q) (i:=e2) (foff:=0) da I I cr I (.tail _ (.head _)) q_e3 (M I))))⟩,
     ⟨⟨[⟨55,fun _=>K Q first,some 2⟩,⟨59,fun _=>K Q e3,some 6⟩],_,0,1,I,⟨(fun _=>I),(fun _=>I),J⟩,I,I,I,I,I,fun _ sg _ _=>aE I (lN (M I) (M I))⟩,
     ⟨⟨[⟨10,fun _=>tV (ak b1 0),none⟩,⟨53,fun _=>K Q (i1:Int),some 0⟩],_,0,0,I,⟨(fun _=>I),(fun _=>I),J⟩,I,I,I,I,I,eY (fun sg=>aE I (m6 BM da (.tail _ (.tail _ (.head _))) (M I) (M I) q_e4))⟩,
     ⟨⟨[⟨61,fun _=>tV (ak b1 ((i1:Int).toNat*1)),some 8⟩,⟨54,fun _=>K Q e2,some 1⟩],_,I,⟨(fun _=>I),(fun _=>I),J⟩,I,I,I,fun sg=>bJ I (EffOK.fr2 (J0 da I q_e4 (so q_ar) (M I) (M I)))⟩,
     J⟩⟩⟩⟩⟩⟩⟩⟩⟩⟩ (fun sg=>?_)
    refine(show RG _ _ _ _ [_,_,_] _ from ?_);refine j3 I<|bR<|dQ hx1 hN1 I<|iO<|iO ?_;exact bf (aO (ih1 (i1+1) (min first e3) ar ⟨dJ hx1,h⟩) (bu I))

def Gp e{R}(h:ny e=some R):de aQ 59 [K ae e] (aW R):=by
 refine ec Tryz.func59 I<|bl<|d6 I<|cv<|bX<|bv<|dk ci I<|f9 h WA (RP _) (dU I) fun r h=>bo I<|dE I I<|dE I I<|j3 I<|bw I<|aI I<|af (mT (M I)) ?_;refine dl h I (fun h=>?_) (fun h=>?_)
 ·exact bl<|fN<|ai<|so h▸aL I I
 ·exact lW<|bl<|fN<|so h▸aL I I

def Us(l:Option Nat)(c:Nat) s{R}(h:jf s=some R):ek aQ 116 [rW l c s] [fq Q 3 l c s] (fun i:OI=>rW (i.h 0).1 (i.h 0).2 R) (fun i=>[fq Q 3 (i.h 0).1 (i.h 0).2 R]):=by
 refine ek.of Tryz.func116 I I I fun w0 S0=>bl<|cu false Q 3<|af (ck zR)<|bX<|bv<|bo I<|af (fW f8 (.tail _ (.head _)) (M I))<|af (ir (M I) hI)<|dl h I (fun h=>?_) (fun h=>?_)
 ·exact aI I<|a8 I<|ai<|aP<|so h▸dK I (oi l c) I I (fun _ _ h=>h)
 ·refine lW<|bv<|cv<|bX<|aq<|lm (.tail _ (.head _)) fun hN=>bO<|zc ?_;refine aO (fU (aA:=fun ls i=>(s.drop i=ls)/\er s ls i=some R) (Of:=fun _ i=>[fq Q 3 l c s]) (Gf:=fun _ i=>[(0,rW l c s),(3,aW (i:Int))]) (fun i h=>?_) (fun e tl ih i h=>?_) (s.drop (1)) 1 ⟨I,h⟩) (bu I)
  ·obtain⟨D,h⟩:=h
   exact gJ<|bv<|bo I<|bo I<|af (fW f8 (.head _) (M I))<|B0 I<|bX<|pE (M I) (SB D)<|gL<|aH<|aH<|dP<|aJ<|aI I<|a8 I<|so h▸dK I (oi l c) I I (fun _ _ h=>h)
  ·obtain⟨D,h⟩:=h
   refine gJ<|bv<|bo I<|bo I<|af (fW f8 (.head _) (M I))<|B0 I<|bX<|pD (M I) (Ps D)<|lW<|aN<|aq<|aN<|cL h fun e1 q_e1 h=>?_
   refine lU (ts:=[_,_,_,_,_,_,_,_,_,_]) mixed I I
    ⟨oz I I,
    ⟨oz I I,
    ⟨nP 16 0 17 1 I I I (bU f8 da (.head _) (M I) (M I) (ei D)),
    ⟨ly 18 2 I I (dd (r:=Q) (i:=(i:Int)) (foff:=0) da I I cr I (.head _) (ei D) (M I)),
    ⟨oz I I,
    ⟨oz I I,
    ⟨ly 21 5 I I (nr (M I) hI),
    ⟨nP 20 4 22 6 I I I (bU f8 da (.head _) (M I) (M I) q_e1),
    ⟨ly 23 7 I I (dd (r:=Q) (i:=(IntKind.i64.wrap ((i:Int)-(1:Int)))) (foff:=0) da I I cr I (.head _) q_e1 (M I)),
    ⟨nP 19 3 24 8 I I I (nd (M I) (M I)),
    J⟩⟩⟩⟩⟩⟩⟩⟩⟩⟩ ?_
   refine aJ<|sm h I (fun h=>?_) (fun h=>?_)
   ·refine aI I<|bo I<|cL h fun y q_y h=>af (pt f8 da I (.head _) (M I) (M I) q_y)<|ou (.head _) q_y fun hv=>bw I<|bv<|cv<|bX<|aq<|bO ?_;refine aO (LS (aA:=fun k1 i1 s1 k=>(y.length-i1=k1)/\dN i y k1 i1 s1 k=some R) (Of:=fun _ i1 s1 k=>[fq Q 3 l c s1]) (Gf:=fun _ i1 s1 k=>[(0,rW l c s1),(3,aW k),(4,tV (lV 1 l c (i:Int).toNat y.length)),(5,aW (i1:Int))]) (fun i1 s1 k h=>?_) (fun k2 ih1 i1 s1 k h=>?_) (y.length-1) 1 s (i:Int) ⟨I,h⟩) (bu I)
    ·obtain⟨hx1,h⟩:=h
     refine gJ<|bv<|bo I<|bo I<|af (K5 f8 hv.1 (M I))<|B0 I<|bX<|pE (M I) (OM hx1)<|gL<|aH<|aH<|dP<|aJ<|aI I<|bo I<|cL h fun y1 q_y1 h=>af (pt f8 da I (.head _) (M I) (M I) q_y1)<|ou (.head _) q_y1 fun hv1=>cL h fun cl q_cl h=>?_;exact Nz da I I f8 (fun _=>I) I q_y1 (M I) (so q_cl)<|iM (Fe q_y1 (so q_cl)) 0 I<|iM (Fe q_y1 (so q_cl)) 54 I<|bX<|aI I<|bo I<|cL h fun y2 q_y2 h=>af (ro f8 da I (.head _) (M I) (M I) q_y2)<|GJ q_y2<|a8 I<|cQ<|ai<|cQ<|so h▸dK I (oi l c) I I (fun _ _ h=>h)
    ·obtain⟨hx1,h⟩:=h
     refine gJ<|bv<|bo I<|bo I<|af (K5 f8 hv.1 (M I))<|B0 I<|bX<|pD (M I) (OL hx1)<|lW<|aN<|aq<|aN<|cL h fun e3 q_e3 h=>cL h fun e4 q_e4 h=>?_
     refine lU (ts:=[_,_,_,_,_,_,_,_,_,_]) mixed I I
      ⟨oz I I,
      ⟨oz I I,
      ⟨nP 35 0 36 1 I I I (sd f8 da I (.head _) (zy q_y) (M I) (M I) q_e3),
      ⟨ly 37 2 I I (dd (r:=Q) (i:=((i:Int)+(i1:Int))) (foff:=0) da I I cr I (.head _) (vL q_e3).2.2 (M I)),
      ⟨oz I I,
      ⟨oz I I,
      ⟨ly 40 5 I I (nr (M I) hI),
      ⟨nP 39 4 41 6 I I I (sd f8 da I (.head _) (zy q_y) (M I) (M I) q_e4),
      ⟨ly 42 7 I I (dd (r:=Q) (i:=((i:Int)+(IntKind.i64.wrap ((i1:Int)-(1:Int))))) (foff:=0) da I I cr I (.head _) (vL q_e4).2.2 (M I)),
      ⟨nP 38 3 43 8 I I I (jh (M I) (M I)),
      J⟩⟩⟩⟩⟩⟩⟩⟩⟩⟩ ?_
     refine aJ<|sm h I (fun h=>?_) (fun h=>?_)
     ·refine aI I<|bo I<|bo I<|bo I<|cL h fun e5 q_e5 h=>af (sd f8 da I (.head _) (zy q_y) (M I) (M I) q_e5)<|af (dd (r:=Q) (i:=((i:Int)+(i1:Int))) (foff:=0) da I I cr I (.head _) (vL q_e5).2.2 (M I))<|cL h fun e6 q_e6 h=>af (bU f8 da (.head _) (M I) (M I) q_e6)<|cL h fun st q_st h=>oX da I al I q_e6 (so q_st) (M I) (M I)<|iM (fV (so q_st)) 0 I<|iM (fV (so q_st)) 45 I<|bX<|bd<|bo I<|af (oM (M I) hI)<|j3 I<|bR<|ca<|aJ ?_;refine bd<|bo I<|af (ta (ML hx1 (Vi hv.2)) (M I) hI)<|j3 I<|bR ?_;exact bf (aO (ih1 (i1+1) st (IntKind.i64.wrap (k+(1:Int))) ⟨MK hx1,h⟩) (bu I))
     ·refine bT<|ca<|aJ<|bd<|bo I<|af (ta (ML hx1 (Vi hv.2)) (M I) hI)<|j3 I<|bR ?_;exact bf (aO (ih1 (i1+1) s1 k ⟨MK hx1,h⟩) (bu I))
   ·refine bT<|UO D hN I ?_;exact bf (aO (ih (i+1) ⟨dJ D,h⟩) (bu I))

def Q4 e{R}(h:sM e=some R):jG aQ 60 [K ae e] false Q 3 R:=by
 refine jG.of Tryz.func60 I I I fun w0 S0=>bl<|d6 I<|cu false Q 3<|af (ck zR)<|bX<|bv<|dk ci I<|f9 h RZ (Gp _) (dU I) fun r h=>iY I<|dl h I (fun h=>?_) (fun h=>?_)
 ·exact bl<|cu false Q 3<|af (ck zR)<|fR<|ai<|so h▸ni I I
 ·refine lW<|bl<|cu false Q 3<|af (ck zR)<|bX<|bv<|bW si lB DX I<|cR qr I<|af (bL hI)<|bX<|aq<|aY (k:=10) I fun hN=>bO<|gZ<|zc ?_;refine aO (mC (aA:=fun ls i out l c=>(e.Nodes.drop i=ls)/\lb ls out=some R) (Of:=fun _ i out l c=>[fq Q 3 l c out]) (Gf:=fun _ i out l c=>[(3,rW l c out),(10,hM (bh) e.Nodes),(11,kO e.Nodes),(12,aW (i:Int))]) (fun i out l c h=>?_) (fun e1 tl ih i out l c h=>?_) e.Nodes 0 xZ none 0 ⟨I,h⟩) (bu I)
  ·obtain⟨D,h⟩:=h
   refine ea D I<|aJ<|aI I<|cL h fun Vd q_srt h=>?_;refine PP (n:=out.length) (ys:=Vd) Ed ?_ Wz ?_ ?_ ?_ ?_ ?_
   ·rfl
   ·exact q_srt
   ·exact(M I)
   ·rfl
   ·rfl
   intro hl
   refine IC hl 3 I<|IC hl 25 I<|bX<|aI I<|cL h fun r1 q_r1 h=>y8 [fq Q 3 l c Vd] _ I Wy (Us l c _ q_r1) ⟨(M I),J⟩ I fun i1=>?_;refine(show RG _ _ _ _ [_] ((28,rW (i1.h 0).1 (i1.h 0).2 r1)::_)from ?_);exact a8 I<|so h▸ni I I
  ·obtain⟨D,h⟩:=h
   refine d9 D I<|aN<|aq<|bl<|gp qr iD I (ei D)<|aV iD mZ I fun b=>cn iD al I<|aS 5 I<|bX<|bl<|sw pe jE I ?_;refine dk da I<|gv I<|dl h I (fun h=>?_) (fun h=>?_)
   ·refine bd<|bo I<|bW tF mq da I<|af (aZ (r:=Q) (ys:=[e1.Col]) (xs:=[.tmp 21]) f8 da I I I I I ⟨(M I),J⟩)<|cL h fun out1 q_out1 h=>ev da I I I I f8 I I (M I) (M I) q_out1 fun l2 c2=>j3 I<|bR<|dQ D hN I ?_;exact bf (aO (ih (i+1) out1 l2 c2 ⟨dJ D,h⟩) (bu I))
   ·refine bT<|dQ D hN I ?_;exact bf (aO (ih (i+1) out l c ⟨dJ D,h⟩) (bu I))
def Uq{l:Option Nat}{c:Nat}{xs s:List Int}{lo:Int}{R}(hs:cE xs lo (xs.length:Int)=some s)(h:jU s=some R):ek aQ 118 [tV (lV 1 l c lo.toNat s.length)] [fq Q 3 l c xs] (fun i:OI=>rW (i.h 0).1 (i.h 0).2 R) (fun i=>[fq Q 3 (i.h 0).1 (i.h 0).2 R,fq Q 3 l c xs]):=by
 refine ek.of Tryz.func118 I I I fun w0 S0=>bl<|af (ck zR)<|bX<|bv<|bo I<|Nx (r:=Q) f8 (.head _) hs (M I) I fun isnil hisnil=>bX<|BK (M I) (fun hc=>?_) (fun hc=>?_)
 ·have D:=hisnil hc
  have h:some xZ=some R:=by simpa [jU,lX,D] using h
  exact bl<|cu false Q 3<|af (ck zR)<|fR<|ai<|so h▸dK I (oi none 0) I I (fun _ _ h=>h)
 ·exact lW<|bl<|iz (r:=Q) (ys:=xZ) (xs:=[]) f8 da I I I I I trivial I fun l1 c1=>bo I<|cL h fun x q_x h=>Kn da I I I I f8 I I (M I) (.tail _ (.head _)) hs (M I) q_x fun l2 c2=>a8 I<|so h▸dK I (oi l2 c2) I I (fun _ _ h=>h)

def Ur(b:Nat)(l:Option Nat)(c:Nat) stack k{R}(h:nf stack k=some R):ek aQ 117 [aW k,tV (ak b 0)] [bx rV 35 b (Y l c stack.length),fq Q 3 l c stack] (fun i:OI=>qq R.1) (fun i=>[bx rV 35 b (Y (i.h 0).1 (i.h 0).2 R.2.length),fq Q 3 (i.h 0).1 (i.h 0).2 R.2]):=by
 refine ek.of Tryz.func117 I I I fun w0 S0=>bl<|sx Q<|bX<|bl<|af (sF iC (.head _) (M I))<|af (sF iC (.head _) (M I))<|af (fW f8 (.tail _ (.head _)) (M I))<|bo I<|af (nr (M I) (M I))<|cL h fun y q_y h=>af (pt f8 da I (.tail _ (.head _)) (M I) (M I) q_y)<|ou (.tail _ (.head _)) q_y fun hv=>dx<|cL h fun r q_r h=>y8 [fq Q 3 l c stack] _ I Ww (Uq q_y q_r) ⟨(M I),J⟩ I fun i=>?_;refine(show RG _ _ _ _ [_,_,_] _ from ?_);refine bw I<|bl<|af (sF iC (.tail _ (.tail _ (.head _))) (M I))<|af (sF iC (.tail _ (.tail _ (.head _))) (M I))<|af (fW f8 (.tail _ (.head _)) (M I))<|bo I<|af (nr (M I) (M I))<|cL h fun y1 q_y1 h=>af (ro f8 da I (.tail _ (.head _)) (M I) (M I) q_y1)<|dx<|GJ q_y1<|jR<|lD iC I al I (M I) (Qd (M I))<|bX<|aI I<|bw I ?_;exact xH<|iO<|qp<|jd 3 I<|jd 11 I<|jd 4 I<|jd 18 I<|lG 3 I<|aP<|d5<|d5<|so h▸dK I (oi l c) I I (fun _ _ h=>h)

def Ub e do1{R}(h:m9 e do1=some R):de aQ 61 [K ae e,(gn aQ Ql Qk (fun(x:ap×(List Int))=>do1 x.1 x.2))] (tT [aW R.1,aW R.2]):=by
 refine ec Tryz.func61 I<|bl<|d6 I<|cv<|cv<|bX<|IL<|bl<|cu false Q 3<|aV (x:=Y none 0 0) iC (fun _=>Tl) I fun b=>bX<|bl<|cv<|bX<|bl<|af (OG (cts:=[tV (ak b 0)]) (caps:=[.tmp 6]) ⟨(M I),J⟩)<|j3 I ?_;refine bX<|bl<|cv<|bX<|aN<|IM<|aJ<|bv<|bW si lB DX I<|cR qr I<|af (bL hI)<|bX ?_;refine NK (aA:=fun bad stack l c=>kC bad stack=some R) (Of:=fun bad stack l c=>[bx rV 35 b (Y l c stack.length),fq Q 3 l c stack]) (Gf:=fun bad stack l c=>[(6,tV (ak b 0)),(7,aW 0),(9,aW bad)]) (fun bad stack l c h=>?_) (fun tD=>?_)
 ·skip
  refine aJ<|bv<|bo I<|iY I<|dl h I (fun h=>?_) (fun h=>?_)
  ·exact aI I<|bo I<|j3 I<|a8 I<|ai<|Ar<|aP<|aP<|so h▸eC I I I
  ·exact lW<|bl<|af (sF iC (.head _) (M I))<|cL h fun e1 q_e1 h=>af (bU f8 da (.tail _ (.head _)) (M I) hI q_e1)<|af (dd (r:=Q) (i:=(0:Int)) (foff:=0) da I I cr I (.tail _ (.head _)) q_e1 (M I))<|j3 I<|fN<|Ar<|aP<|aP<|so h▸eC I I I
 ·skip
  refine aY (k:=16) I fun hN=>bO ?_;refine aO (DF (aA:=fun ls i bad1 stack1 l1 c1=>(e.Nodes.drop i=ls)/\gi do1 ls bad1 stack1=some R) (Of:=fun _ i bad1 stack1 l1 c1=>[bx rV 35 b (Y l1 c1 stack1.length),fq Q 3 l1 c1 stack1]) (Gf:=fun _ i bad1 stack1 l1 c1=>[(1,(gn aQ Ql Qk (fun(x:ap×(List Int))=>do1 x.1 x.2))),(6,tV (ak b 0)),(7,aW 0),(8,tC 117 [tV (ak b 0)]),(9,aW bad1),(16,hM (bh) e.Nodes),(17,kO e.Nodes),(18,aW (i:Int))]) (fun i bad1 stack1 l1 c1 h=>?_) (fun e2 tl ih i bad1 stack1 l1 c1 h=>?_) e.Nodes 0 (0:Int) xZ none 0 ⟨I,h⟩) (bu I)
  ·obtain⟨D,h⟩:=h
   refine ea D I ?_;exact cP (tD bad1 stack1 l1 c1 h) (bu I)
  ·obtain⟨D,h⟩:=h
   refine d9 D I<|aN<|aq<|bl<|gp qr iD I (ei D)<|aV iD mZ I fun b1=>cn iD al I<|aS 11 I<|bX<|aN<|cL h fun r q_r h=>cL h fun r1 q_r1 h=>?_;refine cL h fun r2 q_r2 h=>?_
   refine fm 12 [tc ((gn aQ Ql Qk (fun(x:ap×(List Int))=>do1 x.1 x.2))),tc (K bh e2),tc (tC 117 [tV (ak b 0)]),tc (aU Q e2.Tag),tc (aW e2.Tag),tc (aW r),tc (qq r1.1),tc (tT [aW r2.1,aW r2.2]),tc (tT [aW r2.1,aW r2.2]),tc (aW r2.1),tc (aW r2.2),tc (aW r2.1)] [false,false,false,false,false,false,true,false,false,false,false,false] [fun _=>[bx rV 35 b (Y l1 c1 stack1.length),fq Q 3 l1 c1 stack1],fun sg=>[bx rV 35 b (Y ((sg 6).h 0).1 ((sg 6).h 0).2 r1.2.length),fq Q 3 ((sg 6).h 0).1 ((sg 6).h 0).2 r1.2]] I mixed I I I I I
    ⟨⟨[⟨1,fun _=>(gn aQ S7 SW (fun(x:ap×(List Int))=>do1 x.1 x.2)),none⟩],_,0,1,I,⟨(fun _=>I),J⟩,I,I,I,I,I,fun _ sg _ _=>aE I (jr I)⟩,
    ⟨⟨[⟨11,fun _=>aU bh e2,none⟩],_,0,1,I,⟨(fun _=>I),J⟩,I,I,I,I,I,fun _ sg _ _=>aE I (sX iD I I)⟩,
    ⟨⟨[⟨8,fun _=>tC 117 [tV (ak b 0)],none⟩],_,0,0,I,⟨(fun _=>I),J⟩,I,I,I,I,I,fun _ sg _ _=>aE I (jr I)⟩,
    ⟨⟨[⟨11,fun _=>aU bh e2,none⟩],_,0,0,I,⟨(fun _=>I),J⟩,I,I,I,I,I,fun _ sg _ _=>aE I (wP pe jE I I)⟩,
    ⟨⟨[⟨26,fun _=>aU Q e2.Tag,some 3⟩],_,0,0,I,⟨(fun _=>I),J⟩,I,I,I,I,I,fun _ sg _ _=>aE I (sX da I I)⟩,
    ⟨⟨[⟨27,fun _=>K Q e2.Tag,some 4⟩],_,0,0,I,⟨(fun _=>I),J⟩,I,I,I,I,I,fun _ sg _ _=>aE I (bN SM (LB _ q_r) ⟨(M I),J⟩)⟩,
    ⟨⟨[⟨25,fun _=>tC 117 [tV (ak b 0)],some 2⟩,⟨28,fun _=>K Q r,some 5⟩],_,I,⟨(fun _=>I),(fun _=>I),J⟩,I,I,I,fun sg=>bJ I (EffOK.fr1 (EffOK.fr1 (Nl (xs:=[.tmp 28]) (ts:=[K Q r]) (cts:=[tV (ak b 0)]) [bx rV 35 b (Y l1 c1 stack1.length),fq Q 3 l1 c1 stack1] _ I Wx (Ur b l1 c1 _ _ q_r1) (M I) ⟨(M I),J⟩ (fun _=>I))))⟩,
    ⟨⟨[⟨23,fun _=>(gn aQ S7 SW (fun(x:ap×(List Int))=>do1 x.1 x.2)),some 0⟩,⟨24,fun _=>K bh e2,some 1⟩,⟨29,fun _=>K A7 r1.1,some 6⟩],_,1,1,I,⟨(fun _=>I),(fun _=>I),(fun _=>I),J⟩,I,I,I,I,I,fun _ sg _ _=>aE I (gN (args:=S7) (res:=SW) (f:=(fun(x:ap×(List Int))=>do1 x.1 x.2)) (x:=((e2,r1.1):ap×(List Int))) (M I) q_r2 ⟨(M I),(M I),J⟩)⟩,
    ⟨⟨[⟨30,fun _=>tT [K Q r2.1,K Q r2.2],some 7⟩],_,1,1,I,⟨(fun _=>I),J⟩,I,I,I,I,I,fun _ sg _ _=>aE I (jr I)⟩,
    ⟨⟨[⟨22,fun _=>tT [K Q r2.1,K Q r2.2],some 8⟩],_,1,1,I,⟨(fun _=>I),J⟩,I,I,I,I,I,fun _ sg _ _=>aE I (wd I I)⟩,
    ⟨⟨[⟨22,fun _=>tT [K Q r2.1,K Q r2.2],some 8⟩],_,1,1,I,⟨(fun _=>I),J⟩,I,I,I,I,I,fun _ sg _ _=>aE I (wd I I)⟩,
    ⟨⟨[⟨31,fun _=>K Q r2.1,some 9⟩],_,1,1,I,⟨(fun _=>I),J⟩,I,I,I,I,I,fun _ sg _ _=>aE I (DN I)⟩,
    J⟩⟩⟩⟩⟩⟩⟩⟩⟩⟩⟩⟩ (fun sg=>?_)
   refine(show RG _ _ _ _ [_,_] _ from ?_);refine bw I<|bv<|bo I<|iY I<|dl h I (fun h=>?_) (fun h=>?_)
   ·refine aI I<|bw I<|gL<|aH<|cd I<|aH<|aH<|dP ?_;exact cP (tD r2.2 r1.2 ((sg 6).h 0).1 ((sg 6).h 0).2 h) (bu I)
   ·refine lW<|bd<|af (sF iC (.head _) (M I))<|bo I<|af (aZ (r:=Q) (ys:=[r2.1]) (xs:=[.tmp 37]) f8 da I I I I I ⟨(M I),J⟩)<|dx<|cL h fun l2 q_l2 h=>ev da I I I I f8 I I (M I) (M I) q_l2 fun l3 c2=>dx<|lD iC I al I (M I) (Qd (M I))<|bR<|dQ D hN I ?_;exact bf (aO (ih (i+1) bad1 l2 l3 c2 ⟨dJ D,h⟩) (bu I))

end Go.Proofs.YthbdkceckjihgaaGreatDoor

