/- cm of this claim: P5. -/
import Derived.Test.YthbdkceckjihgaaGreatDoorBdT
import Derived.Test.YthbdkceckjihgaaGreatDoorBdP4
set_option linter.all false
namespace Go.Proofs.YthbdkceckjihgaaGreatDoor
open Go
set_option maxRecDepth 100000

def Rt s v{R}(h:jT s v=some R):de aQ 179 [qq s,aW v] (aW R):=by
 refine ec Tryz.func179 I<|bl<|cv<|bX<|bv<|bo I<|cR f8 I<|af (bL hI)<|bX<|aq<|aY (k:=6) I fun hN=>bO ?_;refine aO (fU (aA:=fun ls i=>(s.drop i=ls)/\ga v ls i=some R) (Of:=fun _ i=>[]) (Gf:=fun _ i=>[(0,qq s),(1,aW v),(7,kO s),(8,aW (i:Int))]) (fun i h=>?_) (fun e tl ih i h=>?_) s 0 ⟨I,h⟩) (bu I)
 ·obtain⟨D,h⟩:=h
  exact ea D I<|aJ<|bl<|fN<|so h▸aL I I
 ·obtain⟨D,h⟩:=h
  refine d9 D I<|aN<|aq<|aI I<|bw I<|aI I<|bo I<|bo I<|re f8 da I (ei D) ?_;refine dk da I<|af (nd (M I) (M I))<|dl h I (fun h=>?_) (fun h=>?_)
  ·exact aI I<|a8 I<|cQ<|ai<|cQ<|so h▸aL I I
  ·refine bT<|dQ D hN I ?_;exact bf (aO (ih (i+1) ⟨dJ D,h⟩) (bu I))

def Rk s f{R}(h:gw s f=some R):de aQ 215 [hM (aR) s,(gn aQ Qh xY (fun(x:jJ)=>f x))] (aW R):=by
 refine ec Tryz.func215 I<|bl<|cv<|bX<|bv<|bo I<|cR Fs I<|af (bL hI)<|bX<|aq<|aY (k:=6) I fun hN=>bO ?_;refine aO (fU (aA:=fun ls i=>(s.drop i=ls)/\dp f ls i=some R) (Of:=fun _ i=>[]) (Gf:=fun _ i=>[(0,hM (aR) s),(1,(gn aQ Qh xY (fun(x:jJ)=>f x))),(7,kO s),(8,aW (i:Int))]) (fun i h=>?_) (fun e tl ih i h=>?_) s 0 ⟨I,h⟩) (bu I)
 ·obtain⟨D,h⟩:=h
  exact ea D I<|aJ<|bl<|fN<|so h▸aL I I
 ·obtain⟨D,h⟩:=h
  refine d9 D I<|aN<|aq<|aI I<|bw I<|aI I<|bo I<|bo I<|re Fs Bc I (ei D) ?_;refine dk Bc I<|cL h fun r q_r h=>af (gN (args:=Qh) (res:=G0) (f:=(fun(x:jJ)=>f x)) (x:=((e):jJ)) (M I) q_r ⟨(M I),J⟩)<|dl h I (fun h=>?_) (fun h=>?_)
  ·exact aI I<|a8 I<|cQ<|ai<|cQ<|so h▸aL I I
  ·refine bT<|dQ D hN I ?_;exact bf (aO (ih (i+1) ⟨dJ D,h⟩) (bu I))

def RO s1 s2{R}(h:gx s1 s2=some R):de aQ 120 [hM (bh) s1,hM (bh) s2] (lx R):=by
 refine ec Tryz.func120 I<|bl<|cS<|bX<|bv<|bo I<|cR qr I<|bo I<|cR qr I<|af (jh (M I) (M I))<|dl h I (fun h=>?_) (fun h=>?_)
 ·exact bl<|cS<|fR<|ai<|so h▸aL I I
 ·refine lW<|bv<|bo I<|cR qr I<|af (bL hI)<|bX<|aq<|aY (k:=11) I fun hN=>bO ?_;refine aO (fU (aA:=fun ls i=>(s1.drop i=ls)/\dq s2 ls i=some R) (Of:=fun _ i=>[]) (Gf:=fun _ i=>[(0,hM (bh) s1),(1,hM (bh) s2),(12,kO s1),(13,aW (i:Int))]) (fun i h=>?_) (fun e tl ih i h=>?_) s1 0 ⟨I,h⟩) (bu I)
  ·obtain⟨D,h⟩:=h
   exact ea D I<|aJ<|bl<|cS<|fR<|so h▸aL I I
  ·obtain⟨D,h⟩:=h
   refine d9 D I<|aN<|aq<|aI I<|bw I<|aN<|cL h fun e1 q_e1 h=>?_
   refine lU (ts:=[_,_,_,_,_,_,_,_,_]) mixed I I
    ⟨oz I I,
    ⟨oz I I,
    ⟨nP 16 0 17 1 I I I (WQ qr iD I I I (ei D)),
    ⟨zp 2 iD I I,
    ⟨oz I I,
    ⟨oz I I,
    ⟨nP 20 4 21 5 I I I (WQ qr iD I I I q_e1),
    ⟨zp 6 iD I I,
    ⟨nP 19 3 23 7 I I I (BB VM (M I) (M I)),
    J⟩⟩⟩⟩⟩⟩⟩⟩⟩ ?_
   refine aJ<|sm h I (fun h=>?_) (fun h=>?_)
   ·exact bl<|cS<|fR<|cQ<|ai<|cQ<|so h▸aL I I
   ·refine bT<|dQ D hN I ?_;exact bf (aO (ih (i+1) ⟨dJ D,h⟩) (bu I))

def T8 a1 b{R}(h:vR a1 b=some R):de aQ 65 [K ae a1,K ae b] (lx R):=by
 exact ec Tryz.func65 I<|bl<|d6 I<|d6 I<|cS<|bX<|bl<|bW si lB DX I<|bW si lB DX I<|f9 h Wv (RO _ _) (dU I) fun r h=>a8 I<|so h▸aL I I

def Rj c p{R}(h:jt c p=some R):de aQ 216 [K aR p,aU aR c] (lx R):=by
 refine ec Tryz.func216 I<|bl<|d6 I<|cS<|bX<|bl<|bW tA od da I<|bW tA od da I<|af (nd (M I) (M I))<|bo I<|cL h fun t q_t h=>aG I (dF C6 yJ I I)<|aG I (di ci I I)<|aG I (dF C6 yJ I I)<|aG I (di ci I I) ?_
 obtain⟨r,h1t,h0t⟩:=og q_t
 have q_rg:=fun H=>(h1t H).1
 exact aG I (fun hg=>bN XK (T8 _ _ (q_rg hg)) ⟨(cC I hg),(cC I hg),J⟩)<|af (cU (M I) (fun H=>(cC I H)) (fun H=>(h1t H).2) h0t)<|a8 I<|so h▸aL I I

set_option maxHeartbeats 4000000 in
def Un(b:Nat)(ix:OI) s a1{R}(h:kI s a1=some R):ek aQ 180 [tV (ak b 0),K aR a1] (cx b s ix) (fun _:OI=>tT [aW R.1,aW R.2.1]) (fun j=>cx b R.2.2 j):=by
 refine ek.of Tryz.func180 I I I fun w0 S0=>?_;refine(show CG _ _ _ [bx (rH ax (z10 ix s)) 127 b s,Z Q 3 (ix.h 0).1 (ix.h 0).2 s.out.Tables,Z aD 71 (ix.h 1).1 (ix.h 1).2 s.out.Joins,Z Q 3 (ix.h 2).1 (ix.h 2).2 s.out.Keys,Z aR 73 (ix.h 3).1 (ix.h 3).2 s.out.Aggs,Z ae 62 (ix.h 4).1 (ix.h 4).2 s.out.Items,Z Q 3 (ix.h 5).1 (ix.h 5).2 s.kinds,Z Q 3 (ix.h 6).1 (ix.h 6).2 s.groups,br ke dn (ix.h 7).2 none (ix.oss 0) s.called,br dV dn (ix.h 8).2 none (ix.oss 1) s.alone,dG (fun y:Int=>aW y) iX (ix.h 9).2 s.behind] _ from ?_);refine bl<|d6 I<|cv<|cv<|bX<|bl<|cv<|bX ?_;refine lF (aA:=fun kind=>iL s a1 kind=some R) (Of:=fun kind=>[bx (rH ax (z10 ix s)) 127 b s,Z Q 3 (ix.h 0).1 (ix.h 0).2 s.out.Tables,Z aD 71 (ix.h 1).1 (ix.h 1).2 s.out.Joins,Z Q 3 (ix.h 2).1 (ix.h 2).2 s.out.Keys,Z aR 73 (ix.h 3).1 (ix.h 3).2 s.out.Aggs,Z ae 62 (ix.h 4).1 (ix.h 4).2 s.out.Items,Z Q 3 (ix.h 5).1 (ix.h 5).2 s.kinds,Z Q 3 (ix.h 6).1 (ix.h 6).2 s.groups,br ke dn (ix.h 7).2 none (ix.oss 0) s.called,br dV dn (ix.h 8).2 none (ix.oss 1) s.alone,dG (fun y:Int=>aW y) iX (ix.h 9).2 s.behind]) (Gf:=fun kind=>[(0,tV (ak b 0)),(3,aU aR a1),(6,aW kind)]) (fun kind h=>?_) (fun tD=>?_)
 ·skip
  refine aI I<|af (bB (M I))<|bF 10 fa I<|bF 17 xn I<|af (eg I4 I (.head _) (.tail _ (.tail _ (.tail _ (.tail _ (.head _))))) (M I))<|af ((show bM _ _ _ _ ((gn aQ Qh xY (fun(x:jJ)=>(jt a1) x)))from mg (cts:=[aU aR a1]) (caps:=[.tmp 3]) V0 ⟨(M I),J⟩ (fun x y h=>Rj _ _ h)))<|f9 h V1 (Rk _ _) ⟨(pZ (M I)),(M I),J⟩ fun r h=>bw I ?_;refine sQ (aA:=fun i ob ix1=>jZ i ob=some R) (Of:=fun i ob (ix1:OI)=>[bx (rH ax (z10 ix1 ob)) 127 b ob,Z Q 3 (ix1.h 0).1 (ix1.h 0).2 ob.out.Tables,Z aD 71 (ix1.h 1).1 (ix1.h 1).2 ob.out.Joins,Z Q 3 (ix1.h 2).1 (ix1.h 2).2 ob.out.Keys,Z aR 73 (ix1.h 3).1 (ix1.h 3).2 ob.out.Aggs,Z ae 62 (ix1.h 4).1 (ix1.h 4).2 ob.out.Items,Z Q 3 (ix1.h 5).1 (ix1.h 5).2 ob.kinds,Z Q 3 (ix1.h 6).1 (ix1.h 6).2 ob.groups,br ke dn (ix1.h 7).2 none (ix1.oss 0) ob.called,br dV dn (ix1.h 8).2 none (ix1.oss 1) ob.alone,dG (fun y:Int=>aW y) iX (ix1.h 9).2 ob.behind]) (Gf:=fun i ob ix1=>[(0,tV (ak b 0)),(9,aW i)]) (fun i ob ix1 h=>?_) (fun K1=>?_)
  ·skip
   refine bv<|bo I<|af (bB (M I))<|bF 10 fa I<|bF 17 xn I<|af (eg I4 I (.head _) (.tail _ (.tail _ (.tail _ (.tail _ (.head _))))) (M I))<|af (mh Fs (pZ (M I)))<|af (jA (M I) hI)<|dl h I (fun h=>?_) (fun h=>?_)
   ·exact bl<|cv<|fN<|ai<|so h▸gF (ts:=[aW 0,aW 228]) (rvs:=[.tmp 4,.tmp 5]) I I ⟨cD I,cD I,J⟩ ix1 I I
   ·exact lW<|aI I<|af (bB (M I))<|bF 10 fa I<|bF 16 z7 I<|af (eg iC I (.head _) (.tail _ (.tail _ (.tail _ (.head _)))) (M I))<|af (mh f8 (pZ (M I)))<|bo I<|af (oM (M I) (M I))<|j3 I<|fN<|so h▸gF (ts:=[aW (IntKind.i64.wrap ((ob.out.Keys.length:Int)+i)),aW 0]) (rvs:=[.tmp 4,.tmp 5]) I I ⟨cD I,cD I,J⟩ ix1 I I
  ·skip
   refine aI I<|af (ir (M I) hI)<|dl h I (fun h=>?_) (fun h=>?_)
   ·refine aI I<|af (bB (M I))<|bF 10 fa I<|bF 17 xn I<|af (eg I4 I (.head _) (.tail _ (.tail _ (.tail _ (.tail _ (.head _))))) (M I))<|af (mh Fs (pZ (M I)))<|bw I<|cL h fun l7 q_l7 h=>cL h fun l8 q_l8 h=>?_
    refine fm 21 [tc (tV (ak b 0)),tc (tV (ak b 0)),tc (tV (ak b 0)),tc (tV (ak b 0)),tc (tV (ak b 10)),tc (tV (ak b 17)),tc (tO aR (ix.h 3).1 (ix.h 3).2 s.out.Aggs),tc (K aR a1),tc (hM (aR) ([a1])),([9],fun s=>tO aR ((s.getD 0 nQ).h 0).1 ((s.getD 0 nQ).h 0).2 l7),tc (tV (ak b 0)),tc (tV (ak b 0)),tc (tV (ak b 23)),tc (tO Q (ix.h 6).1 (ix.h 6).2 s.groups),tc (aW kind),tc (qq ([kind])),([16],fun s=>tO Q ((s.getD 0 nQ).h 0).1 ((s.getD 0 nQ).h 0).2 l8),tc (tV (ak b 0)),tc (tV (ak b 10)),tc (tV (ak b 17)),tc (rY)] [false,false,false,false,false,false,false,false,false,true,false,false,false,false,false,false,true,false,false,false,true] [fun _=>[bx (rH ax (z10 ix s)) 127 b s,Z Q 3 (ix.h 0).1 (ix.h 0).2 s.out.Tables,Z aD 71 (ix.h 1).1 (ix.h 1).2 s.out.Joins,Z Q 3 (ix.h 2).1 (ix.h 2).2 s.out.Keys,Z aR 73 (ix.h 3).1 (ix.h 3).2 s.out.Aggs,Z ae 62 (ix.h 4).1 (ix.h 4).2 s.out.Items,Z Q 3 (ix.h 5).1 (ix.h 5).2 s.kinds,Z Q 3 (ix.h 6).1 (ix.h 6).2 s.groups,br ke dn (ix.h 7).2 none (ix.oss 0) s.called,br dV dn (ix.h 8).2 none (ix.oss 1) s.alone,dG (fun y:Int=>aW y) iX (ix.h 9).2 s.behind],fun sg=>[Z aR 73 ((sg 9).h 0).1 ((sg 9).h 0).2 l7,bx (rH ax (z10 ix s)) 127 b s,Z Q 3 (ix.h 0).1 (ix.h 0).2 s.out.Tables,Z aD 71 (ix.h 1).1 (ix.h 1).2 s.out.Joins,Z Q 3 (ix.h 2).1 (ix.h 2).2 s.out.Keys,Z ae 62 (ix.h 4).1 (ix.h 4).2 s.out.Items,Z Q 3 (ix.h 5).1 (ix.h 5).2 s.kinds,Z Q 3 (ix.h 6).1 (ix.h 6).2 s.groups,br ke dn (ix.h 7).2 none (ix.oss 0) s.called,br dV dn (ix.h 8).2 none (ix.oss 1) s.alone,dG (fun y:Int=>aW y) iX (ix.h 9).2 s.behind],fun sg=>[Z Q 3 ((sg 16).h 0).1 ((sg 16).h 0).2 l8,Z aR 73 ((sg 9).h 0).1 ((sg 9).h 0).2 l7,bx (rH ax (z10 ix s)) 127 b s,Z Q 3 (ix.h 0).1 (ix.h 0).2 s.out.Tables,Z aD 71 (ix.h 1).1 (ix.h 1).2 s.out.Joins,Z Q 3 (ix.h 2).1 (ix.h 2).2 s.out.Keys,Z ae 62 (ix.h 4).1 (ix.h 4).2 s.out.Items,Z Q 3 (ix.h 5).1 (ix.h 5).2 s.kinds,br ke dn (ix.h 7).2 none (ix.oss 0) s.called,br dV dn (ix.h 8).2 none (ix.oss 1) s.alone,dG (fun y:Int=>aW y) iX (ix.h 9).2 s.behind],fun sg=>[bx (rH ax [(10,Y (ix.h 0).1 (ix.h 0).2 s.out.Tables.length),(11,Y (ix.h 1).1 (ix.h 1).2 s.out.Joins.length),(16,Y (ix.h 2).1 (ix.h 2).2 s.out.Keys.length),(17,Y ((sg 9).h 0).1 ((sg 9).h 0).2 l7.length),(18,Y (ix.h 4).1 (ix.h 4).2 s.out.Items.length),(22,Y (ix.h 5).1 (ix.h 5).2 s.kinds.length),(23,Y (ix.h 6).1 (ix.h 6).2 s.groups.length),(19,am (ix.h 7).2),(20,am (ix.h 8).2),(21,am (ix.h 9).2)]) 127 b ({s with out:=({s.out with Aggs:=l7}:aK)}:ac),Z Q 3 ((sg 16).h 0).1 ((sg 16).h 0).2 l8,Z aR 73 ((sg 9).h 0).1 ((sg 9).h 0).2 l7,Z Q 3 (ix.h 0).1 (ix.h 0).2 s.out.Tables,Z aD 71 (ix.h 1).1 (ix.h 1).2 s.out.Joins,Z Q 3 (ix.h 2).1 (ix.h 2).2 s.out.Keys,Z ae 62 (ix.h 4).1 (ix.h 4).2 s.out.Items,Z Q 3 (ix.h 5).1 (ix.h 5).2 s.kinds,br ke dn (ix.h 7).2 none (ix.oss 0) s.called,br dV dn (ix.h 8).2 none (ix.oss 1) s.alone,dG (fun y:Int=>aW y) iX (ix.h 9).2 s.behind]] I mixed I I I I I
     ⟨⟨[⟨0,fun _=>tV (ak b 0),none⟩],_,0,2,I,⟨(fun _=>I),J⟩,I,I,I,I,I,fun _ sg _ _=>aE I (jr I)⟩,
     ⟨⟨[⟨0,fun _=>tV (ak b 0),none⟩],_,0,3,I,⟨(fun _=>I),J⟩,I,I,I,I,I,fun _ sg _ _=>aE I (jr I)⟩,
     ⟨⟨[⟨0,fun _=>tV (ak b 0),none⟩],_,0,0,I,⟨(fun _=>I),J⟩,I,I,I,I,I,fun _ sg _ _=>aE I (jr I)⟩,
     ⟨⟨[⟨64,fun _=>tV (ak b 0),some 2⟩],_,0,0,I,⟨(fun _=>I),J⟩,I,I,I,I,I,fun _ sg _ _=>aE I (bB (M I))⟩,
     ⟨⟨[⟨65,fun _=>tV (ak b 0),some 3⟩],_,0,0,I,⟨(fun _=>I),J⟩,I,I,I,I,I,fun _ sg _ _=>aE I (oy 10 fa I I I)⟩,
     ⟨⟨[⟨66,fun _=>tV (ak b 10),some 4⟩],_,0,0,I,⟨(fun _=>I),J⟩,I,I,I,I,I,fun _ sg _ _=>aE I (oy 17 xn I I I)⟩,
     ⟨⟨[⟨67,fun _=>tV (ak b 17),some 5⟩],_,0,0,I,⟨(fun _=>I),J⟩,I,I,I,I,I,eY (fun sg=>aE I (eg I4 I (.head _) (.tail _ (.tail _ (.tail _ (.tail _ (.head _))))) (M I)))⟩,
     ⟨⟨[⟨3,fun _=>aU aR a1,none⟩],_,0,0,I,⟨(fun _=>I),J⟩,I,I,I,I,I,fun _ sg _ _=>aE I (sX Bc I I)⟩,
     ⟨⟨[⟨69,fun _=>K aR a1,some 7⟩],_,0,0,I,⟨(fun _=>I),J⟩,I,I,I,I,I,fun _ sg _ _=>aE I (aZ (r:=aR) (ys:=[a1]) (xs:=[.tmp 69]) Fs Bc I I I I I ⟨(M I),J⟩)⟩,
     ⟨⟨[⟨68,fun _=>tO aR (ix.h 3).1 (ix.h 3).2 s.out.Aggs,some 6⟩,⟨70,fun _=>K (eF aR) ([a1]),some 8⟩],_,I,⟨(fun _=>I),(fun _=>I),J⟩,I,I,I,fun sg=>bJ I (EffOK.fr4 (jY Bc I I I I Fs I (M I) (M I) q_l7))⟩,
     ⟨⟨[⟨0,fun _=>tV (ak b 0),none⟩],_,0,1,I,⟨(fun _=>I),J⟩,I,I,I,I,I,fun _ sg _ _=>aE I (jr I)⟩,
     ⟨⟨[⟨72,fun _=>tV (ak b 0),some 10⟩],_,0,1,I,⟨(fun _=>I),J⟩,I,I,I,I,I,fun _ sg _ _=>aE I (bB (M I))⟩,
     ⟨⟨[⟨73,fun _=>tV (ak b 0),some 11⟩],_,0,1,I,⟨(fun _=>I),J⟩,I,I,I,I,I,fun _ sg _ _=>aE I (oy 23 vN I I I)⟩,
     ⟨⟨[⟨74,fun _=>tV (ak b 23),some 12⟩],_,0,1,I,⟨(fun _=>I),J⟩,I,I,I,I,I,qx (fun sg=>aE I (eg iC I (.head _) (.tail _ (.tail _ (.tail _ (.tail _ (.tail _ (.tail _ (.tail _ (.head _)))))))) (M I))) (eY (fun sg=>aE I (eg iC I (.tail _ (.head _)) (.tail _ (.tail _ (.tail _ (.tail _ (.tail _ (.tail _ (.tail _ (.head _)))))))) (M I))))⟩,
     ⟨⟨[⟨6,fun _=>K Q kind,none⟩],_,0,1,I,⟨(fun _=>I),J⟩,I,I,I,I,I,fun _ sg _ _=>aE I (jr I)⟩,
     ⟨⟨[⟨76,fun _=>K Q kind,some 14⟩],_,0,1,I,⟨(fun _=>I),J⟩,I,I,I,I,I,fun _ sg _ _=>aE I (aZ (r:=Q) (ys:=[kind]) (xs:=[.tmp 76]) f8 da I I I I I ⟨(M I),J⟩)⟩,
     ⟨⟨[⟨75,fun _=>tO Q (ix.h 6).1 (ix.h 6).2 s.groups,some 13⟩,⟨77,fun _=>K A7 ([kind]),some 15⟩],_,I,⟨(fun _=>I),(fun _=>I),J⟩,I,I,I,fun sg=>bJ I (EffOK.fr7 (jY da I I I I f8 I (M I) (M I) q_l8))⟩,
     ⟨⟨[⟨62,fun _=>tV (ak b 0),some 0⟩],_,2,2,I,⟨(fun _=>I),J⟩,I,I,I,I,I,fun _ sg _ _=>aE I (bB (M I))⟩,
     ⟨⟨[⟨79,fun _=>tV (ak b 0),some 17⟩],_,2,2,I,⟨(fun _=>I),J⟩,I,I,I,I,I,fun _ sg _ _=>aE I (oy 10 fa I I I)⟩,
     ⟨⟨[⟨80,fun _=>tV (ak b 10),some 18⟩],_,2,2,I,⟨(fun _=>I),J⟩,I,I,I,I,I,fun _ sg _ _=>aE I (oy 17 xn I I I)⟩,
     ⟨⟨[⟨81,fun _=>tV (ak b 17),some 19⟩,⟨71,fun sg=>tO aR ((sg 9).h 0).1 ((sg 9).h 0).2 l7,some 9⟩],_,I,⟨(fun _=>I),(fun _=>I),J⟩,I,I,I,fun sg=>bJ I (EffOK.fr2 (lc (hs' :=[(10,Y (ix.h 0).1 (ix.h 0).2 s.out.Tables.length),(11,Y (ix.h 1).1 (ix.h 1).2 s.out.Joins.length),(16,Y (ix.h 2).1 (ix.h 2).2 s.out.Keys.length),(17,Y ((sg 9).h 0).1 ((sg 9).h 0).2 l7.length),(18,Y (ix.h 4).1 (ix.h 4).2 s.out.Items.length),(22,Y (ix.h 5).1 (ix.h 5).2 s.kinds.length),(23,Y (ix.h 6).1 (ix.h 6).2 s.groups.length),(19,am (ix.h 7).2),(20,am (ix.h 8).2),(21,am (ix.h 9).2)]) (u:=Y ((sg 9).h 0).1 ((sg 9).h 0).2 l7.length) I4 I I (kq f7 j7 FM) I ⟨.inr ⟨I,I⟩,.inr ⟨I,I⟩,.inr ⟨I,I⟩,.inl ⟨I,I,I⟩,.inr ⟨I,I⟩,.inr ⟨I,I⟩,.inr ⟨I,I⟩,.inr ⟨I,I⟩,.inr ⟨I,I⟩,.inr ⟨I,I⟩,J⟩ (M I) (pZ (M I)) (wT (M I))))⟩,
     J⟩⟩⟩⟩⟩⟩⟩⟩⟩⟩⟩⟩⟩⟩⟩⟩⟩⟩⟩⟩⟩ (fun sg=>?_)
    refine(show RG _ _ _ _ [_,_,_,_,_,_,_,_,_,_,_] _ from ?_);refine af (bB (M I))<|bF 23 vN I<|ik (lc (hs' :=[(10,Y (ix.h 0).1 (ix.h 0).2 s.out.Tables.length),(11,Y (ix.h 1).1 (ix.h 1).2 s.out.Joins.length),(16,Y (ix.h 2).1 (ix.h 2).2 s.out.Keys.length),(17,Y ((sg 9).h 0).1 ((sg 9).h 0).2 l7.length),(18,Y (ix.h 4).1 (ix.h 4).2 s.out.Items.length),(22,Y (ix.h 5).1 (ix.h 5).2 s.kinds.length),(23,Y ((sg 16).h 0).1 ((sg 16).h 0).2 l8.length),(19,am (ix.h 7).2),(20,am (ix.h 8).2),(21,am (ix.h 9).2)]) (u:=Y ((sg 16).h 0).1 ((sg 16).h 0).2 l8.length) iC I I Cj I ⟨.inr ⟨I,I⟩,.inr ⟨I,I⟩,.inr ⟨I,I⟩,.inr ⟨I,I⟩,.inr ⟨I,I⟩,.inr ⟨I,I⟩,.inl ⟨I,I,I⟩,.inr ⟨I,I⟩,.inr ⟨I,I⟩,.inr ⟨I,I⟩,J⟩ (M I) (pZ (M I)) (wT (M I))) fun i1=>?_;refine(show RG _ _ _ _ [_,_,_,_,_,_,_,_,_,_,_] _ from ?_);refine bR<|ah<|ah<|ah<|mR<|ah<|ah<|Fq<|ah<|ah<|ah<|ah ?_;exact cP (K1 (s.out.Aggs.length:Int) ({({s with out:=({s.out with Aggs:=l7}:aK)}:ac)with groups:=l8}:ac) (QL [((ix.h 0).1,(ix.h 0).2),((ix.h 1).1,(ix.h 1).2),((ix.h 2).1,(ix.h 2).2),(((sg 9).h 0).1,((sg 9).h 0).2),((ix.h 4).1,(ix.h 4).2),((ix.h 5).1,(ix.h 5).2),(((sg 16).h 0).1,((sg 16).h 0).2),(none,(ix.h 7).2),(none,(ix.h 8).2),(none,(ix.h 9).2)] [(ix.oss 0),(ix.oss 1),[]]) h) (bu I)
   ·refine bT ?_;exact cP (K1 r s ix h) (bu I)
 ·skip
  refine bl<|bW tA od da I<|iY I<|dl h I (fun h=>?_) (fun h=>?_)
  ·refine aN<|cL h fun r1 q_r1 h=>?_
   refine lU (ts:=[_,_,_,_,_,_,_,_,_,_,_,_]) mixed I I
    ⟨AA 3 I I (wP C6 yJ I I),
    ⟨zp 0 ci I I,
    ⟨oz I I,
    ⟨ly 16 2 I I (bB (M I)),
    ⟨ly 17 3 I I (oy 22 rE I I I),
    ⟨ly 18 4 I I (eg iC I (.head _) (.tail _ (.tail _ (.tail _ (.tail _ (.tail _ (.tail _ (.head _))))))) (M I)),
    ⟨nP 15 1 19 5 I I I (bN Kd (xu _ _ q_r1) ⟨(M I),(pZ (M I)),J⟩),
    ⟨ly 20 6 I I (jr I),
    ⟨ly 13 7 I I (wd I I),
    ⟨ly 13 7 I I (wd I I),
    ⟨ly 21 8 I I (DN I),
    ⟨ly 22 9 I I (DN I),
    J⟩⟩⟩⟩⟩⟩⟩⟩⟩⟩⟩⟩ ?_
   refine aJ<|bv<|bo I<|iY I<|bo I<|aM I (dF tA od I I)<|aM I (di da I I)<|aM I (nD I)<|aM I (sy I)<|fk I I I I (fun hg=>jr I)<|fk I I I I (fun hg=>jh (cC I hg) hI)<|aM I (fun hg=>kV (cC I hg) (fun H=>(cC I (tP hg H))))<|aM I (sy I)<|fk I I I I (fun hg=>jr I)<|fk I I I I (fun hg=>jh (cC I hg) hI)<|aM I (fun hg=>kV (cC I hg) (fun H=>(cC I (tP hg H))))<|kf I<|dl h I (fun h=>?_) (fun h=>?_)
   ·exact bl<|cv<|fN<|ai<|ai<|so h▸gF (ts:=[aW 0,aW 201]) (rvs:=[.tmp 4,.tmp 5]) I I ⟨cD I,cD I,J⟩ ix I I
   ·refine lW<|bl<|bW tA od da I<|gv I<|bo I<|aM I (dF tA od I I)<|aM I (di da I I)<|aM I (nD I)<|kf I<|dl h I (fun h=>?_) (fun h=>?_)
    ·refine bd<|bo I<|j3 I<|bR ?_;exact cP (tD r1.1 h) (bu I)
    ·refine bT ?_;exact cP (tD (2:Int) h) (bu I)
  ·refine bT ?_;exact cP (tD (2:Int) h) (bu I)

def Rs tag l{R}(h:vc tag l=some R):de aQ 181 [aW tag,K ae l] (tT [K ae R.1,aW R.2]):=by
 exact ec Tryz.func181 I<|bl<|d6 I<|aV ci eb I fun b=>cv<|bX<|aI I<|af (co (y:=(⟨tag,(0:Int),(0:Int),(0:Int),IU⟩:ap)) iD EZ mZ (⟨_,_,_,_,_,I,oJ,I,(M I),I⟩))<|dk ci I<|af (aZ (r:=ae) (ys:=[l]) (xs:=[.tmp 8]) pH ci I I I I I ⟨(M I),J⟩)<|f9 h PD (Gr _ _) (dU I) fun r h=>dE I I<|dE I I<|cn ci al I<|aS 4 I<|a8 I<|so h▸mQ I I ⟨eS ci I I I,cD I,J⟩

def Rr tag l r{R}(h:yP tag l r=some R):de aQ 182 [aW tag,K ae l,K ae r] (tT [K ae R.1,aW R.2]):=by
 refine ec Tryz.func182 I<|bl<|d6 I<|d6 I<|aV ci eb I fun b=>cv<|bX<|aI I<|af (co (y:=(⟨tag,(0:Int),(0:Int),(0:Int),IU⟩:ap)) iD EZ mZ (⟨_,_,_,_,_,I,oJ,I,(M I),I⟩))<|dk ci I<|dk ci I<|af (aZ (r:=ae) (ys:=[l,r]) (xs:=[.tmp 10,.tmp 11]) pH ci I I I I I ⟨(M I),(M I),J⟩)<|f9 h PD (Gr _ _) (dU I) fun r1 h=>dE I I<|dE I I<|cn ci al I<|aS 6 I<|j3 I<|bR ?_;exact aJ<|xH<|so h▸mQ I I ⟨eS ci I I I,cD I,J⟩

set_option maxHeartbeats 4000000 in
def Pm: ∀(fu:Nat) (b:Nat) (ix:OI) (bslf:Nat) (s:ac) (t:cy) (leaf:(ap->Option (aB×Int))) (tags:(List (Int×Int))) (over:ac->Bool->Option ((List Int)×ac)) (i:Int) (group:Bool) {R:aB×Int×ac} (h:bE fu s t leaf tags over i group=some R),ek aQ 178 [aW i,lx group,aU bt t,aU (rT ((gn aQ zm DU (fun(x:ap)=>leaf x)))) (),aU (rT (tV (ak b 0))) (),aU (rT (zw (fun y:Int=>aW y) pV tags)) (),Qu 178 [aU bt t,aU (rT ((gn aQ zm DU (fun(x:ap)=>leaf x)))) (),aU (rT (tV (ak b 0))) (),aU (rT (zw (fun y:Int=>aW y) pV tags)) ()] [aU (rT (Cf (kh aQ sY (cx b) Fx over))) ()] bslf,aU (rT (Cf (kh aQ sY (cx b) Fx over))) ()] (cx b s ix) (fun _:OI=>tT [K ae R.1,aW R.2.1]) (fun j=>cx b R.2.2 j):=by
 intro fu
 induction fu with
 |zero=>intro b ix bslf s t leaf tags over i group R h;exact(nn h).elim
 |succ fu ihR=>
  intro b ix bslf s t leaf tags over i group R h
  refine ek.of Tryz.func178 I I I fun w0 S0=>?_;refine(show CG _ _ _ [bx (rH ax (z10 ix s)) 127 b s,Z Q 3 (ix.h 0).1 (ix.h 0).2 s.out.Tables,Z aD 71 (ix.h 1).1 (ix.h 1).2 s.out.Joins,Z Q 3 (ix.h 2).1 (ix.h 2).2 s.out.Keys,Z aR 73 (ix.h 3).1 (ix.h 3).2 s.out.Aggs,Z ae 62 (ix.h 4).1 (ix.h 4).2 s.out.Items,Z Q 3 (ix.h 5).1 (ix.h 5).2 s.kinds,Z Q 3 (ix.h 6).1 (ix.h 6).2 s.groups,br ke dn (ix.h 7).2 none (ix.oss 0) s.called,br dV dn (ix.h 8).2 none (ix.oss 1) s.alone,dG (fun y:Int=>aW y) iX (ix.h 9).2 s.behind] _ from ?_);refine bl<|aV ci eb I fun b1=>cv<|bX<|bl<|bW oS kB zt I<|bo I<|cL h fun e q_e h=>gp sr oB I q_e<|aV oB Bs I fun b2=>cn oB al I<|aS 12 I<|bX<|bv<|bW rD nL da I ?_;refine gv I<|dl h I (fun h=>?_) (fun h=>?_)
  ·exact bl<|af (pu Hc (M I))<|bW rC nK po I<|af (co (y:=(⟨(1:Int),(0:Int),(0:Int),(0:Int),e.Value⟩:ap)) iD EZ mZ (⟨_,_,_,_,_,I,oJ,I,hI,⟨_,_,_,_,_,I,Je,I,(M I),I⟩⟩))<|cL h fun r q_r h=>af (gN (args:=zm) (res:=S5) (f:=(fun(x:ap)=>leaf x)) (x:=(((⟨(1:Int),(0:Int),(0:Int),(0:Int),e.Value⟩:ap)):ap)) (M I) q_r ⟨(M I),J⟩)<|dE I I<|dE I I<|cn ci al I<|a8 I<|ai<|dm 10 I<|so h▸gF (ts:=[K ae r.1,aW r.2]) (rvs:=[.cell 10 62,.tmp 11]) I I ⟨eS ci I I I,cD I,J⟩ ix I I
  ·refine lW<|bv<|bW rD nL da I<|gv I<|dl h I (fun h=>?_) (fun h=>?_)
   ·refine bl<|af (qG He (M I))<|bW vM sL nR I<|bW tB qk nR I<|af (co (y:=(⟨e.Table,e.Name⟩:iN)) zr Vr Bu (⟨_,_,_,_,_,I,EA,I,(M I),⟨_,_,_,_,_,I,Ez,I,(M I),I⟩⟩))<|cL h fun r1 q_r1 h=>mW (mD (iH (xs:=[.tmp 45,.tmp 50]) (ts:=[tV (ak b 0),K eH (⟨e.Table,e.Name⟩:iN)]) (cx b s ix) _ I SF (Pn b ix s _ q_r1) ⟨(M I),(M I),J⟩ (fun _=>I))) I fun i1=>?_;refine(show RG _ _ _ _ [_,_,_,_,_,_,_,_,_,_,_,_] ((51,tT [aW r1.1,aW r1.2])::_)from ?_);refine bo I<|dE I I<|dE I I<|j3 I<|bw I ?_;refine Ap (aA:=fun at1 e1=>dv s leaf at1 e1=some R) (Of:=fun at1 e1=>[bx ae 62 b1 pW,bx (rH ax (z10 ix s)) 127 b s,Z Q 3 (ix.h 0).1 (ix.h 0).2 s.out.Tables,Z aD 71 (ix.h 1).1 (ix.h 1).2 s.out.Joins,Z Q 3 (ix.h 2).1 (ix.h 2).2 s.out.Keys,Z aR 73 (ix.h 3).1 (ix.h 3).2 s.out.Aggs,Z ae 62 (ix.h 4).1 (ix.h 4).2 s.out.Items,Z Q 3 (ix.h 5).1 (ix.h 5).2 s.kinds,Z Q 3 (ix.h 6).1 (ix.h 6).2 s.groups,br ke dn (ix.h 7).2 none (ix.oss 0) s.called,br dV dn (ix.h 8).2 none (ix.oss 1) s.alone,dG (fun y:Int=>aW y) iX (ix.h 9).2 s.behind]) (Gf:=fun at1 e1=>[(3,aU (rT ((gn aQ zm DU (fun(x:ap)=>leaf x)))) ()),(10,tV (ak b1 0)),(13,aW at1),(14,aW e1)]) (fun at1 e1 h=>?_) (fun tD=>?_)
    ·skip
     refine bv<|bo I<|iY I<|dl h I (fun h=>?_) (fun h=>?_)
     ·exact bl<|af (co ci JK eb I)<|bo I<|cn ci al I<|a8 I<|ai<|ai<|dm 10 I<|so h▸gF (ts:=[K ae pW,aW e1]) (rvs:=[.cell 10 62,.tmp 11]) I I ⟨eS ci I I I,cD I,J⟩ ix I I
     ·exact lW<|bl<|af (pu Hc (M I))<|bo I<|af (co (y:=(⟨(2:Int),(0:Int),(0:Int),at1,IU⟩:ap)) iD EZ mZ (⟨_,_,_,_,_,I,oJ,I,hI,⟨_,_,_,_,_,I,wZ,I,(M I),I⟩⟩))<|cL h fun r2 q_r2 h=>af (gN (args:=zm) (res:=S5) (f:=(fun(x:ap)=>leaf x)) (x:=(((⟨(2:Int),(0:Int),(0:Int),at1,IU⟩:ap)):ap)) (M I) q_r2 ⟨(M I),J⟩)<|dE I I<|dE I I<|cn ci al I<|a8 I<|ai<|dm 10 I<|so h▸gF (ts:=[K ae r2.1,aW r2.2]) (rvs:=[.cell 10 62,.tmp 11]) I I ⟨eS ci I I I,cD I,J⟩ ix I I
    ·skip
     refine aI I<|gv I<|bo I<|aG I (d7 I)<|im I<|dl h I (fun h=>?_) (fun h=>?_)
     ·refine bl<|af (qG He (M I))<|af (bB (M I))<|bF 10 fa I<|bF 16 z7 I<|af (eg iC I (.head _) (.tail _ (.tail _ (.tail _ (.head _)))) (M I))<|bo I<|f9 h Wa (Rt _ _) ⟨(pZ (M I)),(M I),J⟩ fun r3 h=>bw I<|aI I<|af (ir (M I) hI)<|dl h I (fun h=>?_) (fun h=>?_)
      ·refine bd<|cv<|bR<|ah<|ah<|ah<|ah<|ah<|ah<|ah<|ah<|ah<|ah<|ah<|bA ?_;exact cP (tD r3 (225:Int) h) (bu I)
      ·refine bT<|ah<|ah<|ah<|ah<|ah<|ah<|ah<|ah<|ah<|ah<|ah<|bA ?_;exact cP (tD r3 r1.2 h) (bu I)
     ·refine bT<|ah<|ah<|ah<|ah<|ah<|ah<|ah<|ah<|ah<|ah<|ah<|bA ?_;exact cP (tD r1.1 r1.2 h) (bu I)
   ·refine lW<|bl<|af (pu Er (M I))<|bW rD nL da I<|af (AL (γ:=(fun y:Int=>K Q y)) (z:=(0:Int)) BW (tg uv) WP (fun S=>⟨_,I,(fun _=>I) S⟩) (M I) (JF (M I)))<|bw I<|bl<|cu false ae 62<|af (ck zR)<|bX<|bv<|bW Lr E3 da I<|bW Lq E2 da I ?_;refine af (qj (r:=Q) (ys:=[e.L,e.R]) (xs:=[.tmp 83,.tmp 85]) BM da I FI I I ⟨(M I),(M I),J⟩)<|af (bL hI)<|bX ?_;refine NJ (aA:=fun parts l c x ob ix1=>fj leaf tags over group e parts x ob=some R) (Of:=fun parts l c x ob (ix1:OI)=>[fq ae 62 l c parts,bx ae 62 b1 x,bx (rH ax (z10 ix1 ob)) 127 b ob,Z Q 3 (ix1.h 0).1 (ix1.h 0).2 ob.out.Tables,Z aD 71 (ix1.h 1).1 (ix1.h 1).2 ob.out.Joins,Z Q 3 (ix1.h 2).1 (ix1.h 2).2 ob.out.Keys,Z aR 73 (ix1.h 3).1 (ix1.h 3).2 ob.out.Aggs,Z ae 62 (ix1.h 4).1 (ix1.h 4).2 ob.out.Items,Z Q 3 (ix1.h 5).1 (ix1.h 5).2 ob.kinds,Z Q 3 (ix1.h 6).1 (ix1.h 6).2 ob.groups,br ke dn (ix1.h 7).2 none (ix1.oss 0) ob.called,br dV dn (ix1.h 8).2 none (ix1.oss 1) ob.alone,dG (fun y:Int=>aW y) iX (ix1.h 9).2 ob.behind]) (Gf:=fun parts l c x ob ix1=>[(1,lx group),(3,aU (rT ((gn aQ zm DU (fun(x:ap)=>leaf x)))) ()),(4,aU (rT (tV (ak b 0))) ()),(7,aU (rT (Cf (kh aQ sY (cx b) Fx over))) ()),(10,tV (ak b1 0)),(12,aU cz e),(15,aW ((fD tags e.Tag).getD (0:Int))),(16,rW l c parts)]) (fun parts l c x ob ix1 h=>?_) (fun K1=>?_)
    ·skip
     refine aJ<|aN<|aq<|aI I<|af (jA (M I) hI)<|bo I<|aG I (d7 I)<|aG I (uA I)<|im I<|bw I<|sm h I (fun h=>?_) (fun h=>?_)
     ·exact bl<|af (co ci JK eb I)<|dx<|cn ci al I<|fN<|cQ<|dm 10 I<|aP<|so h▸gF (ts:=[K ae pW,aW 224]) (rvs:=[.cell 10 62,.tmp 11]) I I ⟨eS ci I I I,cD I,J⟩ ix1 I I
     ·refine aI I<|af (jA (M I) hI)<|bw I<|sm h I (fun h=>?_) (fun h=>?_)
      ·refine aI I<|af (co (y:=(⟨((fD tags e.Tag).getD (0:Int)),pW⟩:jJ)) Bc Xi IT (⟨_,_,_,_,_,I,Oi,I,(M I),I⟩))<|aV Bc IT I fun b3=>cn Bc al I<|bX ?_;refine lF (aA:=fun a1=>ep leaf ob a1=some R) (Of:=fun a1=>[bx ae 62 b1 x,bx aR 73 b3 a1,bx (rH ax (z10 ix1 ob)) 127 b ob,Z Q 3 (ix1.h 0).1 (ix1.h 0).2 ob.out.Tables,Z aD 71 (ix1.h 1).1 (ix1.h 1).2 ob.out.Joins,Z Q 3 (ix1.h 2).1 (ix1.h 2).2 ob.out.Keys,Z aR 73 (ix1.h 3).1 (ix1.h 3).2 ob.out.Aggs,Z ae 62 (ix1.h 4).1 (ix1.h 4).2 ob.out.Items,Z Q 3 (ix1.h 5).1 (ix1.h 5).2 ob.kinds,Z Q 3 (ix1.h 6).1 (ix1.h 6).2 ob.groups,br ke dn (ix1.h 7).2 none (ix1.oss 0) ob.called,br dV dn (ix1.h 8).2 none (ix1.oss 1) ob.alone,dG (fun y:Int=>aW y) iX (ix1.h 9).2 ob.behind]) (Gf:=fun a1=>[(3,aU (rT ((gn aQ zm DU (fun(x:ap)=>leaf x)))) ()),(4,aU (rT (tV (ak b 0))) ()),(10,tV (ak b1 0)),(21,tV (ak b3 0))]) (fun a1 h=>?_) (fun K2=>?_)
       ·skip
        refine bl<|af (qG He (M I))<|af (bz Bc I I cr (.tail _ (.head _)) (M I))<|cL h fun r4 q_r4 h=>mW (xE (mD (iH (xs:=[.tmp 133,.tmp 134]) (ts:=[tV (ak b 0),K aR a1]) (cx b ob ix1) _ I V9 (Un b ix1 ob _ q_r4) ⟨(M I),(M I),J⟩ (fun _=>I)))) I fun i2=>?_;refine(show RG _ _ _ _ [_,_,_,_,_,_,_,_,_,_,_,_,_] ((135,tT [aW r4.1,aW r4.2.1])::_)from ?_);refine bo I<|dE I I<|dE I I<|j3 I<|bw I<|bv<|bo I<|iY I<|dl h I (fun h=>?_) (fun h=>?_)
        ·exact bl<|af (co ci JK eb I)<|bo I<|xz<|cn ci al I<|a8 I<|ai<|cQ<|dm 10 I<|bA<|aP<|so h▸gF (ts:=[K ae pW,aW r4.2.1]) (rvs:=[.cell 10 62,.tmp 11]) I I ⟨eS ci I I I,cD I,J⟩ i2 I I
        ·exact lW<|bl<|af (pu Hc (M I))<|bo I<|af (co (y:=(⟨(2:Int),(0:Int),(0:Int),r4.1,IU⟩:ap)) iD EZ mZ (⟨_,_,_,_,_,I,oJ,I,hI,⟨_,_,_,_,_,I,wZ,I,(M I),I⟩⟩))<|cL h fun r5 q_r5 h=>af (gN (args:=zm) (res:=S5) (f:=(fun(x:ap)=>leaf x)) (x:=(((⟨(2:Int),(0:Int),(0:Int),r4.1,IU⟩:ap)):ap)) (M I) q_r5 ⟨(M I),J⟩)<|dE I I<|dE I I<|xz<|cn ci al I<|a8 I<|cQ<|dm 10 I<|bA<|aP<|so h▸gF (ts:=[K ae r5.1,aW r5.2]) (rvs:=[.cell 10 62,.tmp 11]) I I ⟨eS ci I I I,cD I,J⟩ i2 I I
       ·skip
        refine aI I<|af (fW pH (.tail _ (.head _)) (M I))<|af (jA (M I) hI)<|dl h I (fun h=>?_) (fun h=>?_)
        ·refine bd<|bo I<|cL h fun e2 q_e2 h=>af (bU pH ci (.tail _ (.head _)) (M I) hI q_e2)<|af (dd (r:=ae) (i:=(0:Int)) (foff:=0) ci I I cr I (.tail _ (.head _)) q_e2 (M I))<|bF 1 C6 I<|cn ci Oh I<|bR<|d5<|aP<|be<|be<|be<|be<|be<|be<|be<|be<|be<|be<|be<|bA<|be ?_;exact cP (K2 (jJ.mk (⟨((fD tags e.Tag).getD (0:Int)),pW⟩:jJ).Tag e2) h) (bu I)
        ·refine bT<|d5<|aP<|be<|be<|be<|be<|be<|be<|be<|be<|be<|be<|be<|bA<|be ?_;exact cP (K2 (⟨((fD tags e.Tag).getD (0:Int)),pW⟩:jJ) h) (bu I)
      ·refine bT<|ca<|aJ<|aN<|cL h fun e3 q_e3 h=>cL h fun r6 q_r6 h=>?_
       refine fm 11 [tc (aU Q e.Tag),tc (aW e.Tag),tc (rW l c parts),tc (tV (cK l ((0:Int).toNat*1+0))),tc (K ae e3),tc (tT [K ae r6.1,aW r6.2]),tc (tT [K ae r6.1,aW r6.2]),tc (K ae r6.1),tc (aW r6.2),([9],fun s=>tV (ak ((s.getD 0 nQ).h 0).2 0)),tc (rY)] [false,false,false,false,false,false,false,false,false,true,true] [fun _=>[fq ae 62 l c parts,bx ae 62 b1 x,bx (rH ax (z10 ix1 ob)) 127 b ob,Z Q 3 (ix1.h 0).1 (ix1.h 0).2 ob.out.Tables,Z aD 71 (ix1.h 1).1 (ix1.h 1).2 ob.out.Joins,Z Q 3 (ix1.h 2).1 (ix1.h 2).2 ob.out.Keys,Z aR 73 (ix1.h 3).1 (ix1.h 3).2 ob.out.Aggs,Z ae 62 (ix1.h 4).1 (ix1.h 4).2 ob.out.Items,Z Q 3 (ix1.h 5).1 (ix1.h 5).2 ob.kinds,Z Q 3 (ix1.h 6).1 (ix1.h 6).2 ob.groups,br ke dn (ix1.h 7).2 none (ix1.oss 0) ob.called,br dV dn (ix1.h 8).2 none (ix1.oss 1) ob.alone,dG (fun y:Int=>aW y) iX (ix1.h 9).2 ob.behind],fun sg=>[bx ae 62 ((sg 9).h 0).2 pW,fq ae 62 l c parts,bx ae 62 b1 x,bx (rH ax (z10 ix1 ob)) 127 b ob,Z Q 3 (ix1.h 0).1 (ix1.h 0).2 ob.out.Tables,Z aD 71 (ix1.h 1).1 (ix1.h 1).2 ob.out.Joins,Z Q 3 (ix1.h 2).1 (ix1.h 2).2 ob.out.Keys,Z aR 73 (ix1.h 3).1 (ix1.h 3).2 ob.out.Aggs,Z ae 62 (ix1.h 4).1 (ix1.h 4).2 ob.out.Items,Z Q 3 (ix1.h 5).1 (ix1.h 5).2 ob.kinds,Z Q 3 (ix1.h 6).1 (ix1.h 6).2 ob.groups,br ke dn (ix1.h 7).2 none (ix1.oss 0) ob.called,br dV dn (ix1.h 8).2 none (ix1.oss 1) ob.alone,dG (fun y:Int=>aW y) iX (ix1.h 9).2 ob.behind],fun sg=>[bx ae 62 ((sg 9).h 0).2 r6.1,fq ae 62 l c parts,bx ae 62 b1 x,bx (rH ax (z10 ix1 ob)) 127 b ob,Z Q 3 (ix1.h 0).1 (ix1.h 0).2 ob.out.Tables,Z aD 71 (ix1.h 1).1 (ix1.h 1).2 ob.out.Joins,Z Q 3 (ix1.h 2).1 (ix1.h 2).2 ob.out.Keys,Z aR 73 (ix1.h 3).1 (ix1.h 3).2 ob.out.Aggs,Z ae 62 (ix1.h 4).1 (ix1.h 4).2 ob.out.Items,Z Q 3 (ix1.h 5).1 (ix1.h 5).2 ob.kinds,Z Q 3 (ix1.h 6).1 (ix1.h 6).2 ob.groups,br ke dn (ix1.h 7).2 none (ix1.oss 0) ob.called,br dV dn (ix1.h 8).2 none (ix1.oss 1) ob.alone,dG (fun y:Int=>aW y) iX (ix1.h 9).2 ob.behind]] I mixed I I I I I
        ⟨⟨[⟨12,fun _=>aU cz e,none⟩],_,0,1,I,⟨(fun _=>I),J⟩,I,I,I,I,I,fun _ sg _ _=>aE I (wP rD nL I I)⟩,
        ⟨⟨[⟨149,fun _=>aU Q e.Tag,some 0⟩],_,0,1,I,⟨(fun _=>I),J⟩,I,I,I,I,I,fun _ sg _ _=>aE I (sX da I I)⟩,
        ⟨⟨[⟨16,fun _=>tV (Y l c parts.length),none⟩],_,0,1,I,⟨(fun _=>I),J⟩,I,I,I,I,I,fun _ sg _ _=>aE I (jr I)⟩,
        ⟨⟨[⟨151,fun _=>tV (Y l c parts.length),some 2⟩],_,0,1,I,⟨(fun _=>I),J⟩,I,I,I,I,I,qx (fun sg=>aE I (bU pH ci (.head _) (M I) hI q_e3)) (eY (fun sg=>aE I (bU pH ci (.tail _ (.head _)) (M I) hI q_e3)))⟩,
        ⟨⟨[⟨152,fun _=>tV (cK l ((0:Int).toNat*1+0)),some 3⟩],_,0,1,I,⟨(fun _=>I),J⟩,I,I,I,I,I,qx (fun sg=>aE I (dd (r:=ae) (i:=(0:Int)) (foff:=0) ci I I cr I (.head _) q_e3 (M I))) (eY (fun sg=>aE I (dd (r:=ae) (i:=(0:Int)) (foff:=0) ci I I cr I (.tail _ (.head _)) q_e3 (M I))))⟩,
        ⟨⟨[⟨150,fun _=>K Q e.Tag,some 1⟩,⟨153,fun _=>K ae e3,some 4⟩],_,0,1,I,⟨(fun _=>I),(fun _=>I),J⟩,I,I,I,I,I,fun _ sg _ _=>aE I (bN V8 (Rs _ _ q_r6) ⟨(M I),(M I),J⟩)⟩,
        ⟨⟨[⟨154,fun _=>tT [K ae r6.1,K Q r6.2],some 5⟩],_,0,1,I,⟨(fun _=>I),J⟩,I,I,I,I,I,fun _ sg _ _=>aE I (jr I)⟩,
        ⟨⟨[⟨148,fun _=>tT [K ae r6.1,K Q r6.2],some 6⟩],_,0,1,I,⟨(fun _=>I),J⟩,I,I,I,I,I,fun _ sg _ _=>aE I (wd I I)⟩,
        ⟨⟨[⟨148,fun _=>tT [K ae r6.1,K Q r6.2],some 6⟩],_,0,2,I,⟨(fun _=>I),J⟩,I,I,I,I,I,fun _ sg _ _=>aE I (wd I I)⟩,
        ⟨⟨[],_,I,J,I,I,I,fun sg=>bJ I (mM ci eb)⟩,
        ⟨⟨[⟨24,fun sg=>tV (ak ((sg 9).h 0).2 0),some 9⟩,⟨155,fun _=>K ae r6.1,some 7⟩],_,I,⟨(fun _=>I),(fun _=>I),J⟩,I,I,I,fun sg=>bJ I (dB ci I (uI al) I (M I) (M I))⟩,
        J⟩⟩⟩⟩⟩⟩⟩⟩⟩⟩⟩ (fun sg=>?_)
       refine(show RG _ _ _ _ [_,_,_,_,_,_,_,_,_,_,_,_,_,_] _ from ?_);refine bw I ?_;refine Ap (aA:=fun e4 x1=>gk over group ob e4 x1=some R) (Of:=fun e4 x1=>[bx ae 62 b1 x,bx ae 62 ((sg 9).h 0).2 x1,bx (rH ax (z10 ix1 ob)) 127 b ob,Z Q 3 (ix1.h 0).1 (ix1.h 0).2 ob.out.Tables,Z aD 71 (ix1.h 1).1 (ix1.h 1).2 ob.out.Joins,Z Q 3 (ix1.h 2).1 (ix1.h 2).2 ob.out.Keys,Z aR 73 (ix1.h 3).1 (ix1.h 3).2 ob.out.Aggs,Z ae 62 (ix1.h 4).1 (ix1.h 4).2 ob.out.Items,Z Q 3 (ix1.h 5).1 (ix1.h 5).2 ob.kinds,Z Q 3 (ix1.h 6).1 (ix1.h 6).2 ob.groups,br ke dn (ix1.h 7).2 none (ix1.oss 0) ob.called,br dV dn (ix1.h 8).2 none (ix1.oss 1) ob.alone,dG (fun y:Int=>aW y) iX (ix1.h 9).2 ob.behind]) (Gf:=fun e4 x1=>[(1,lx group),(7,aU (rT (Cf (kh aQ sY (cx b) Fx over))) ()),(10,tV (ak b1 0)),(24,tV (ak ((sg 9).h 0).2 0)),(25,aW e4)]) (fun e4 x1 h=>?_) (fun K3=>?_)
       ·skip
        refine sQ (aA:=fun e5 ob1 ix2=>mv x1 e5 ob1=some R) (Of:=fun e5 ob1 (ix2:OI)=>[bx ae 62 b1 x,bx ae 62 ((sg 9).h 0).2 x1,bx (rH ax (z10 ix2 ob1)) 127 b ob1,Z Q 3 (ix2.h 0).1 (ix2.h 0).2 ob1.out.Tables,Z aD 71 (ix2.h 1).1 (ix2.h 1).2 ob1.out.Joins,Z Q 3 (ix2.h 2).1 (ix2.h 2).2 ob1.out.Keys,Z aR 73 (ix2.h 3).1 (ix2.h 3).2 ob1.out.Aggs,Z ae 62 (ix2.h 4).1 (ix2.h 4).2 ob1.out.Items,Z Q 3 (ix2.h 5).1 (ix2.h 5).2 ob1.kinds,Z Q 3 (ix2.h 6).1 (ix2.h 6).2 ob1.groups,br ke dn (ix2.h 7).2 none (ix2.oss 0) ob1.called,br dV dn (ix2.h 8).2 none (ix2.oss 1) ob1.alone,dG (fun y:Int=>aW y) iX (ix2.h 9).2 ob1.behind]) (Gf:=fun e5 ob1 ix2=>[(10,tV (ak b1 0)),(24,tV (ak ((sg 9).h 0).2 0)),(25,aW e5)]) (fun e5 ob1 ix2 h=>?_) (fun K4=>?_)
        ·skip
         exact bl<|af (bz ci I I cr (.tail _ (.head _)) (M I))<|bo I<|cn ci al I<|a8 I<|dm 10 I<|aP<|so h▸gF (ts:=[K ae x1,aW e5]) (rvs:=[.cell 10 62,.tmp 11]) I I ⟨eS ci I I I,cD I,J⟩ ix2 I I
        ·skip
         refine aI I<|gv I<|dl h I (fun h=>?_) (fun h=>?_)
         ·refine cL h fun r7 q_r7 h=>cL h fun r8 q_r8 h=>?_
          refine fm 8 [tc (K ae x1),tc (kh aQ sY (cx b) Fx over),tc (lx group),tc (qq r7.1),tc (tT [aW r8.1,aW r8.2]),tc (tT [aW r8.1,aW r8.2]),tc (aW r8.1),tc (aW r8.2)] [false,false,false,true,false,false,false,false] [fun _=>[bx ae 62 b1 x,bx ae 62 ((sg 9).h 0).2 x1,bx (rH ax (z10 ix1 ob)) 127 b ob,Z Q 3 (ix1.h 0).1 (ix1.h 0).2 ob.out.Tables,Z aD 71 (ix1.h 1).1 (ix1.h 1).2 ob.out.Joins,Z Q 3 (ix1.h 2).1 (ix1.h 2).2 ob.out.Keys,Z aR 73 (ix1.h 3).1 (ix1.h 3).2 ob.out.Aggs,Z ae 62 (ix1.h 4).1 (ix1.h 4).2 ob.out.Items,Z Q 3 (ix1.h 5).1 (ix1.h 5).2 ob.kinds,Z Q 3 (ix1.h 6).1 (ix1.h 6).2 ob.groups,br ke dn (ix1.h 7).2 none (ix1.oss 0) ob.called,br dV dn (ix1.h 8).2 none (ix1.oss 1) ob.alone,dG (fun y:Int=>aW y) iX (ix1.h 9).2 ob.behind],fun sg1=>[bx (rH ax [(10,Y ((sg1 3).h 0).1 ((sg1 3).h 0).2 r7.2.out.Tables.length),(11,Y ((sg1 3).h 1).1 ((sg1 3).h 1).2 r7.2.out.Joins.length),(16,Y ((sg1 3).h 2).1 ((sg1 3).h 2).2 r7.2.out.Keys.length),(17,Y ((sg1 3).h 3).1 ((sg1 3).h 3).2 r7.2.out.Aggs.length),(18,Y ((sg1 3).h 4).1 ((sg1 3).h 4).2 r7.2.out.Items.length),(22,Y ((sg1 3).h 5).1 ((sg1 3).h 5).2 r7.2.kinds.length),(23,Y ((sg1 3).h 6).1 ((sg1 3).h 6).2 r7.2.groups.length),(19,am ((sg1 3).h 7).2),(20,am ((sg1 3).h 8).2),(21,am ((sg1 3).h 9).2)]) 127 b r7.2,Z Q 3 ((sg1 3).h 0).1 ((sg1 3).h 0).2 r7.2.out.Tables,Z aD 71 ((sg1 3).h 1).1 ((sg1 3).h 1).2 r7.2.out.Joins,Z Q 3 ((sg1 3).h 2).1 ((sg1 3).h 2).2 r7.2.out.Keys,Z aR 73 ((sg1 3).h 3).1 ((sg1 3).h 3).2 r7.2.out.Aggs,Z ae 62 ((sg1 3).h 4).1 ((sg1 3).h 4).2 r7.2.out.Items,Z Q 3 ((sg1 3).h 5).1 ((sg1 3).h 5).2 r7.2.kinds,Z Q 3 ((sg1 3).h 6).1 ((sg1 3).h 6).2 r7.2.groups,br ke dn ((sg1 3).h 7).2 none ((sg1 3).oss 0) r7.2.called,br dV dn ((sg1 3).h 8).2 none ((sg1 3).oss 1) r7.2.alone,dG (fun y:Int=>aW y) iX ((sg1 3).h 9).2 r7.2.behind,bx ae 62 ((sg 9).h 0).2 x1,bx ae 62 b1 x]] I mixed I I I I I
           ⟨⟨[⟨24,fun _=>tV (ak ((sg 9).h 0).2 0),none⟩],_,0,1,I,⟨(fun _=>I),J⟩,I,I,I,I,I,qx (fun sg1=>aE I (bz ci I I cr (.tail _ (.head _)) (M I))) (eY (fun sg1=>aE I (bz ci I I cr (.tail _ (.tail _ (.tail _ (.tail _ (.tail _ (.tail _ (.tail _ (.tail _ (.tail _ (.tail _ (.tail _ (.head _)))))))))))) (M I))))⟩,
           ⟨⟨[⟨7,fun _=>aU (rT (Cf (kh aQ LX (cx b) LZ over))) (),none⟩],_,0,0,I,⟨(fun _=>I),J⟩,I,I,I,I,I,fun _ sg1 _ _=>aE I (EI KS (M I))⟩,
           ⟨⟨[⟨1,fun _=>K rB group,none⟩],_,0,0,I,⟨(fun _=>I),J⟩,I,I,I,I,I,fun _ sg1 _ _=>aE I (jr I)⟩,
           ⟨⟨[⟨176,fun _=>kh aQ LX (cx b) LZ over,some 1⟩,⟨177,fun _=>K rB group,some 2⟩],_,I,⟨(fun _=>I),(fun _=>I),J⟩,I,I,I,fun sg1=>bJ I (xE (mD (tH (args:=LX) (Ob:=cx b) (res:=LZ) (f:=over) (x:=ob) (y:=((group):Bool)) (R:=r7) (i:=ix1) (xs:=[.tmp 177]) _ I (M I) q_r7 ⟨(M I),J⟩ (fun _=>I))))⟩,
           ⟨⟨[⟨175,fun _=>K ae x1,some 0⟩,⟨178,fun _=>K A7 r7.1,some 3⟩],_,1,1,I,⟨(fun _=>I),(fun _=>I),J⟩,I,I,I,I,I,fun _ sg1 _ _=>aE I (bN Kd (xu _ _ q_r8) ⟨(M I),(M I),J⟩)⟩,
           ⟨⟨[⟨179,fun _=>tT [K Q r8.1,K Q r8.2],some 4⟩],_,1,1,I,⟨(fun _=>I),J⟩,I,I,I,I,I,fun _ sg1 _ _=>aE I (jr I)⟩,
           ⟨⟨[⟨174,fun _=>tT [K Q r8.1,K Q r8.2],some 5⟩],_,1,1,I,⟨(fun _=>I),J⟩,I,I,I,I,I,fun _ sg1 _ _=>aE I (wd I I)⟩,
           ⟨⟨[⟨174,fun _=>tT [K Q r8.1,K Q r8.2],some 5⟩],_,1,1,I,⟨(fun _=>I),J⟩,I,I,I,I,I,fun _ sg1 _ _=>aE I (wd I I)⟩,
           J⟩⟩⟩⟩⟩⟩⟩⟩ (fun sg1=>?_)
          refine(show RG _ _ _ _ [_,_,_,_,_,_,_,_,_,_,_,_,_] _ from ?_);refine j3 I<|bR<|ah<|ah<|ah<|ah<|ah<|ah<|ah<|ah<|ah<|ah<|ah<|bA<|be ?_;exact cP (K4 r8.2 r7.2 (sg1 3) h) (bu I)
         ·refine bT ?_;exact cP (K4 e4 ob ix1 h) (bu I)
       ·skip
        refine aI I<|af (fW pH (.tail _ (.head _)) (M I))<|gv I<|dl h I (fun h=>?_) (fun h=>?_)
        ·refine cL h fun e6 q_e6 h=>cL h fun r9 q_r9 h=>?_
         refine fm 13 [tc (aU Q e.Tag),tc (aW e.Tag),tc (rW l c parts),tc (tV (cK l ((0:Int).toNat*1+0))),tc (K ae e3),tc (rW l c parts),tc (tV (cK l ((1:Int).toNat*1+0))),tc (K ae e6),tc (tT [K ae r9.1,aW r9.2]),tc (tT [K ae r9.1,aW r9.2]),tc (K ae r9.1),tc (aW r9.2),tc (rY)] [false,false,false,false,false,false,false,false,false,false,false,false,true] [fun _=>[bx ae 62 ((sg 9).h 0).2 r6.1,fq ae 62 l c parts,bx ae 62 b1 x,bx (rH ax (z10 ix1 ob)) 127 b ob,Z Q 3 (ix1.h 0).1 (ix1.h 0).2 ob.out.Tables,Z aD 71 (ix1.h 1).1 (ix1.h 1).2 ob.out.Joins,Z Q 3 (ix1.h 2).1 (ix1.h 2).2 ob.out.Keys,Z aR 73 (ix1.h 3).1 (ix1.h 3).2 ob.out.Aggs,Z ae 62 (ix1.h 4).1 (ix1.h 4).2 ob.out.Items,Z Q 3 (ix1.h 5).1 (ix1.h 5).2 ob.kinds,Z Q 3 (ix1.h 6).1 (ix1.h 6).2 ob.groups,br ke dn (ix1.h 7).2 none (ix1.oss 0) ob.called,br dV dn (ix1.h 8).2 none (ix1.oss 1) ob.alone,dG (fun y:Int=>aW y) iX (ix1.h 9).2 ob.behind],fun sg2=>[bx ae 62 ((sg 9).h 0).2 r9.1,fq ae 62 l c parts,bx ae 62 b1 x,bx (rH ax (z10 ix1 ob)) 127 b ob,Z Q 3 (ix1.h 0).1 (ix1.h 0).2 ob.out.Tables,Z aD 71 (ix1.h 1).1 (ix1.h 1).2 ob.out.Joins,Z Q 3 (ix1.h 2).1 (ix1.h 2).2 ob.out.Keys,Z aR 73 (ix1.h 3).1 (ix1.h 3).2 ob.out.Aggs,Z ae 62 (ix1.h 4).1 (ix1.h 4).2 ob.out.Items,Z Q 3 (ix1.h 5).1 (ix1.h 5).2 ob.kinds,Z Q 3 (ix1.h 6).1 (ix1.h 6).2 ob.groups,br ke dn (ix1.h 7).2 none (ix1.oss 0) ob.called,br dV dn (ix1.h 8).2 none (ix1.oss 1) ob.alone,dG (fun y:Int=>aW y) iX (ix1.h 9).2 ob.behind]] I mixed I I I I I
          ⟨⟨[⟨12,fun _=>aU cz e,none⟩],_,0,0,I,⟨(fun _=>I),J⟩,I,I,I,I,I,fun _ sg2 _ _=>aE I (wP rD nL I I)⟩,
          ⟨⟨[⟨161,fun _=>aU Q e.Tag,some 0⟩],_,0,0,I,⟨(fun _=>I),J⟩,I,I,I,I,I,fun _ sg2 _ _=>aE I (sX da I I)⟩,
          ⟨⟨[⟨16,fun _=>tV (Y l c parts.length),none⟩],_,0,0,I,⟨(fun _=>I),J⟩,I,I,I,I,I,fun _ sg2 _ _=>aE I (jr I)⟩,
          ⟨⟨[⟨163,fun _=>tV (Y l c parts.length),some 2⟩],_,0,0,I,⟨(fun _=>I),J⟩,I,I,I,I,I,eY (fun sg2=>aE I (bU pH ci (.tail _ (.head _)) (M I) hI q_e3))⟩,
          ⟨⟨[⟨164,fun _=>tV (cK l ((0:Int).toNat*1+0)),some 3⟩],_,0,0,I,⟨(fun _=>I),J⟩,I,I,I,I,I,eY (fun sg2=>aE I (dd (r:=ae) (i:=(0:Int)) (foff:=0) ci I I cr I (.tail _ (.head _)) q_e3 (M I)))⟩,
          ⟨⟨[⟨16,fun _=>tV (Y l c parts.length),none⟩],_,0,0,I,⟨(fun _=>I),J⟩,I,I,I,I,I,fun _ sg2 _ _=>aE I (jr I)⟩,
          ⟨⟨[⟨166,fun _=>tV (Y l c parts.length),some 5⟩],_,0,0,I,⟨(fun _=>I),J⟩,I,I,I,I,I,eY (fun sg2=>aE I (bU pH ci (.tail _ (.head _)) (M I) hI q_e6))⟩,
          ⟨⟨[⟨167,fun _=>tV (cK l ((1:Int).toNat*1+0)),some 6⟩],_,0,0,I,⟨(fun _=>I),J⟩,I,I,I,I,I,eY (fun sg2=>aE I (dd (r:=ae) (i:=(1:Int)) (foff:=0) ci I I cr I (.tail _ (.head _)) q_e6 (M I)))⟩,
          ⟨⟨[⟨162,fun _=>K Q e.Tag,some 1⟩,⟨165,fun _=>K ae e3,some 4⟩,⟨168,fun _=>K ae e6,some 7⟩],_,0,0,I,⟨(fun _=>I),(fun _=>I),(fun _=>I),J⟩,I,I,I,I,I,fun _ sg2 _ _=>aE I (bN V7 (Rr _ _ _ q_r9) ⟨(M I),(M I),(M I),J⟩)⟩,
          ⟨⟨[⟨169,fun _=>tT [K ae r9.1,K Q r9.2],some 8⟩],_,0,0,I,⟨(fun _=>I),J⟩,I,I,I,I,I,fun _ sg2 _ _=>aE I (jr I)⟩,
          ⟨⟨[⟨160,fun _=>tT [K ae r9.1,K Q r9.2],some 9⟩],_,0,0,I,⟨(fun _=>I),J⟩,I,I,I,I,I,fun _ sg2 _ _=>aE I (wd I I)⟩,
          ⟨⟨[⟨160,fun _=>tT [K ae r9.1,K Q r9.2],some 9⟩],_,0,1,I,⟨(fun _=>I),J⟩,I,I,I,I,I,fun _ sg2 _ _=>aE I (wd I I)⟩,
          ⟨⟨[⟨24,fun _=>tV (ak ((sg 9).h 0).2 0),none⟩,⟨170,fun _=>K ae r9.1,some 10⟩],_,I,⟨(fun _=>I),(fun _=>I),J⟩,I,I,I,fun sg2=>bJ I (dB ci I (uI al) I (M I) (M I))⟩,
          J⟩⟩⟩⟩⟩⟩⟩⟩⟩⟩⟩⟩⟩ (fun sg2=>?_)
         refine(show RG _ _ _ _ [_,_,_,_,_,_,_,_,_,_,_,_,_,_] _ from ?_);refine j3 I<|bR<|d5<|aP<|be<|be<|be<|be<|be<|be<|be<|be<|be<|be<|be<|bA<|be ?_;exact cP (K3 r9.2 r9.1 h) (bu I)
        ·refine bT<|d5<|aP<|be<|be<|be<|be<|be<|be<|be<|be<|be<|be<|be<|bA<|be ?_;exact cP (K3 r6.2 r6.1 h) (bu I)
    ·skip
     refine bO ?_;refine aO (LQ (aA:=fun k i3 parts1 l15 c15 x2 ob2 ix3=>(2-i3=k)/\du (bE fu) t leaf tags over group e k i3 parts1 x2 ob2=some R) (Of:=fun _ i3 parts1 l15 c15 x2 ob2 (ix3:OI)=>[fq ae 62 l15 c15 parts1,bx ae 62 b1 x2,bx (rH ax (z10 ix3 ob2)) 127 b ob2,Z Q 3 (ix3.h 0).1 (ix3.h 0).2 ob2.out.Tables,Z aD 71 (ix3.h 1).1 (ix3.h 1).2 ob2.out.Joins,Z Q 3 (ix3.h 2).1 (ix3.h 2).2 ob2.out.Keys,Z aR 73 (ix3.h 3).1 (ix3.h 3).2 ob2.out.Aggs,Z ae 62 (ix3.h 4).1 (ix3.h 4).2 ob2.out.Items,Z Q 3 (ix3.h 5).1 (ix3.h 5).2 ob2.kinds,Z Q 3 (ix3.h 6).1 (ix3.h 6).2 ob2.groups,br ke dn (ix3.h 7).2 none (ix3.oss 0) ob2.called,br dV dn (ix3.h 8).2 none (ix3.oss 1) ob2.alone,dG (fun y:Int=>aW y) iX (ix3.h 9).2 ob2.behind]) (Gf:=fun _ i3 parts1 l15 c15 x2 ob2 ix3=>[(1,lx group),(3,aU (rT ((gn aQ zm DU (fun(x:ap)=>leaf x)))) ()),(4,aU (rT (tV (ak b 0))) ()),(6,Qu 178 [aU bt t,aU (rT ((gn aQ zm DU (fun(x:ap)=>leaf x)))) (),aU (rT (tV (ak b 0))) (),aU (rT (zw (fun y:Int=>aW y) pV tags)) ()] [aU (rT (Cf (kh aQ sY (cx b) Fx over))) ()] bslf),(7,aU (rT (Cf (kh aQ sY (cx b) Fx over))) ()),(10,tV (ak b1 0)),(12,aU cz e),(15,aW ((fD tags e.Tag).getD (0:Int))),(16,rW l15 c15 parts1),(86,K Fy ([e.L,e.R])),(87,aW (i3:Int))]) (fun i3 parts1 l15 c15 x2 ob2 ix3 h=>?_) (fun k1 ih1 i3 parts1 l15 c15 x2 ob2 ix3 h=>?_) 2 0 ([]:List aB) none 0 pW s ix ⟨I,h⟩) (bu I)
     ·obtain⟨D,h⟩:=h
      refine gJ<|bl<|af (ir (M I) hI)<|bX<|aN<|pE (M I) (OM D)<|gL<|aH<|aH<|dP ?_;exact cP (K1 parts1 l15 c15 x2 ob2 ix3 h) (bu I)
     ·obtain⟨D,h⟩:=h
      refine gJ<|bl<|af (ir (M I) hI)<|bX<|aN<|pD (M I) (OL D)<|lW<|aN<|aq<|bl<|cL h fun e8 q_e8 h=>af (vH BM da I I (M I) (M I) q_e8)<|bw I<|bv<|bo I<|af (ir (M I) hI) ?_;refine dl h I (fun h=>?_) (fun h=>?_)
      ·refine gL<|aH<|cd I<|aH<|aH<|dP ?_;exact cP (K1 parts1 l15 c15 x2 ob2 ix3 h) (bu I)
      ·refine lW<|bl<|af (EK KR (M I))<|bo I<|bo I<|bo I<|aG I (d7 I)<|aG I (nD I)<|im I<|cL h fun r10 q_r10 h=>mW (xE (mD (Dg (xs:=[.tmp 94,.tmp 99]) (ts:=[aW e8,lx (group&&(((fD tags e.Tag).getD (0:Int))==(0:Int)))]) (cx b ob2 ix3) _ I (M I) (cp:= .tmp 6) (M I) SD (ihR b ix3 bslf ob2 _ _ _ _ _ _ q_r10) ⟨(M I),(M I),J⟩ (fun _=>I)))) I fun i4=>?_;refine(show RG _ _ _ _ [_,_,_,_,_,_,_,_,_,_,_,_,_] ((100,tT [K ae r10.1,aW r10.2.1])::_)from ?_);refine bo I<|dE I I<|dE I I<|aV ci eb I fun b4=>cn ci al I<|aS 19 I<|bw I<|bv<|bo I<|iY I<|dl h I (fun h=>?_) (fun h=>?_)
       ·exact bl<|dk ci I<|bo I<|xA<|cn ci al I<|a8 I<|ai<|cQ<|ai<|cQ<|dm 10 I<|bA<|aP<|so h▸gF (ts:=[K ae r10.1,aW r10.2.1]) (rvs:=[.cell 10 62,.tmp 11]) I I ⟨eS ci I I I,cD I,J⟩ i4 I I
       ·refine lW<|bd<|bo I<|dk ci I<|af (aZ (r:=ae) (ys:=[r10.1]) (xs:=[.tmp 108]) pH ci I I I I I ⟨(M I),J⟩)<|xz<|cL h fun parts2 q_parts2 h=>ev ci I I I I pH I I (M I) (M I) q_parts2 fun l23 c23=>j3 I<|bR<|ca<|aJ<|bd<|af (ta (ML D (by decide)) (M I) hI)<|bo I<|bR<|bA<|bA<|bA<|bA<|bA<|bA<|bA ?_;refine bA<|bA<|bA<|bA<|be<|be ?_;exact bf (aO (ih1 (i3+1) parts2 l23 c23 x2 r10.2.2 i4 ⟨MK D,h⟩) (bu I))
def Uo(b:Nat)(ix:OI)(bslf:Nat) s t leaf tags over i group{R}(h:om s t leaf tags over i group=some R):ek aQ 178 [aW i,lx group,aU bt t,aU (rT ((gn aQ zm DU (fun(x:ap)=>leaf x)))) (),aU (rT (tV (ak b 0))) (),aU (rT (zw (fun y:Int=>aW y) pV tags)) (),Qu 178 [aU bt t,aU (rT ((gn aQ zm DU (fun(x:ap)=>leaf x)))) (),aU (rT (tV (ak b 0))) (),aU (rT (zw (fun y:Int=>aW y) pV tags)) ()] [aU (rT (Cf (kh aQ sY (cx b) Fx over))) ()] bslf,aU (rT (Cf (kh aQ sY (cx b) Fx over))) ()] (cx b s ix) (fun _:OI=>tT [K ae R.1,aW R.2.1]) (fun j=>cx b R.2.2 j):=Pm nA b ix bslf s t leaf tags over i group h

end Go.Proofs.YthbdkceckjihgaaGreatDoor

