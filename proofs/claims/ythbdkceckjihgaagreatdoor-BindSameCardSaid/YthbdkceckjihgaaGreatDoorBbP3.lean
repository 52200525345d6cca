/- du of this claim: P3. -/
import Derived.Test.YthbdkceckjihgaaGreatDoorBbT
import Derived.Test.YthbdkceckjihgaaGreatDoorBbP2
set_option linter.all false
namespace Go.Proofs.YthbdkceckjihgaaGreatDoor
open Go
set_option maxRecDepth 100000

set_option maxHeartbeats 4000000 in
def aap(b:Nat)(ix:OI) s{R}(h:jd s=some R):ea aZ 93 [tV (an b 0)] (dx b s ix) (fun _:OI=>bd R.1) (fun j=>dx b R.2 j):=by
 refine ea.of Tryz.func93 I I I fun w0 S0=>?_;refine(show CG _ _ _ [bx (rH aU (z10 ix s)) 127 b s,K aP 3 (ix.h 0).1 (ix.h 0).2 s.out.Tables,K aw 71 (ix.h 1).1 (ix.h 1).2 s.out.Joins,K aP 3 (ix.h 2).1 (ix.h 2).2 s.out.Keys,K aN 73 (ix.h 3).1 (ix.h 3).2 s.out.Aggs,K ac 62 (ix.h 4).1 (ix.h 4).2 s.out.Items,K aP 3 (ix.h 5).1 (ix.h 5).2 s.kinds,K aP 3 (ix.h 6).1 (ix.h 6).2 s.groups,ci mU ez (ix.h 7).2 none (ix.oss 0) s.called,ci ff ez (ix.h 8).2 none (ix.oss 1) s.alone,eQ (fun y:Int=>bd y) lg (ix.h 9).2 s.behind] _ from ?_);refine aY<|bG<|bO<|aH I<|Q (bl (M I))<|bv 24 yk I<|fA (dq cF I (wa (hs' :=(z10 ix s)) sK ⟨.inr ⟨I,I⟩,.inr ⟨I,I⟩,.inr ⟨I,I⟩,.inr ⟨I,I⟩,.inr ⟨I,I⟩,.inr ⟨I,I⟩,.inr ⟨I,I⟩,.inr ⟨I,I⟩,.inr ⟨I,I⟩,.inr ⟨I,I⟩,d⟩ I) I (M I) hI) fun i=>?_;refine(show RG _ _ _ _ [_,_,_,_,_,_,_,_,_,_,_] _ from ?_);refine bO<|aH I<|aX I<|Q (bl (M I))<|bv 1 oV I<|bv 4 J5 I<|Q (bB (r:=rH aU (z10 ix s)) (x:=({s with at_:=(0:Int)}:am)) vU I I (nD (fq jy ww)) (.head _) (M I))<|cq h fun r q_r h=>jl (d7 (xs:=[.tmp 6,.tmp 11]) (ts:=[tV (an b 0),H bg ((({s with at_:=(0:Int)}:am).from_).From)]) (dx b ({s with at_:=(0:Int)}:am) ix) _ I Xr (TB b ix ({s with at_:=(0:Int)}:am) _ q_r) ⟨(M I),(M I),d⟩ (fun _=>I)) I fun i1=>?_;refine(show RG _ _ _ _ [_,_,_,_,_,_,_,_,_,_,_] ((12,bd r.1)::_)from ?_);exact be I<|so h▸er I i1 I I (fun _ _ h=>h)

def PQ tag{R}(h:sY tag=some R):cI aZ 119 [bd tag] (bd R):=by
 refine dm Tryz.func119 I<|aY<|bG<|bO<|aD<|ai<|aH I<|dw I<|aX I<|au I (da I)<|au I (mV I)<|eu I<|bj I<|mA h I (fun h=>?_) (fun h=>?_)
 ·exact aY<|dJ<|bZ<|so h▸aq I I
 ·refine aH I<|Q (fh (M I) hI)<|aX I<|ap I (da I)<|ap I (fun D=>kD (bF I D) hI)<|eV I<|bj I<|mA h I (fun h=>?_) (fun h=>?_)
  ·exact aY<|dJ<|bZ<|so h▸aq I I
  ·refine aH I<|Q (fh (M I) hI)<|aX I<|ap I (da I)<|ap I (fun D=>kD (bF I D) hI)<|eV I<|bj I<|mA h I (fun h=>?_) (fun h=>?_)
   ·exact aY<|dJ<|bZ<|so h▸aq I I
   ·exact bk<|bq<|av<|aY<|dJ<|so h▸aq I I

def V9 n{R}(h:wC n=some R):cI aZ 155 [H br n] (im R):=by
 refine dm Tryz.func155 I<|aY<|cK I<|bw<|bO<|aT<|ba mZ gQ cF I<|bO<|ai<|aY<|dw I<|bj I<|mA h I (fun h=>?_) (fun h=>?_)
 ·exact aY<|ba wB nV lB I<|eo h Xk (PF _) (dd I) fun r h=>aX I<|ap I (bR pW jz I I)<|ap I (bM cF I I)<|ap I (mV I)<|eV I<|be I<|bZ<|so h▸aq I I
 ·refine aY<|dw I<|bj I<|mA h I (fun h=>?_) (fun h=>?_)
  ·exact aY<|ba wB nV lB I<|Q (bU lB C3 od I)<|Q (xU C9 (M I) (M I))<|aX I<|ap I (bR pW jz I I)<|ap I (bM cF I I)<|ap I (fun D=>fh (bF I D) hI)<|eV I<|aX I<|ap I (bR pW jz I I)<|ap I (bM cF I I)<|ap I (fun D=>eP (bF I D) hI)<|eV I<|be I<|bZ<|so h▸aq I I
  ·exact bk<|bq<|av<|aY<|ba wB nV lB I<|Q (bU lB C3 od I)<|Q (xU C9 (M I) (M I))<|aX I<|ap I (bR pW jz I I)<|ap I (bM cF I I)<|ap I (mV I)<|eV I<|be I<|so h▸aq I I

def Wp e{R}(h:zG e=some R):cI aZ 114 [H ac e] (tT [pE R.1,im R.2]):=by
 refine dm Tryz.func114 I<|aY<|cK I<|xa aP<|bw<|bO<|aY<|cj false aP 3<|Q (cg y6)<|cj false aP 3<|Q (cg y6)<|bO<|aT<|ba j4 gn sv I<|bW mz I<|Q (bC hI)<|bz ?_;refine av<|ai<|aO (k:=15) I fun hN=>bp<|ie ?_;refine ay (z2 (h2:=fun ls i all l c open1 l1 c1=>(e.Nodes.drop i=ls)/\md ls i all open1=some R) (Of:=fun _ i all l c open1 l1 c1=>[gb aP 3 l c all,gb aP 3 l1 c1 open1]) (Gf:=fun _ i all l c open1 l1 c1=>[(4,sn l c all),(5,sn l1 c1 open1),(15,fm (br) e.Nodes),(16,iK e.Nodes),(17,bd (i:Int))]) (fun i all l c open1 l1 c1 h=>?_) (fun e1 tl ih i all l c open1 l1 c1 h=>?_) e.Nodes 0 w9 none 0 w9 none 0 ⟨I,h⟩) (bb I)
 ·obtain⟨A,h⟩:=h
  refine dh A I<|av<|aH I<|aX I<|Q (iv fH (.tail _ (.head _)) (M I))<|dw I<|aX I<|ap I (da I)<|ap I (fun D=>iv fH (.head _) (bF I D))<|ap I (fun D=>kD (bF I D) hI)<|eV I ?_;exact gE I<|be I<|tg<|jj 4 I<|jj 84 I<|jj 2 I<|nC 2 I<|aM<|aM<|so h▸cX I I I
 ·obtain⟨A,h⟩:=h
  refine dg A I<|aD<|ai<|aH I<|dE mz eJ I (df A)<|aV eJ iS I fun b=>gE I<|bL eJ aj I<|aK 7 I<|bO<|aD ?_;refine aJ<|ba mZ gQ cF I<|eo h Xy (PQ _) (dd I) fun r h=>bj I<|aT<|aX I<|Q (eP (M I) hI)<|aX I<|au I (da I)<|au I (da I)<|au I (fun D=>iv fH (.tail _ (.head _)) (bF I D))<|au I (fun D=>fa (bF I D) (bF I D))<|eu I<|aX I<|cq h fun t q_t h=>au I (fun D=>qN eJ I I) ?_
  obtain⟨r1,h1t,h0t⟩:=og q_t
  have q_r1g:=fun Y=>(h1t Y).1
  refine au I (fun D=>bn abm (V9 _ (q_r1g D)) ⟨(bF I D),d⟩)<|au I (sy I)<|Q (cV (M I) (fun Y=>(bF I (nR Y))) (fun Y=>(h1t Y).2) h0t)<|bY h I (fun h=>?_) (fun h=>?_)
  ·exact aY<|xa aP<|bw<|cw<|af<|bZ<|af<|bZ<|aM<|aM<|so h▸cX I I I
  ·refine gC<|aH I<|aX I<|Q (iv fH (.tail _ (.head _)) (M I))<|aX I<|Q (fv (M I) (M I))<|cq h fun y q_y h=>Q (tZ fH cF I (.tail _ (.head _)) (M I) (M I) q_y)<|sk (.tail _ (.head _)) q_y fun hv=>bj I<|aY<|Q (sO (r:=aP) (ys:=[mi,mi]) (xs:=[.const (.int .i64 (-1)),.const (.int .i64 (-1))]) FR cF I JE I I ⟨hI,hI,d⟩)<|aV (r:=Jw) (x:=(List.replicate 2 (0:Int))) JE (fun _=>HB (r:=aP) 2 (fun _=>I) _) I fun b1=>bL JE aj I<|bO<|aY ?_;refine aX I<|bj I<|aT<|aX I<|Q (Pf fH (.tail _ (.tail _ (.head _))) q_y (M I))<|Q (bC hI)<|bO<|ai ?_
   have hN1:=hv.2
   refine bp<|ki<|ki ?_;refine ay (uf (h2:=fun ls1 i1 first at1=>(y.drop i1=ls1)/\np (md tl) i e1 all open1 r ls1 i1 first at1=some R) (Of:=fun _ i1 first at1=>[gb aP 3 l c all,gb aP 3 l1 c1 open1,bx Jw 80 b1 at1]) (Gf:=fun _ i1 first at1=>[(4,sn l c all),(5,sn l1 c1 open1),(6,bd (i:Int)),(7,bt br e1),(8,bd r),(10,tV (an b1 0)),(11,bd first),(15,fm (br) e.Nodes),(16,iK e.Nodes),(17,bd (i:Int)),(46,tV (o0 1 l1 c1 (IntKind.i64.wrap ((open1.length:Int)-r)).toNat y.length)),(47,iK y),(48,bd (i1:Int))]) (fun i1 first at1 h=>?_) (fun e2 tl1 ih1 i1 first at1 h=>?_) y 0 (i:Int) ([mi,mi]) ⟨I,h⟩) (bb I)
   ·obtain⟨hx1,h⟩:=h
    refine dh hx1 I<|av<|aT<|Q (bB JE I I cD (.tail _ (.tail _ (.head _))) (M I))<|ba oW mQ cF I<|ba nX mb cF I<|Q (sO (r:=aP) (ys:=[e1.L,e1.R]) (xs:=[.tmp 65,.tmp 67]) FR cF I JE I I ⟨(M I),(M I),d⟩)<|Q (xT ab9 (M I) (M I))<|bz ?_;refine av<|mA h I (fun h=>?_) (fun h=>?_)
    ·exact aY<|xa aP<|bw<|cw<|af<|bZ<|af<|bZ<|aM<|aM<|aM<|so h▸cX I I I
    ·refine gC<|aH I<|aX I<|Q (a8 (r:=aP) (ys:=[first]) (xs:=[.tmp 71]) fH cF I I I I I ⟨(M I),d⟩)<|cq h fun all1 q_all1 h=>d8 cF I I I I fH I I (M I) (M I) q_all1 fun l2 c2=>bj I<|aJ<|aX I<|aX I<|Q (iv fH (.tail _ (.head _)) (M I))<|aX I<|Q (fv (M I) (M I))<|cq h fun y1 q_y1 h=>Q (wj fH cF I (.tail _ (.head _)) (M I) (M I) q_y1)<|aX I<|Q (a8 (r:=aP) (ys:=[(i:Int)]) (xs:=[.tmp 80]) fH cF I I I I I ⟨(M I),d⟩)<|dW<|Kx q_y1 ?_;refine cq h fun open2 q_open2 h=>d8 cF I I I I fH I I (M I) (M I) q_open2 fun l3 c3=>gE I<|bz<|cR A hN I<|gu<|aM<|dM ?_;exact aS (ay (ih (i+1) all1 l2 c2 open2 l3 c3 ⟨cM A,h⟩) (bb I))
   ·obtain⟨hx1,h⟩:=h
    refine dg hx1 I<|aD<|ai<|aH I<|Q (A7 fH cF I (.tail _ (.head _)) q_y (M I) (M I) (df hx1))<|Q (dQ (r:=aP) (i:=((IntKind.i64.wrap ((open1.length:Int)-r))+(i1:Int))) (foff:=0) cF I I cD I (.tail _ (.head _)) (Bz q_y (df hx1)).1 (M I))<|gE I<|bj I<|cq h fun e3 q_e3 h=>cq h fun e4 q_e4 h=>cq h fun ar q_ar h=>?_
    refine ek 10 [tc (bd (i1:Int)),tc (bd e2),tc (bd first),tc (sn l c all),tc (bd e2),tc (tV (dS l (e2.toNat*1+0))),tc (bd e3),tc (bd (min first e3)),tc (tV (an b1 ((i1:Int).toNat*1))),tc (tR)] [false,false,false,false,false,false,false,false,false,true] [fun _=>[gb aP 3 l c all,gb aP 3 l1 c1 open1,bx Jw 80 b1 at1],fun sg=>[bx Jw 80 b1 ar,gb aP 3 l c all,gb aP 3 l1 c1 open1]] I mixed I I I I I
     ⟨⟨[⟨12,fun _=>H aP (i1:Int),none⟩],_,0,0,I,⟨(fun _=>I),d⟩,I,I,I,I,I,fun _ sg _ _=>aa I (gH I)⟩,
     ⟨⟨[⟨13,fun _=>H aP e2,none⟩],_,0,0,I,⟨(fun _=>I),d⟩,I,I,I,I,I,fun _ sg _ _=>aa I (gH I)⟩,
     ⟨⟨[⟨11,fun _=>H aP first,none⟩],_,0,1,I,⟨(fun _=>I),d⟩,I,I,I,I,I,fun _ sg _ _=>aa I (gH I)⟩,
     ⟨⟨[⟨4,fun _=>tV (J l c all.length),none⟩],_,0,1,I,⟨(fun _=>I),d⟩,I,I,I,I,I,fun _ sg _ _=>aa I (gH I)⟩,
     ⟨⟨[⟨13,fun _=>H aP e2,none⟩],_,0,1,I,⟨(fun _=>I),d⟩,I,I,I,I,I,fun _ sg _ _=>aa I (gH I)⟩,
     ⟨⟨[⟨56,fun _=>tV (J l c all.length),some 3⟩,⟨57,fun _=>H aP e2,some 4⟩],_,0,1,I,⟨(fun _=>I),(fun _=>I),d⟩,I,I,I,I,I,um (fun sg=>aa I (cy fH cF (.head _) (M I) (M I) q_e3)) (fK (fun sg=>aa I (cy fH cF (.tail _ (.head _)) (M I) (M I) q_e3)))⟩,
     ⟨⟨[⟨58,fun _=>tV (dS l (e2.toNat*1+0)),some 5⟩],_,0,1,I,⟨(fun _=>I),d⟩,I,I,I,I,I,um (fun sg=>aa I (dQ (r:=aP) (i:=e2) (foff:=0) cF I I cD I (.head _) q_e3 (M I))) (fK (fun sg=>aa I (dQ (r:=aP) (i:=e2) (foff:=0) cF I I cD I (.tail _ (.head _)) q_e3 (M I))))⟩,
     ⟨⟨[⟨55,fun _=>H aP first,some 2⟩,⟨59,fun _=>H aP e3,some 6⟩],_,0,1,I,⟨(fun _=>I),(fun _=>I),d⟩,I,I,I,I,I,fun _ sg _ _=>aa I (oQ (M I) (M I))⟩,
     ⟨⟨[⟨10,fun _=>tV (an b1 0),none⟩,⟨53,fun _=>H aP (i1:Int),some 0⟩],_,0,0,I,⟨(fun _=>I),(fun _=>I),d⟩,I,I,I,I,I,fK (fun sg=>aa I (qv FR cF (.tail _ (.tail _ (.head _))) (M I) (M I) q_e4))⟩,
     ⟨⟨[⟨61,fun _=>tV (an b1 ((i1:Int).toNat*1)),some 8⟩,⟨54,fun _=>H aP e2,some 1⟩],_,I,⟨(fun _=>I),(fun _=>I),d⟩,I,I,I,fun sg=>bS I (EffOK.fr2 (N2 cF I q_e4 (so q_ar) (M I) (M I)))⟩,
     d⟩⟩⟩⟩⟩⟩⟩⟩⟩⟩ (fun sg=>?_)
    refine(show RG _ _ _ _ [_,_,_] _ from ?_);refine gE I<|bz<|cR hx1 hN1 I<|gu<|gu ?_;exact aS (ay (ih1 (i1+1) (min first e3) ar ⟨cM hx1,h⟩) (bb I))

def Ka e{R}(h:qY e=some R):cI aZ 59 [H ac e] (bd R):=by
 refine dm Tryz.func59 I<|aY<|cK I<|bG<|bO<|aT<|cC bD I<|eo h abI (Wp _) (dd I) fun r h=>aX I<|cY I I<|cY I I<|gE I<|bj I<|aH I<|Q (fV (M I)) ?_;refine bY h I (fun h=>?_) (fun h=>?_)
 ·exact aY<|dJ<|af<|so h▸aq I I
 ·exact gC<|aY<|dJ<|so h▸aq I I

def Zf(l:Option Nat)(c:Nat) s{R}(h:lw s=some R):ea aZ 116 [sn l c s] [gb aP 3 l c s] (fun i:OI=>sn (i.h 0).1 (i.h 0).2 R) (fun i=>[gb aP 3 (i.h 0).1 (i.h 0).2 R]):=by
 refine ea.of Tryz.func116 I I I fun w0 S0=>aY<|cj false aP 3<|Q (cg y6)<|bO<|aT<|aX I<|Q (iv fH (.tail _ (.head _)) (M I))<|Q (eP (M I) hI)<|bY h I (fun h=>?_) (fun h=>?_)
 ·exact aH I<|be I<|af<|aM<|so h▸er I (oi l c) I I (fun _ _ h=>h)
 ·refine gC<|aT<|bG<|bO<|ai<|n9 (.tail _ (.head _)) fun hN=>bp<|yA ?_;refine ay (dz (h2:=fun ls i=>(s.drop i=ls)/\fR s ls i=some R) (Of:=fun _ i=>[gb aP 3 l c s]) (Gf:=fun _ i=>[(0,sn l c s),(3,bd (i:Int))]) (fun i h=>?_) (fun e tl ih i h=>?_) (s.drop (1)) 1 ⟨I,h⟩) (bb I)
  ·obtain⟨A,h⟩:=h
   exact dX<|aT<|aX I<|aX I<|Q (iv fH (.head _) (M I))<|sx I<|bO<|qB (M I) (TM A)<|eY<|aI<|aI<|cW<|av<|aH I<|be I<|so h▸er I (oi l c) I I (fun _ _ h=>h)
  ·obtain⟨A,h⟩:=h
   refine dX<|aT<|aX I<|aX I<|Q (iv fH (.head _) (M I))<|sx I<|bO<|qA (M I) (PU A)<|gC<|aD<|ai<|aD<|cq h fun e1 q_e1 h=>?_
   refine eI (ts:=[_,_,_,_,_,_,_,_,_,_]) mixed I I
    ⟨f8 I I,
    ⟨f8 I I,
    ⟨fg 16 0 17 1 I I I (cy fH cF (.head _) (M I) (M I) (df A)),
    ⟨ga 18 2 I I (dQ (r:=aP) (i:=(i:Int)) (foff:=0) cF I I cD I (.head _) (df A) (M I)),
    ⟨f8 I I,
    ⟨f8 I I,
    ⟨ga 21 5 I I (fv (M I) hI),
    ⟨fg 20 4 22 6 I I I (cy fH cF (.head _) (M I) (M I) q_e1),
    ⟨ga 23 7 I I (dQ (r:=aP) (i:=(IntKind.i64.wrap ((i:Int)-(1:Int)))) (foff:=0) cF I I cD I (.head _) q_e1 (M I)),
    ⟨fg 19 3 24 8 I I I (mg (M I) (M I)),
    d⟩⟩⟩⟩⟩⟩⟩⟩⟩⟩ ?_
   refine av<|mA h I (fun h=>?_) (fun h=>?_)
   ·refine aH I<|aX I<|cq h fun y q_y h=>Q (tZ fH cF I (.head _) (M I) (M I) q_y)<|sk (.head _) q_y fun hv=>bj I<|aT<|bG<|bO<|ai<|bp ?_;refine ay (Ql (h2:=fun k1 i1 s1 k=>(y.length-i1=k1)/\eZ i y k1 i1 s1 k=some R) (Of:=fun _ i1 s1 k=>[gb aP 3 l c s1]) (Gf:=fun _ i1 s1 k=>[(0,sn l c s1),(3,bd k),(4,tV (o0 1 l c (i:Int).toNat y.length)),(5,bd (i1:Int))]) (fun i1 s1 k h=>?_) (fun k2 ih1 i1 s1 k h=>?_) (y.length-1) 1 s (i:Int) ⟨I,h⟩) (bb I)
    ·obtain⟨hx1,h⟩:=h
     refine dX<|aT<|aX I<|aX I<|Q (Pe fH hv.1 (M I))<|sx I<|bO<|qB (M I) (Rd hx1)<|eY<|aI<|aI<|cW<|av<|aH I<|aX I<|cq h fun y1 q_y1 h=>Q (tZ fH cF I (.head _) (M I) (M I) q_y1)<|sk (.head _) q_y1 fun hv1=>cq h fun cl q_cl h=>?_;exact RT cF I I fH (fun _=>I) I q_y1 (M I) (so q_cl)<|kW (Jf q_y1 (so q_cl)) 0 I<|kW (Jf q_y1 (so q_cl)) 54 I<|bO<|aH I<|aX I<|cq h fun y2 q_y2 h=>Q (wj fH cF I (.head _) (M I) (M I) q_y2)<|Kx q_y2<|be I<|bZ<|af<|bZ<|so h▸er I (oi l c) I I (fun _ _ h=>h)
    ·obtain⟨hx1,h⟩:=h
     refine dX<|aT<|aX I<|aX I<|Q (Pe fH hv.1 (M I))<|sx I<|bO<|qA (M I) (Rc hx1)<|gC<|aD<|ai<|aD<|cq h fun e3 q_e3 h=>cq h fun e4 q_e4 h=>?_
     refine eI (ts:=[_,_,_,_,_,_,_,_,_,_]) mixed I I
      ⟨f8 I I,
      ⟨f8 I I,
      ⟨fg 35 0 36 1 I I I (wQ fH cF I (.head _) (DE q_y) (M I) (M I) q_e3),
      ⟨ga 37 2 I I (dQ (r:=aP) (i:=((i:Int)+(i1:Int))) (foff:=0) cF I I cD I (.head _) (Al q_e3).2.2 (M I)),
      ⟨f8 I I,
      ⟨f8 I I,
      ⟨ga 40 5 I I (fv (M I) hI),
      ⟨fg 39 4 41 6 I I I (wQ fH cF I (.head _) (DE q_y) (M I) (M I) q_e4),
      ⟨ga 42 7 I I (dQ (r:=aP) (i:=((i:Int)+(IntKind.i64.wrap ((i1:Int)-(1:Int))))) (foff:=0) cF I I cD I (.head _) (Al q_e4).2.2 (M I)),
      ⟨fg 38 3 43 8 I I I (dZ (M I) (M I)),
      d⟩⟩⟩⟩⟩⟩⟩⟩⟩⟩ ?_
     refine av<|mA h I (fun h=>?_) (fun h=>?_)
     ·refine aH I<|aX I<|aX I<|aX I<|cq h fun e5 q_e5 h=>Q (wQ fH cF I (.head _) (DE q_y) (M I) (M I) q_e5)<|Q (dQ (r:=aP) (i:=((i:Int)+(i1:Int))) (foff:=0) cF I I cD I (.head _) (Al q_e5).2.2 (M I))<|cq h fun e6 q_e6 h=>Q (cy fH cF (.head _) (M I) (M I) q_e6)<|cq h fun st q_st h=>s9 cF I aj I q_e6 (so q_st) (M I) (M I)<|kW (iH (so q_st)) 0 I<|kW (iH (so q_st)) 45 I<|bO<|aJ<|aX I<|Q (fX (M I) hI)<|gE I<|bz<|bq<|av ?_;refine aJ<|aX I<|Q (wl (Nz hx1 (Z1 hv.2)) (M I) hI)<|gE I<|bz ?_;exact aS (ay (ih1 (i1+1) st (IntKind.i64.wrap (k+(1:Int))) ⟨Ny hx1,h⟩) (bb I))
     ·refine bk<|bq<|av<|aJ<|aX I<|Q (wl (Nz hx1 (Z1 hv.2)) (M I) hI)<|gE I<|bz ?_;exact aS (ay (ih1 (i1+1) s1 k ⟨Ny hx1,h⟩) (bb I))
   ·refine bk<|WP A hN I ?_;exact aS (ay (ih (i+1) ⟨cM A,h⟩) (bb I))

def Vo e{R}(h:xw e=some R):jE aZ 60 [H ac e] false aP 3 R:=by
 refine jE.of Tryz.func60 I I I fun w0 S0=>aY<|cK I<|cj false aP 3<|Q (cg y6)<|bO<|aT<|cC bD I<|eo h WA (Ka _) (dd I) fun r h=>gW I<|bY h I (fun h=>?_) (fun h=>?_)
 ·exact aY<|cj false aP 3<|Q (cg y6)<|cw<|af<|so h▸m6 I I
 ·refine gC<|aY<|cj false aP 3<|Q (cg y6)<|bO<|aT<|ba j4 gn sv I<|bW mz I<|Q (bC hI)<|bO<|ai<|aO (k:=10) I fun hN=>bp<|ie<|yA ?_;refine ay (jF (h2:=fun ls i out l c=>(e.Nodes.drop i=ls)/\n4 ls out=some R) (Of:=fun _ i out l c=>[gb aP 3 l c out]) (Gf:=fun _ i out l c=>[(3,sn l c out),(10,fm (br) e.Nodes),(11,iK e.Nodes),(12,bd (i:Int))]) (fun i out l c h=>?_) (fun e1 tl ih i out l c h=>?_) e.Nodes 0 w9 none 0 ⟨I,h⟩) (bb I)
  ·obtain⟨A,h⟩:=h
   refine dh A I<|av<|aH I<|cq h fun ZY q_srt h=>?_;refine Un (n:=out.length) (ys:=ZY) Ig ?_ abH ?_ ?_ ?_ ?_ ?_
   ·rfl
   ·exact q_srt
   ·exact(M I)
   ·rfl
   ·rfl
   intro hl
   refine Mo hl 3 I<|Mo hl 25 I<|bO<|aH I<|cq h fun r1 q_r1 h=>Dm [gb aP 3 l c ZY] _ I abG (Zf l c _ q_r1) ⟨(M I),d⟩ I fun i1=>?_;refine(show RG _ _ _ _ [_] ((28,sn (i1.h 0).1 (i1.h 0).2 r1)::_)from ?_);exact be I<|so h▸m6 I I
  ·obtain⟨A,h⟩:=h
   refine dg A I<|aD<|ai<|aY<|dE mz eJ I (df A)<|aV eJ iS I fun b=>bL eJ aj I<|aK 5 I<|bO<|aY<|oK mZ gQ I ?_;refine cC cF I<|dw I<|bY h I (fun h=>?_) (fun h=>?_)
   ·refine aJ<|aX I<|ba pW jz cF I<|Q (a8 (r:=aP) (ys:=[e1.Col]) (xs:=[.tmp 21]) fH cF I I I I I ⟨(M I),d⟩)<|cq h fun out1 q_out1 h=>d8 cF I I I I fH I I (M I) (M I) q_out1 fun l2 c2=>gE I<|bz<|cR A hN I ?_;exact aS (ay (ih (i+1) out1 l2 c2 ⟨cM A,h⟩) (bb I))
   ·refine bk<|cR A hN I ?_;exact aS (ay (ih (i+1) out l c ⟨cM A,h⟩) (bb I))
def Zd{l:Option Nat}{c:Nat}{xs s:List Int}{lo:Int}{R}(hs:dN xs lo (xs.length:Int)=some s)(h:mD s=some R):ea aZ 118 [tV (o0 1 l c lo.toNat s.length)] [gb aP 3 l c xs] (fun i:OI=>sn (i.h 0).1 (i.h 0).2 R) (fun i=>[gb aP 3 (i.h 0).1 (i.h 0).2 R,gb aP 3 l c xs]):=by
 refine ea.of Tryz.func118 I I I fun w0 S0=>aY<|Q (cg y6)<|bO<|aT<|aX I<|RS (r:=aP) fH (.head _) hs (M I) I fun isnil hisnil=>bO<|FQ (M I) (fun hc=>?_) (fun hc=>?_)
 ·have A:=hisnil hc
  have h:some w9=some R:=by simpa [mD,oI,A] using h
  exact aY<|cj false aP 3<|Q (cg y6)<|cw<|af<|so h▸er I (oi none 0) I I (fun _ _ h=>h)
 ·exact gC<|aY<|jh (r:=aP) (ys:=w9) (xs:=[]) fH cF I I I I I trivial I fun l1 c1=>aX I<|cq h fun x q_x h=>Ot cF I I I I fH I I (M I) (.tail _ (.head _)) hs (M I) q_x fun l2 c2=>be I<|so h▸er I (oi l2 c2) I I (fun _ _ h=>h)

def Ze(b:Nat)(l:Option Nat)(c:Nat) stack k{R}(h:qH stack k=some R):ea aZ 117 [bd k,tV (an b 0)] [bx rV 35 b (J l c stack.length),gb aP 3 l c stack] (fun i:OI=>pE R.1) (fun i=>[bx rV 35 b (J (i.h 0).1 (i.h 0).2 R.2.length),gb aP 3 (i.h 0).1 (i.h 0).2 R.2]):=by
 refine ea.of Tryz.func117 I I I fun w0 S0=>aY<|xa aP<|bO<|aY<|Q (xi fL (.head _) (M I))<|Q (xi fL (.head _) (M I))<|Q (iv fH (.tail _ (.head _)) (M I))<|aX I<|Q (fv (M I) (M I))<|cq h fun y q_y h=>Q (tZ fH cF I (.tail _ (.head _)) (M I) (M I) q_y)<|sk (.tail _ (.head _)) q_y fun hv=>dW<|cq h fun r q_r h=>Dm [gb aP 3 l c stack] _ I abE (Zd q_y q_r) ⟨(M I),d⟩ I fun i=>?_;refine(show RG _ _ _ _ [_,_,_] _ from ?_);refine bj I<|aY<|Q (xi fL (.tail _ (.tail _ (.head _))) (M I))<|Q (xi fL (.tail _ (.tail _ (.head _))) (M I))<|Q (iv fH (.tail _ (.head _)) (M I))<|aX I<|Q (fv (M I) (M I))<|cq h fun y1 q_y1 h=>Q (wj fH cF I (.tail _ (.head _)) (M I) (M I) q_y1)<|dW<|Kx q_y1<|ib<|mw fL I aj I (M I) (Pw (M I))<|bO<|aH I<|bj I ?_;exact wY<|gu<|tg<|jj 3 I<|jj 11 I<|jj 4 I<|jj 18 I<|nC 3 I<|aM<|dM<|dM<|so h▸er I (oi l c) I I (fun _ _ h=>h)

def YO e do1{R}(h:qz e do1=some R):cI aZ 61 [H ac e,(gV aZ UM UL (fun(x:aC×(List Int))=>do1 x.1 x.2))] (tT [bd R.1,bd R.2]):=by
 refine dm Tryz.func61 I<|aY<|cK I<|bG<|bG<|bO<|My<|aY<|cj false aP 3<|aV (x:=J none 0 0) fL (fun _=>X6) I fun b=>bO<|aY<|bG<|bO<|aY<|Q (SR (cts:=[tV (an b 0)]) (caps:=[.tmp 6]) ⟨(M I),d⟩)<|gE I ?_;refine bO<|aY<|bG<|bO<|aD<|Mz<|av<|aT<|ba j4 gn sv I<|bW mz I<|Q (bC hI)<|bO ?_;refine R1 (h2:=fun bad stack l c=>nl bad stack=some R) (Of:=fun bad stack l c=>[bx rV 35 b (J l c stack.length),gb aP 3 l c stack]) (Gf:=fun bad stack l c=>[(6,tV (an b 0)),(7,bd 0),(9,bd bad)]) (fun bad stack l c h=>?_) (fun ax=>?_)
 ·skip
  refine av<|aT<|aX I<|gW I<|bY h I (fun h=>?_) (fun h=>?_)
  ·exact aH I<|aX I<|gE I<|be I<|af<|Ew<|aM<|aM<|so h▸cX I I I
  ·exact gC<|aY<|Q (xi fL (.head _) (M I))<|cq h fun e1 q_e1 h=>Q (cy fH cF (.tail _ (.head _)) (M I) hI q_e1)<|Q (dQ (r:=aP) (i:=(0:Int)) (foff:=0) cF I I cD I (.tail _ (.head _)) q_e1 (M I))<|gE I<|dJ<|Ew<|aM<|aM<|so h▸cX I I I
 ·skip
  refine aO (k:=16) I fun hN=>bp ?_;refine ay (Dq (h2:=fun ls i bad1 stack1 l1 c1=>(e.Nodes.drop i=ls)/\jc do1 ls bad1 stack1=some R) (Of:=fun _ i bad1 stack1 l1 c1=>[bx rV 35 b (J l1 c1 stack1.length),gb aP 3 l1 c1 stack1]) (Gf:=fun _ i bad1 stack1 l1 c1=>[(1,(gV aZ UM UL (fun(x:aC×(List Int))=>do1 x.1 x.2))),(6,tV (an b 0)),(7,bd 0),(8,tC 117 [tV (an b 0)]),(9,bd bad1),(16,fm (br) e.Nodes),(17,iK e.Nodes),(18,bd (i:Int))]) (fun i bad1 stack1 l1 c1 h=>?_) (fun e2 tl ih i bad1 stack1 l1 c1 h=>?_) e.Nodes 0 (0:Int) w9 none 0 ⟨I,h⟩) (bb I)
  ·obtain⟨A,h⟩:=h
   refine dh A I ?_;exact cm (ax bad1 stack1 l1 c1 h) (bb I)
  ·obtain⟨A,h⟩:=h
   refine dg A I<|aD<|ai<|aY<|dE mz eJ I (df A)<|aV eJ iS I fun b1=>bL eJ aj I<|aK 11 I<|bO<|aD<|cq h fun r q_r h=>cq h fun r1 q_r1 h=>?_;refine cq h fun r2 q_r2 h=>?_
   refine ek 12 [tc ((gV aZ UM UL (fun(x:aC×(List Int))=>do1 x.1 x.2))),tc (H br e2),tc (tC 117 [tV (an b 0)]),tc (bt aP e2.Tag),tc (bd e2.Tag),tc (bd r),tc (pE r1.1),tc (tT [bd r2.1,bd r2.2]),tc (tT [bd r2.1,bd r2.2]),tc (bd r2.1),tc (bd r2.2),tc (bd r2.1)] [false,false,false,false,false,false,true,false,false,false,false,false] [fun _=>[bx rV 35 b (J l1 c1 stack1.length),gb aP 3 l1 c1 stack1],fun sg=>[bx rV 35 b (J ((sg 6).h 0).1 ((sg 6).h 0).2 r1.2.length),gb aP 3 ((sg 6).h 0).1 ((sg 6).h 0).2 r1.2]] I mixed I I I I I
    ⟨⟨[⟨1,fun _=>(gV aZ XT XJ (fun(x:aC×(List Int))=>do1 x.1 x.2)),none⟩],_,0,1,I,⟨(fun _=>I),d⟩,I,I,I,I,I,fun _ sg _ _=>aa I (gH I)⟩,
    ⟨⟨[⟨11,fun _=>bt br e2,none⟩],_,0,1,I,⟨(fun _=>I),d⟩,I,I,I,I,I,fun _ sg _ _=>aa I (qN eJ I I)⟩,
    ⟨⟨[⟨8,fun _=>tC 117 [tV (an b 0)],none⟩],_,0,0,I,⟨(fun _=>I),d⟩,I,I,I,I,I,fun _ sg _ _=>aa I (gH I)⟩,
    ⟨⟨[⟨11,fun _=>bt br e2,none⟩],_,0,0,I,⟨(fun _=>I),d⟩,I,I,I,I,I,fun _ sg _ _=>aa I (oJ mZ gQ I I)⟩,
    ⟨⟨[⟨26,fun _=>bt aP e2.Tag,some 3⟩],_,0,0,I,⟨(fun _=>I),d⟩,I,I,I,I,I,fun _ sg _ _=>aa I (qN cF I I)⟩,
    ⟨⟨[⟨27,fun _=>H aP e2.Tag,some 4⟩],_,0,0,I,⟨(fun _=>I),d⟩,I,I,I,I,I,fun _ sg _ _=>aa I (bn Xy (PQ _ q_r) ⟨(M I),d⟩)⟩,
    ⟨⟨[⟨25,fun _=>tC 117 [tV (an b 0)],some 2⟩,⟨28,fun _=>H aP r,some 5⟩],_,I,⟨(fun _=>I),(fun _=>I),d⟩,I,I,I,fun sg=>bS I (EffOK.fr1 (EffOK.fr1 (RB (xs:=[.tmp 28]) (ts:=[H aP r]) (cts:=[tV (an b 0)]) [bx rV 35 b (J l1 c1 stack1.length),gb aP 3 l1 c1 stack1] _ I abF (Ze b l1 c1 _ _ q_r1) (M I) ⟨(M I),d⟩ (fun _=>I))))⟩,
    ⟨⟨[⟨23,fun _=>(gV aZ XT XJ (fun(x:aC×(List Int))=>do1 x.1 x.2)),some 0⟩,⟨24,fun _=>H br e2,some 1⟩,⟨29,fun _=>H Dx r1.1,some 6⟩],_,1,1,I,⟨(fun _=>I),(fun _=>I),(fun _=>I),d⟩,I,I,I,I,I,fun _ sg _ _=>aa I (iE (args:=XT) (res:=XJ) (f:=(fun(x:aC×(List Int))=>do1 x.1 x.2)) (x:=((e2,r1.1):aC×(List Int))) (M I) q_r2 ⟨(M I),(M I),d⟩)⟩,
    ⟨⟨[⟨30,fun _=>tT [H aP r2.1,H aP r2.2],some 7⟩],_,1,1,I,⟨(fun _=>I),d⟩,I,I,I,I,I,fun _ sg _ _=>aa I (gH I)⟩,
    ⟨⟨[⟨22,fun _=>tT [H aP r2.1,H aP r2.2],some 8⟩],_,1,1,I,⟨(fun _=>I),d⟩,I,I,I,I,I,fun _ sg _ _=>aa I (vS I I)⟩,
    ⟨⟨[⟨22,fun _=>tT [H aP r2.1,H aP r2.2],some 8⟩],_,1,1,I,⟨(fun _=>I),d⟩,I,I,I,I,I,fun _ sg _ _=>aa I (vS I I)⟩,
    ⟨⟨[⟨31,fun _=>H aP r2.1,some 9⟩],_,1,1,I,⟨(fun _=>I),d⟩,I,I,I,I,I,fun _ sg _ _=>aa I (AW I)⟩,
    d⟩⟩⟩⟩⟩⟩⟩⟩⟩⟩⟩⟩ (fun sg=>?_)
   refine(show RG _ _ _ _ [_,_] _ from ?_);refine bj I<|aT<|aX I<|gW I<|bY h I (fun h=>?_) (fun h=>?_)
   ·refine aH I<|bj I<|eY<|aI<|dc I<|aI<|aI<|cW ?_;exact cm (ax r2.2 r1.2 ((sg 6).h 0).1 ((sg 6).h 0).2 h) (bb I)
   ·refine gC<|aJ<|Q (xi fL (.head _) (M I))<|aX I<|Q (a8 (r:=aP) (ys:=[r2.1]) (xs:=[.tmp 37]) fH cF I I I I I ⟨(M I),d⟩)<|dW<|cq h fun l2 q_l2 h=>d8 cF I I I I fH I I (M I) (M I) q_l2 fun l3 c2=>dW<|mw fL I aj I (M I) (Pw (M I))<|bz<|cR A hN I ?_;exact aS (ay (ih (i+1) bad1 l2 l3 c2 ⟨cM A,h⟩) (bb I))

end Go.Proofs.YthbdkceckjihgaaGreatDoor

