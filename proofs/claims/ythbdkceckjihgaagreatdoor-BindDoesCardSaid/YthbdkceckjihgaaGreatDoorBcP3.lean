/- dm of this claim: P3. -/
import Derived.Test.YthbdkceckjihgaaGreatDoorBcT
import Derived.Test.YthbdkceckjihgaaGreatDoorBcP2
set_option linter.all false
namespace Go.Proofs.YthbdkceckjihgaaGreatDoor
open Go
set_option maxRecDepth 100000

set_option maxHeartbeats 4000000 in
def aay(b:Nat)(ix:OI) s{R}(h:iW s=some R):ea bd 93 [tV (an b 0)] (dq b s ix) (fun _:OI=>bf R.1) (fun j=>dq b R.2 j):=by
 refine ea.of Tryz.func93 I I I fun w0 S0=>?_;refine(show CG _ _ _ [bx (rH aS (z10 ix s)) 127 b s,K aP 3 (ix.h 0).1 (ix.h 0).2 s.out.Tables,K av 71 (ix.h 1).1 (ix.h 1).2 s.out.Joins,K aP 3 (ix.h 2).1 (ix.h 2).2 s.out.Keys,K aT 73 (ix.h 3).1 (ix.h 3).2 s.out.Aggs,K ac 62 (ix.h 4).1 (ix.h 4).2 s.out.Items,K aP 3 (ix.h 5).1 (ix.h 5).2 s.kinds,K aP 3 (ix.h 6).1 (ix.h 6).2 s.groups,ci mW ew (ix.h 7).2 none (ix.oss 0) s.called,ci fe ew (ix.h 8).2 none (ix.oss 1) s.alone,eO (fun y:Int=>bf y) lc (ix.h 9).2 s.behind] _ from ?_);refine aV<|bF<|bP<|aI I<|d (bm (M I))<|bu 24 yu I<|fZ (dr cF I (wq (hs' :=(z10 ix s)) sM ⟨.inr ⟨I,I⟩,.inr ⟨I,I⟩,.inr ⟨I,I⟩,.inr ⟨I,I⟩,.inr ⟨I,I⟩,.inr ⟨I,I⟩,.inr ⟨I,I⟩,.inr ⟨I,I⟩,.inr ⟨I,I⟩,.inr ⟨I,I⟩,Q⟩ I) I (M I) hI) fun i=>?_;refine(show RG _ _ _ _ [_,_,_,_,_,_,_,_,_,_,_] _ from ?_);refine bP<|aI I<|aY I<|d (bm (M I))<|bu 1 o6 I<|bu 4 Ei I<|d (bA (r:=rH aS (z10 ix s)) (x:=({s with at_:=(0:Int)}:am)) tQ I I (nI (fj ju rt)) (.head _) (M I))<|cu h fun r q_r h=>jf (dY (xs:=[.tmp 6,.tmp 11]) (ts:=[tV (an b 0),Z be ((({s with at_:=(0:Int)}:am).from_).From)]) (dq b ({s with at_:=(0:Int)}:am) ix) _ I Xu (TK b ix ({s with at_:=(0:Int)}:am) _ q_r) ⟨(M I),(M I),Q⟩ (fun _=>I)) I fun i1=>?_;refine(show RG _ _ _ _ [_,_,_,_,_,_,_,_,_,_,_] ((12,bf r.1)::_)from ?_);exact bj I<|so h▸eu I i1 I I (fun _ _ h=>h)

def Qk tag{R}(h:sY tag=some R):cN bd 119 [bf tag] (bf R):=by
 refine dp Tryz.func119 I<|aV<|bF<|bP<|aA<|ai<|aI I<|dn I<|aY I<|ap I (de I)<|ap I (mX I)<|dU I<|bh I<|lO h I (fun h=>?_) (fun h=>?_)
 ·exact aV<|dG<|bT<|so h▸au I I
 ·refine aI I<|d (ff (M I) hI)<|aY I<|ax I (de I)<|ax I (fun V=>kr (bE I V) hI)<|eZ I<|bh I<|lO h I (fun h=>?_) (fun h=>?_)
  ·exact aV<|dG<|bT<|so h▸au I I
  ·refine aI I<|d (ff (M I) hI)<|aY I<|ax I (de I)<|ax I (fun V=>kr (bE I V) hI)<|eZ I<|bh I<|lO h I (fun h=>?_) (fun h=>?_)
   ·exact aV<|dG<|bT<|so h▸au I I
   ·exact bl<|bn<|aq<|aV<|dG<|so h▸au I I

def V9 n{R}(h:wQ n=some R):cN bd 155 [Z bt n] (iD R):=by
 refine dp Tryz.func155 I<|aV<|cL I<|bC<|bP<|aR<|aU m7 gN cF I<|bP<|ai<|aV<|dn I<|bh I<|lO h I (fun h=>?_) (fun h=>?_)
 ·exact aV<|aU wP nX lg I<|eg h Xn (PZ _) (da I) fun r h=>aY I<|ax I (bQ p9 jw I I)<|ax I (bN cF I I)<|ax I (mX I)<|eZ I<|bj I<|bT<|so h▸au I I
 ·refine aV<|dn I<|bh I<|lO h I (fun h=>?_) (fun h=>?_)
  ·exact aV<|aU wP nX lg I<|d (bS lg C7 om I)<|d (yc Dg (M I) (M I))<|aY I<|ax I (bQ p9 jw I I)<|ax I (bN cF I I)<|ax I (fun V=>ff (bE I V) hI)<|eZ I<|aY I<|ax I (bQ p9 jw I I)<|ax I (bN cF I I)<|ax I (fun V=>eN (bE I V) hI)<|eZ I<|bj I<|bT<|so h▸au I I
  ·exact bl<|bn<|aq<|aV<|aU wP nX lg I<|d (bS lg C7 om I)<|d (yc Dg (M I) (M I))<|aY I<|ax I (bQ p9 jw I I)<|ax I (bN cF I I)<|ax I (mX I)<|eZ I<|bj I<|so h▸au I I

def Wp e{R}(h:zS e=some R):cN bd 114 [Z ac e] (tT [qn R.1,iD R.2]):=by
 refine dp Tryz.func114 I<|aV<|cL I<|xp aP<|bC<|bP<|aV<|ck false aP 3<|d (cg zf)<|ck false aP 3<|d (cg zf)<|bP<|aR<|aU jV ge sB I<|bY mv I<|d (bB hI)<|br ?_;refine aq<|ai<|aN (k:=15) I fun hN=>bp<|hZ ?_;refine ay (Ah (tD:=fun ls i all l c open1 l1 c1=>(e.Nodes.drop i=ls)/\mb ls i all open1=some R) (Of:=fun _ i all l c open1 l1 c1=>[f6 aP 3 l c all,f6 aP 3 l1 c1 open1]) (Gf:=fun _ i all l c open1 l1 c1=>[(4,sy l c all),(5,sy l1 c1 open1),(15,gb (bt) e.Nodes),(16,iG e.Nodes),(17,bf (i:Int))]) (fun i all l c open1 l1 c1 h=>?_) (fun e1 tl ih i all l c open1 l1 c1 h=>?_) e.Nodes 0 xo none 0 xo none 0 ⟨I,h⟩) (a8 I)
 ·obtain⟨D,h⟩:=h
  refine dh D I<|aq<|aI I<|aY I<|d (ip fH (.tail _ (.head _)) (M I))<|dn I<|aY I<|ax I (de I)<|ax I (fun V=>ip fH (.head _) (bE I V))<|ax I (fun V=>kr (bE I V) hI)<|eZ I ?_;exact gx I<|bj I<|tf<|iZ 4 I<|iZ 84 I<|iZ 2 I<|nF 2 I<|aM<|aM<|so h▸c0 I I I
 ·obtain⟨D,h⟩:=h
  refine dg D I<|aA<|ai<|aI I<|d9 mv eH I (cW D)<|aX eH iN I fun b=>gx I<|bM eH aj I<|aQ 7 I<|bP<|aA ?_;refine aL<|aU m7 gN cF I<|eg h XB (Qk _) (da I) fun r h=>bh I<|aR<|aY I<|d (eN (M I) hI)<|aY I<|ap I (de I)<|ap I (de I)<|ap I (fun V=>ip fH (.tail _ (.head _)) (bE I V))<|ap I (fun V=>eX (bE I V) (bE I V))<|dU I<|aY I<|cu h fun t q_t h=>ap I (fun V=>nM eH I I) ?_
  obtain⟨r1,h1t,h0t⟩:=og q_t
  have q_r1g:=fun A=>(h1t A).1
  refine ap I (fun V=>bq abx (V9 _ (q_r1g V)) ⟨(bE I V),Q⟩)<|ap I (rJ I)<|d (cD (M I) (fun A=>(bE I (mD A))) (fun A=>(h1t A).2) h0t)<|bX h I (fun h=>?_) (fun h=>?_)
  ·exact aV<|xp aP<|bC<|cA<|af<|bT<|af<|bT<|aM<|aM<|so h▸c0 I I I
  ·refine gp<|aI I<|aY I<|d (ip fH (.tail _ (.head _)) (M I))<|aY I<|d (fm (M I) (M I))<|cu h fun y q_y h=>d (t8 fH cF I (.tail _ (.head _)) (M I) (M I) q_y)<|sv (.tail _ (.head _)) q_y fun hv=>bh I<|aV<|d (sQ (r:=aP) (ys:=[mg,mg]) (xs:=[.const (.int .i64 (-1)),.const (.int .i64 (-1))]) FO cF I JN I I ⟨hI,hI,Q⟩)<|aX (r:=JD) (x:=(List.replicate 2 (0:Int))) JN (fun _=>HG (r:=aP) 2 (fun _=>I) _) I fun b1=>bM JN aj I<|bP<|aV ?_;refine aY I<|bh I<|aR<|aY I<|d (PA fH (.tail _ (.tail _ (.head _))) q_y (M I))<|d (bB hI)<|bP<|ai ?_
   have hN1:=hv.2
   refine bp<|kb<|kb ?_;refine ay (uk (tD:=fun ls1 i1 first at1=>(y.drop i1=ls1)/\nt (mb tl) i e1 all open1 r ls1 i1 first at1=some R) (Of:=fun _ i1 first at1=>[f6 aP 3 l c all,f6 aP 3 l1 c1 open1,bx JD 80 b1 at1]) (Gf:=fun _ i1 first at1=>[(4,sy l c all),(5,sy l1 c1 open1),(6,bf (i:Int)),(7,bo bt e1),(8,bf r),(10,tV (an b1 0)),(11,bf first),(15,gb (bt) e.Nodes),(16,iG e.Nodes),(17,bf (i:Int)),(46,tV (pf 1 l1 c1 (IntKind.i64.wrap ((open1.length:Int)-r)).toNat y.length)),(47,iG y),(48,bf (i1:Int))]) (fun i1 first at1 h=>?_) (fun e2 tl1 ih1 i1 first at1 h=>?_) y 0 (i:Int) ([mg,mg]) ⟨I,h⟩) (a8 I)
   ·obtain⟨hx1,h⟩:=h
    refine dh hx1 I<|aq<|aR<|d (bA JN I I cE (.tail _ (.tail _ (.head _))) (M I))<|aU o8 mS cF I<|aU n4 lZ cF I<|d (sQ (r:=aP) (ys:=[e1.L,e1.R]) (xs:=[.tmp 65,.tmp 67]) FO cF I JN I I ⟨(M I),(M I),Q⟩)<|d (qS aci (M I) (M I))<|br ?_;refine aq<|lO h I (fun h=>?_) (fun h=>?_)
    ·exact aV<|xp aP<|bC<|cA<|af<|bT<|af<|bT<|aM<|aM<|aM<|so h▸c0 I I I
    ·refine gp<|aI I<|aY I<|d (ba (r:=aP) (ys:=[first]) (xs:=[.tmp 71]) fH cF I I I I I ⟨(M I),Q⟩)<|cu h fun all1 q_all1 h=>dZ cF I I I I fH I I (M I) (M I) q_all1 fun l2 c2=>bh I<|aL<|aY I<|aY I<|d (ip fH (.tail _ (.head _)) (M I))<|aY I<|d (fm (M I) (M I))<|cu h fun y1 q_y1 h=>d (wz fH cF I (.tail _ (.head _)) (M I) (M I) q_y1)<|aY I<|d (ba (r:=aP) (ys:=[(i:Int)]) (xs:=[.tmp 80]) fH cF I I I I I ⟨(M I),Q⟩)<|dS<|KJ q_y1 ?_;refine cu h fun open2 q_open2 h=>dZ cF I I I I fH I I (M I) (M I) q_open2 fun l3 c3=>gx I<|br<|cS D hN I<|gj<|aM<|dI ?_;exact aO (ay (ih (i+1) all1 l2 c2 open2 l3 c3 ⟨cO D,h⟩) (a8 I))
   ·obtain⟨hx1,h⟩:=h
    refine dg hx1 I<|aA<|ai<|aI I<|d (Bg fH cF I (.tail _ (.head _)) q_y (M I) (M I) (cW hx1))<|d (dN (r:=aP) (i:=((IntKind.i64.wrap ((open1.length:Int)-r))+(i1:Int))) (foff:=0) cF I I cE I (.tail _ (.head _)) (BH q_y (cW hx1)).1 (M I))<|gx I<|bh I<|cu h fun e3 q_e3 h=>cu h fun e4 q_e4 h=>cu h fun ar q_ar h=>?_
    refine er 10 [tc (bf (i1:Int)),tc (bf e2),tc (bf first),tc (sy l c all),tc (bf e2),tc (tV (dO l (e2.toNat*1+0))),tc (bf e3),tc (bf (min first e3)),tc (tV (an b1 ((i1:Int).toNat*1))),tc (tS)] [false,false,false,false,false,false,false,false,false,true] [fun _=>[f6 aP 3 l c all,f6 aP 3 l1 c1 open1,bx JD 80 b1 at1],fun sg=>[bx JD 80 b1 ar,f6 aP 3 l c all,f6 aP 3 l1 c1 open1]] I mixed I I I I I
     ⟨⟨[⟨12,fun _=>Z aP (i1:Int),none⟩],_,0,0,I,⟨(fun _=>I),Q⟩,I,I,I,I,I,fun _ sg _ _=>h2 I (fR I)⟩,
     ⟨⟨[⟨13,fun _=>Z aP e2,none⟩],_,0,0,I,⟨(fun _=>I),Q⟩,I,I,I,I,I,fun _ sg _ _=>h2 I (fR I)⟩,
     ⟨⟨[⟨11,fun _=>Z aP first,none⟩],_,0,1,I,⟨(fun _=>I),Q⟩,I,I,I,I,I,fun _ sg _ _=>h2 I (fR I)⟩,
     ⟨⟨[⟨4,fun _=>tV (Y l c all.length),none⟩],_,0,1,I,⟨(fun _=>I),Q⟩,I,I,I,I,I,fun _ sg _ _=>h2 I (fR I)⟩,
     ⟨⟨[⟨13,fun _=>Z aP e2,none⟩],_,0,1,I,⟨(fun _=>I),Q⟩,I,I,I,I,I,fun _ sg _ _=>h2 I (fR I)⟩,
     ⟨⟨[⟨56,fun _=>tV (Y l c all.length),some 3⟩,⟨57,fun _=>Z aP e2,some 4⟩],_,0,1,I,⟨(fun _=>I),(fun _=>I),Q⟩,I,I,I,I,I,ur (fun sg=>h2 I (cz fH cF (.head _) (M I) (M I) q_e3)) (fM (fun sg=>h2 I (cz fH cF (.tail _ (.head _)) (M I) (M I) q_e3)))⟩,
     ⟨⟨[⟨58,fun _=>tV (dO l (e2.toNat*1+0)),some 5⟩],_,0,1,I,⟨(fun _=>I),Q⟩,I,I,I,I,I,ur (fun sg=>h2 I (dN (r:=aP) (i:=e2) (foff:=0) cF I I cE I (.head _) q_e3 (M I))) (fM (fun sg=>h2 I (dN (r:=aP) (i:=e2) (foff:=0) cF I I cE I (.tail _ (.head _)) q_e3 (M I))))⟩,
     ⟨⟨[⟨55,fun _=>Z aP first,some 2⟩,⟨59,fun _=>Z aP e3,some 6⟩],_,0,1,I,⟨(fun _=>I),(fun _=>I),Q⟩,I,I,I,I,I,fun _ sg _ _=>h2 I (o3 (M I) (M I))⟩,
     ⟨⟨[⟨10,fun _=>tV (an b1 0),none⟩,⟨53,fun _=>Z aP (i1:Int),some 0⟩],_,0,0,I,⟨(fun _=>I),(fun _=>I),Q⟩,I,I,I,I,I,fM (fun sg=>h2 I (qF FO cF (.tail _ (.tail _ (.head _))) (M I) (M I) q_e4))⟩,
     ⟨⟨[⟨61,fun _=>tV (an b1 ((i1:Int).toNat*1)),some 8⟩,⟨54,fun _=>Z aP e2,some 1⟩],_,I,⟨(fun _=>I),(fun _=>I),Q⟩,I,I,I,fun sg=>bL I (EffOK.fr2 (Oq cF I q_e4 (so q_ar) (M I) (M I)))⟩,
     Q⟩⟩⟩⟩⟩⟩⟩⟩⟩⟩ (fun sg=>?_)
    refine(show RG _ _ _ _ [_,_,_] _ from ?_);refine gx I<|br<|cS hx1 hN1 I<|gj<|gj ?_;exact aO (ay (ih1 (i1+1) (min first e3) ar ⟨cO hx1,h⟩) (a8 I))

def Kl e{R}(h:rj e=some R):cN bd 59 [Z ac e] (bf R):=by
 refine dp Tryz.func59 I<|aV<|cL I<|bF<|bP<|aR<|cM bJ I<|eg h abR (Wp _) (da I) fun r h=>aY I<|cU I I<|cU I I<|gx I<|bh I<|aI I<|d (fD (M I)) ?_;refine bX h I (fun h=>?_) (fun h=>?_)
 ·exact aV<|dG<|af<|so h▸au I I
 ·exact gp<|aV<|dG<|so h▸au I I

def Zh(l:Option Nat)(c:Nat) s{R}(h:lv s=some R):ea bd 116 [sy l c s] [f6 aP 3 l c s] (fun i:OI=>sy (i.h 0).1 (i.h 0).2 R) (fun i=>[f6 aP 3 (i.h 0).1 (i.h 0).2 R]):=by
 refine ea.of Tryz.func116 I I I fun w0 S0=>aV<|ck false aP 3<|d (cg zf)<|bP<|aR<|aY I<|d (ip fH (.tail _ (.head _)) (M I))<|d (eN (M I) hI)<|bX h I (fun h=>?_) (fun h=>?_)
 ·exact aI I<|bj I<|af<|aM<|so h▸eu I (oi l c) I I (fun _ _ h=>h)
 ·refine gp<|aR<|bF<|bP<|ai<|oe (.tail _ (.head _)) fun hN=>bp<|yH ?_;refine ay (dx (tD:=fun ls i=>(s.drop i=ls)/\fS s ls i=some R) (Of:=fun _ i=>[f6 aP 3 l c s]) (Gf:=fun _ i=>[(0,sy l c s),(3,bf (i:Int))]) (fun i h=>?_) (fun e tl ih i h=>?_) (s.drop (1)) 1 ⟨I,h⟩) (a8 I)
  ·obtain⟨D,h⟩:=h
   exact dw<|aR<|aY I<|aY I<|d (ip fH (.head _) (M I))<|qq I<|bP<|qM (M I) (TR D)<|ep<|aE<|aE<|cK<|aq<|aI I<|bj I<|so h▸eu I (oi l c) I I (fun _ _ h=>h)
  ·obtain⟨D,h⟩:=h
   refine dw<|aR<|aY I<|aY I<|d (ip fH (.head _) (M I))<|qq I<|bP<|qL (M I) (Qo D)<|gp<|aA<|ai<|aA<|cu h fun e1 q_e1 h=>?_
   refine d8 (ts:=[_,_,_,_,_,_,_,_,_,_]) mixed I I
    ⟨fv I I,
    ⟨fv I I,
    ⟨eh 16 0 17 1 I I I (cz fH cF (.head _) (M I) (M I) (cW D)),
    ⟨fL 18 2 I I (dN (r:=aP) (i:=(i:Int)) (foff:=0) cF I I cE I (.head _) (cW D) (M I)),
    ⟨fv I I,
    ⟨fv I I,
    ⟨fL 21 5 I I (fm (M I) hI),
    ⟨eh 20 4 22 6 I I I (cz fH cF (.head _) (M I) (M I) q_e1),
    ⟨fL 23 7 I I (dN (r:=aP) (i:=(IntKind.i64.wrap ((i:Int)-(1:Int)))) (foff:=0) cF I I cE I (.head _) q_e1 (M I)),
    ⟨eh 19 3 24 8 I I I (m6 (M I) (M I)),
    Q⟩⟩⟩⟩⟩⟩⟩⟩⟩⟩ ?_
   refine aq<|lO h I (fun h=>?_) (fun h=>?_)
   ·refine aI I<|aY I<|cu h fun y q_y h=>d (t8 fH cF I (.head _) (M I) (M I) q_y)<|sv (.head _) q_y fun hv=>bh I<|aR<|bF<|bP<|ai<|bp ?_;refine ay (QH (tD:=fun k1 i1 s1 k=>(y.length-i1=k1)/\eW i y k1 i1 s1 k=some R) (Of:=fun _ i1 s1 k=>[f6 aP 3 l c s1]) (Gf:=fun _ i1 s1 k=>[(0,sy l c s1),(3,bf k),(4,tV (pf 1 l c (i:Int).toNat y.length)),(5,bf (i1:Int))]) (fun i1 s1 k h=>?_) (fun k2 ih1 i1 s1 k h=>?_) (y.length-1) 1 s (i:Int) ⟨I,h⟩) (a8 I)
    ·obtain⟨hx1,h⟩:=h
     refine dw<|aR<|aY I<|aY I<|d (Pz fH hv.1 (M I))<|qq I<|bP<|qM (M I) (Rx hx1)<|ep<|aE<|aE<|cK<|aq<|aI I<|aY I<|cu h fun y1 q_y1 h=>d (t8 fH cF I (.head _) (M I) (M I) q_y1)<|sv (.head _) q_y1 fun hv1=>cu h fun cl q_cl h=>?_;exact R9 cF I I fH (fun _=>I) I q_y1 (M I) (so q_cl)<|kL (Jm q_y1 (so q_cl)) 0 I<|kL (Jm q_y1 (so q_cl)) 54 I<|bP<|aI I<|aY I<|cu h fun y2 q_y2 h=>d (wz fH cF I (.head _) (M I) (M I) q_y2)<|KJ q_y2<|bj I<|bT<|af<|bT<|so h▸eu I (oi l c) I I (fun _ _ h=>h)
    ·obtain⟨hx1,h⟩:=h
     refine dw<|aR<|aY I<|aY I<|d (Pz fH hv.1 (M I))<|qq I<|bP<|qL (M I) (Rw hx1)<|gp<|aA<|ai<|aA<|cu h fun e3 q_e3 h=>cu h fun e4 q_e4 h=>?_
     refine d8 (ts:=[_,_,_,_,_,_,_,_,_,_]) mixed I I
      ⟨fv I I,
      ⟨fv I I,
      ⟨eh 35 0 36 1 I I I (xe fH cF I (.head _) (DL q_y) (M I) (M I) q_e3),
      ⟨fL 37 2 I I (dN (r:=aP) (i:=((i:Int)+(i1:Int))) (foff:=0) cF I I cE I (.head _) (Ay q_e3).2.2 (M I)),
      ⟨fv I I,
      ⟨fv I I,
      ⟨fL 40 5 I I (fm (M I) hI),
      ⟨eh 39 4 41 6 I I I (xe fH cF I (.head _) (DL q_y) (M I) (M I) q_e4),
      ⟨fL 42 7 I I (dN (r:=aP) (i:=((i:Int)+(IntKind.i64.wrap ((i1:Int)-(1:Int))))) (foff:=0) cF I I cE I (.head _) (Ay q_e4).2.2 (M I)),
      ⟨eh 38 3 43 8 I I I (du (M I) (M I)),
      Q⟩⟩⟩⟩⟩⟩⟩⟩⟩⟩ ?_
     refine aq<|lO h I (fun h=>?_) (fun h=>?_)
     ·refine aI I<|aY I<|aY I<|aY I<|cu h fun e5 q_e5 h=>d (xe fH cF I (.head _) (DL q_y) (M I) (M I) q_e5)<|d (dN (r:=aP) (i:=((i:Int)+(i1:Int))) (foff:=0) cF I I cE I (.head _) (Ay q_e5).2.2 (M I))<|cu h fun e6 q_e6 h=>d (cz fH cF (.head _) (M I) (M I) q_e6)<|cu h fun st q_st h=>s9 cF I aj I q_e6 (so q_st) (M I) (M I)<|kL (iE (so q_st)) 0 I<|kL (iE (so q_st)) 45 I<|bP<|aL<|aY I<|d (fq (M I) hI)<|gx I<|br<|bn<|aq ?_;refine aL<|aY I<|d (wB (NV hx1 (Z9 hv.2)) (M I) hI)<|gx I<|br ?_;exact aO (ay (ih1 (i1+1) st (IntKind.i64.wrap (k+(1:Int))) ⟨NU hx1,h⟩) (a8 I))
     ·refine bl<|bn<|aq<|aL<|aY I<|d (wB (NV hx1 (Z9 hv.2)) (M I) hI)<|gx I<|br ?_;exact aO (ay (ih1 (i1+1) s1 k ⟨NU hx1,h⟩) (a8 I))
   ·refine bl<|WS D hN I ?_;exact aO (ay (ih (i+1) ⟨cO D,h⟩) (a8 I))

def Vo e{R}(h:xH e=some R):jB bd 60 [Z ac e] false aP 3 R:=by
 refine jB.of Tryz.func60 I I I fun w0 S0=>aV<|cL I<|ck false aP 3<|d (cg zf)<|bP<|aR<|cM bJ I<|eg h WA (Kl _) (da I) fun r h=>ib I<|bX h I (fun h=>?_) (fun h=>?_)
 ·exact aV<|ck false aP 3<|d (cg zf)<|cA<|af<|so h▸na I I
 ·refine gp<|aV<|ck false aP 3<|d (cg zf)<|bP<|aR<|aU jV ge sB I<|bY mv I<|d (bB hI)<|bP<|ai<|aN (k:=10) I fun hN=>bp<|hZ<|yH ?_;refine ay (jC (tD:=fun ls i out l c=>(e.Nodes.drop i=ls)/\n7 ls out=some R) (Of:=fun _ i out l c=>[f6 aP 3 l c out]) (Gf:=fun _ i out l c=>[(3,sy l c out),(10,gb (bt) e.Nodes),(11,iG e.Nodes),(12,bf (i:Int))]) (fun i out l c h=>?_) (fun e1 tl ih i out l c h=>?_) e.Nodes 0 xo none 0 ⟨I,h⟩) (a8 I)
  ·obtain⟨D,h⟩:=h
   refine dh D I<|aq<|aI I<|cu h fun Z6 q_srt h=>?_;refine Ur (n:=out.length) (ys:=Z6) Im ?_ abQ ?_ ?_ ?_ ?_ ?_
   ·rfl
   ·exact q_srt
   ·exact(M I)
   ·rfl
   ·rfl
   intro hl
   refine MD hl 3 I<|MD hl 25 I<|bP<|aI I<|cu h fun r1 q_r1 h=>Du [f6 aP 3 l c Z6] _ I abP (Zh l c _ q_r1) ⟨(M I),Q⟩ I fun i1=>?_;refine(show RG _ _ _ _ [_] ((28,sy (i1.h 0).1 (i1.h 0).2 r1)::_)from ?_);exact bj I<|so h▸na I I
  ·obtain⟨D,h⟩:=h
   refine dg D I<|aA<|ai<|aV<|d9 mv eH I (cW D)<|aX eH iN I fun b=>bM eH aj I<|aQ 5 I<|bP<|aV<|oU m7 gN I ?_;refine cM cF I<|dn I<|bX h I (fun h=>?_) (fun h=>?_)
   ·refine aL<|aY I<|aU p9 jw cF I<|d (ba (r:=aP) (ys:=[e1.Col]) (xs:=[.tmp 21]) fH cF I I I I I ⟨(M I),Q⟩)<|cu h fun out1 q_out1 h=>dZ cF I I I I fH I I (M I) (M I) q_out1 fun l2 c2=>gx I<|br<|cS D hN I ?_;exact aO (ay (ih (i+1) out1 l2 c2 ⟨cO D,h⟩) (a8 I))
   ·refine bl<|cS D hN I ?_;exact aO (ay (ih (i+1) out l c ⟨cO D,h⟩) (a8 I))
def Zf{l:Option Nat}{c:Nat}{xs s:List Int}{lo:Int}{R}(hs:dJ xs lo (xs.length:Int)=some s)(h:mA s=some R):ea bd 118 [tV (pf 1 l c lo.toNat s.length)] [f6 aP 3 l c xs] (fun i:OI=>sy (i.h 0).1 (i.h 0).2 R) (fun i=>[f6 aP 3 (i.h 0).1 (i.h 0).2 R,f6 aP 3 l c xs]):=by
 refine ea.of Tryz.func118 I I I fun w0 S0=>aV<|d (cg zf)<|bP<|aR<|aY I<|R8 (r:=aP) fH (.head _) hs (M I) I fun isnil hisnil=>bP<|FN (M I) (fun hc=>?_) (fun hc=>?_)
 ·have D:=hisnil hc
  have h:some xo=some R:=by simpa [mA,oT,D] using h
  exact aV<|ck false aP 3<|d (cg zf)<|cA<|af<|so h▸eu I (oi none 0) I I (fun _ _ h=>h)
 ·exact gp<|aV<|iY (r:=aP) (ys:=xo) (xs:=[]) fH cF I I I I I trivial I fun l1 c1=>aY I<|cu h fun x q_x h=>OQ cF I I I I fH I I (M I) (.tail _ (.head _)) hs (M I) q_x fun l2 c2=>bj I<|so h▸eu I (oi l2 c2) I I (fun _ _ h=>h)

def Zg(b:Nat)(l:Option Nat)(c:Nat) stack k{R}(h:qV stack k=some R):ea bd 117 [bf k,tV (an b 0)] [bx rV 35 b (Y l c stack.length),f6 aP 3 l c stack] (fun i:OI=>qn R.1) (fun i=>[bx rV 35 b (Y (i.h 0).1 (i.h 0).2 R.2.length),f6 aP 3 (i.h 0).1 (i.h 0).2 R.2]):=by
 refine ea.of Tryz.func117 I I I fun w0 S0=>aV<|xp aP<|bP<|aV<|d (xy fV (.head _) (M I))<|d (xy fV (.head _) (M I))<|d (ip fH (.tail _ (.head _)) (M I))<|aY I<|d (fm (M I) (M I))<|cu h fun y q_y h=>d (t8 fH cF I (.tail _ (.head _)) (M I) (M I) q_y)<|sv (.tail _ (.head _)) q_y fun hv=>dS<|cu h fun r q_r h=>Du [f6 aP 3 l c stack] _ I abN (Zf q_y q_r) ⟨(M I),Q⟩ I fun i=>?_;refine(show RG _ _ _ _ [_,_,_] _ from ?_);refine bh I<|aV<|d (xy fV (.tail _ (.tail _ (.head _))) (M I))<|d (xy fV (.tail _ (.tail _ (.head _))) (M I))<|d (ip fH (.tail _ (.head _)) (M I))<|aY I<|d (fm (M I) (M I))<|cu h fun y1 q_y1 h=>d (wz fH cF I (.tail _ (.head _)) (M I) (M I) q_y1)<|dS<|KJ q_y1<|hU<|mt fV I aj I (M I) (PQ (M I))<|bP<|aI I<|bh I ?_;exact yJ<|gj<|tf<|iZ 3 I<|iZ 11 I<|iZ 4 I<|iZ 18 I<|nF 3 I<|aM<|dI<|dI<|so h▸eu I (oi l c) I I (fun _ _ h=>h)

def YL e do1{R}(h:qJ e do1=some R):cN bd 61 [Z ac e,(jT bd UO UN (fun(x:aD×(List Int))=>do1 x.1 x.2))] (tT [bf R.1,bf R.2]):=by
 refine dp Tryz.func61 I<|aV<|cL I<|bF<|bF<|bP<|MN<|aV<|ck false aP 3<|aX (x:=Y none 0 0) fV (fun _=>X8) I fun b=>bP<|aV<|bF<|bP<|aV<|d (SZ (cts:=[tV (an b 0)]) (caps:=[.tmp 6]) ⟨(M I),Q⟩)<|gx I ?_;refine bP<|aV<|bF<|bP<|aA<|MO<|aq<|aR<|aU jV ge sB I<|bY mv I<|d (bB hI)<|bP ?_;refine Sh (tD:=fun bad stack l c=>nr bad stack=some R) (Of:=fun bad stack l c=>[bx rV 35 b (Y l c stack.length),f6 aP 3 l c stack]) (Gf:=fun bad stack l c=>[(6,tV (an b 0)),(7,bf 0),(9,bf bad)]) (fun bad stack l c h=>?_) (fun aw=>?_)
 ·skip
  refine aq<|aR<|aY I<|ib I<|bX h I (fun h=>?_) (fun h=>?_)
  ·exact aI I<|aY I<|gx I<|bj I<|af<|Ey<|aM<|aM<|so h▸c0 I I I
  ·exact gp<|aV<|d (xy fV (.head _) (M I))<|cu h fun e1 q_e1 h=>d (cz fH cF (.tail _ (.head _)) (M I) hI q_e1)<|d (dN (r:=aP) (i:=(0:Int)) (foff:=0) cF I I cE I (.tail _ (.head _)) q_e1 (M I))<|gx I<|dG<|Ey<|aM<|aM<|so h▸c0 I I I
 ·skip
  refine aN (k:=16) I fun hN=>bp ?_;refine ay (Dy (tD:=fun ls i bad1 stack1 l1 c1=>(e.Nodes.drop i=ls)/\iU do1 ls bad1 stack1=some R) (Of:=fun _ i bad1 stack1 l1 c1=>[bx rV 35 b (Y l1 c1 stack1.length),f6 aP 3 l1 c1 stack1]) (Gf:=fun _ i bad1 stack1 l1 c1=>[(1,(jT bd UO UN (fun(x:aD×(List Int))=>do1 x.1 x.2))),(6,tV (an b 0)),(7,bf 0),(8,tC 117 [tV (an b 0)]),(9,bf bad1),(16,gb (bt) e.Nodes),(17,iG e.Nodes),(18,bf (i:Int))]) (fun i bad1 stack1 l1 c1 h=>?_) (fun e2 tl ih i bad1 stack1 l1 c1 h=>?_) e.Nodes 0 (0:Int) xo none 0 ⟨I,h⟩) (a8 I)
  ·obtain⟨D,h⟩:=h
   refine dh D I ?_;exact cj (aw bad1 stack1 l1 c1 h) (a8 I)
  ·obtain⟨D,h⟩:=h
   refine dg D I<|aA<|ai<|aV<|d9 mv eH I (cW D)<|aX eH iN I fun b1=>bM eH aj I<|aQ 11 I<|bP<|aA<|cu h fun r q_r h=>cu h fun r1 q_r1 h=>?_;refine cu h fun r2 q_r2 h=>?_
   refine er 12 [tc ((jT bd UO UN (fun(x:aD×(List Int))=>do1 x.1 x.2))),tc (Z bt e2),tc (tC 117 [tV (an b 0)]),tc (bo aP e2.Tag),tc (bf e2.Tag),tc (bf r),tc (qn r1.1),tc (tT [bf r2.1,bf r2.2]),tc (tT [bf r2.1,bf r2.2]),tc (bf r2.1),tc (bf r2.2),tc (bf r2.1)] [false,false,false,false,false,false,true,false,false,false,false,false] [fun _=>[bx rV 35 b (Y l1 c1 stack1.length),f6 aP 3 l1 c1 stack1],fun sg=>[bx rV 35 b (Y ((sg 6).h 0).1 ((sg 6).h 0).2 r1.2.length),f6 aP 3 ((sg 6).h 0).1 ((sg 6).h 0).2 r1.2]] I mixed I I I I I
    ⟨⟨[⟨1,fun _=>(jT bd XV XM (fun(x:aD×(List Int))=>do1 x.1 x.2)),none⟩],_,0,1,I,⟨(fun _=>I),Q⟩,I,I,I,I,I,fun _ sg _ _=>h2 I (fR I)⟩,
    ⟨⟨[⟨11,fun _=>bo bt e2,none⟩],_,0,1,I,⟨(fun _=>I),Q⟩,I,I,I,I,I,fun _ sg _ _=>h2 I (nM eH I I)⟩,
    ⟨⟨[⟨8,fun _=>tC 117 [tV (an b 0)],none⟩],_,0,0,I,⟨(fun _=>I),Q⟩,I,I,I,I,I,fun _ sg _ _=>h2 I (fR I)⟩,
    ⟨⟨[⟨11,fun _=>bo bt e2,none⟩],_,0,0,I,⟨(fun _=>I),Q⟩,I,I,I,I,I,fun _ sg _ _=>h2 I (kO m7 gN I I)⟩,
    ⟨⟨[⟨26,fun _=>bo aP e2.Tag,some 3⟩],_,0,0,I,⟨(fun _=>I),Q⟩,I,I,I,I,I,fun _ sg _ _=>h2 I (nM cF I I)⟩,
    ⟨⟨[⟨27,fun _=>Z aP e2.Tag,some 4⟩],_,0,0,I,⟨(fun _=>I),Q⟩,I,I,I,I,I,fun _ sg _ _=>h2 I (bq XB (Qk _ q_r) ⟨(M I),Q⟩)⟩,
    ⟨⟨[⟨25,fun _=>tC 117 [tV (an b 0)],some 2⟩,⟨28,fun _=>Z aP r,some 5⟩],_,I,⟨(fun _=>I),(fun _=>I),Q⟩,I,I,I,fun sg=>bL I (EffOK.fr1 (EffOK.fr1 (RV (xs:=[.tmp 28]) (ts:=[Z aP r]) (cts:=[tV (an b 0)]) [bx rV 35 b (Y l1 c1 stack1.length),f6 aP 3 l1 c1 stack1] _ I abO (Zg b l1 c1 _ _ q_r1) (M I) ⟨(M I),Q⟩ (fun _=>I))))⟩,
    ⟨⟨[⟨23,fun _=>(jT bd XV XM (fun(x:aD×(List Int))=>do1 x.1 x.2)),some 0⟩,⟨24,fun _=>Z bt e2,some 1⟩,⟨29,fun _=>Z DD r1.1,some 6⟩],_,1,1,I,⟨(fun _=>I),(fun _=>I),(fun _=>I),Q⟩,I,I,I,I,I,fun _ sg _ _=>h2 I (ku (args:=XV) (res:=XM) (f:=(fun(x:aD×(List Int))=>do1 x.1 x.2)) (x:=((e2,r1.1):aD×(List Int))) (M I) q_r2 ⟨(M I),(M I),Q⟩)⟩,
    ⟨⟨[⟨30,fun _=>tT [Z aP r2.1,Z aP r2.2],some 7⟩],_,1,1,I,⟨(fun _=>I),Q⟩,I,I,I,I,I,fun _ sg _ _=>h2 I (fR I)⟩,
    ⟨⟨[⟨22,fun _=>tT [Z aP r2.1,Z aP r2.2],some 8⟩],_,1,1,I,⟨(fun _=>I),Q⟩,I,I,I,I,I,fun _ sg _ _=>h2 I (w9 I I)⟩,
    ⟨⟨[⟨22,fun _=>tT [Z aP r2.1,Z aP r2.2],some 8⟩],_,1,1,I,⟨(fun _=>I),Q⟩,I,I,I,I,I,fun _ sg _ _=>h2 I (w9 I I)⟩,
    ⟨⟨[⟨31,fun _=>Z aP r2.1,some 9⟩],_,1,1,I,⟨(fun _=>I),Q⟩,I,I,I,I,I,fun _ sg _ _=>h2 I (Cm I)⟩,
    Q⟩⟩⟩⟩⟩⟩⟩⟩⟩⟩⟩⟩ (fun sg=>?_)
   refine(show RG _ _ _ _ [_,_] _ from ?_);refine bh I<|aR<|aY I<|ib I<|bX h I (fun h=>?_) (fun h=>?_)
   ·refine aI I<|bh I<|ep<|aE<|cY I<|aE<|aE<|cK ?_;exact cj (aw r2.2 r1.2 ((sg 6).h 0).1 ((sg 6).h 0).2 h) (a8 I)
   ·refine gp<|aL<|d (xy fV (.head _) (M I))<|aY I<|d (ba (r:=aP) (ys:=[r2.1]) (xs:=[.tmp 37]) fH cF I I I I I ⟨(M I),Q⟩)<|dS<|cu h fun l2 q_l2 h=>dZ cF I I I I fH I I (M I) (M I) q_l2 fun l3 c2=>dS<|mt fV I aj I (M I) (PQ (M I))<|br<|cS D hN I ?_;exact aO (ay (ih (i+1) bad1 l2 l3 c2 ⟨cO D,h⟩) (a8 I))

end Go.Proofs.YthbdkceckjihgaaGreatDoor

