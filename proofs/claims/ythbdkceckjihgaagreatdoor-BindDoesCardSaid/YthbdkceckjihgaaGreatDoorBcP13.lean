/- dm of this claim: P13. -/
import Derived.Test.YthbdkceckjihgaaGreatDoorBcT
import Derived.Test.YthbdkceckjihgaaGreatDoorBcP12
set_option linter.all false
namespace Go.Proofs.YthbdkceckjihgaaGreatDoor
open Go
abbrev z11(i:OI)(s:aB):=[(1,Y (i.h 0).1 (i.h 0).2 s.sources.length),(2,Y (i.h 1).1 (i.h 1).2 s.out.Tables.length),(3,Y (i.h 2).1 (i.h 2).2 s.out.Joins.length),(8,Y (i.h 3).1 (i.h 3).2 s.out.Keys.length),(9,Y (i.h 4).1 (i.h 4).2 s.out.Aggs.length),(10,Y (i.h 5).1 (i.h 5).2 s.out.Items.length)]
set_option maxRecDepth 100000

def Wd c name{R}(h:sO c name=some R):cN bd 148 [Z bG c,Z rS name] (bf R):=by
 refine dp Tryz.func148 I<|aV<|cL I<|bF<|bP<|aR<|bF<|bP<|ai<|bp ?_;refine ay (pd (tD:=fun n i=>qw c name n i=some R) (Of:=fun i=>[]) (Gf:=fun i=>[(1,Z rS name),(2,bo bG c),(5,bf i)]) (fun i h=>nn h) (fun n ih i h=>?_) fc (0:Int) h) (a8 I);refine dw<|aR<|aY I<|aU kX dE sL I<|bY qp I<|qq I<|bX h I (fun h=>?_) (fun h=>?_)
 ·refine gp<|aA<|ai<|aV<|aU kX dE sL I<|aY I<|cu h fun e q_e h=>uH qp jN I q_e<|aU wO pF ja I<|aY I<|d (fW (M I) (M I))<|bX h I (fun h=>?_) (fun h=>?_)
  ·exact aI I<|bj I<|bT<|af<|bT<|so h▸au I I
  ·refine bl<|bn<|aq<|aL<|aY I<|d (fq (M I) hI)<|gx I<|br ?_;exact aO (ay (ih (IntKind.i64.wrap (i+(1:Int))) h) (a8 I))
 ·exact ep<|aE<|aE<|cK<|aq<|aV<|dG<|so h▸au I I

def Ks s{R}(h:pV s=some R):cN bd 149 [Z be s] (Z rS R):=by
 refine dp Tryz.func149 I<|aV<|cL I<|d (cg hS)<|bP<|aR<|aU Ej pG ja I<|d (va (M I) hS)<|bX h I (fun h=>?_) (fun h=>?_)
 ·exact aV<|aU Ej pG ja I<|bj I<|af<|so h▸au I I
 ·exact gp<|aV<|aU Ek pH ja I<|bj I<|so h▸au I I

def TN(b1:Nat)(ix:OI) b s{R}(h:jE b s=some R):ea bd 103 [tV (an b1 0),Z be s] (kw b1 b ix) (fun _:OI=>bf R.1) (fun j=>kw b1 R.2 j):=by
 refine ea.of Tryz.func103 I I I fun w0 S0=>?_;refine(show CG _ _ _ [bx (rH bv (z11 ix b)) 137 b1 b,K be 48 (ix.h 0).1 (ix.h 0).2 b.sources,K aP 3 (ix.h 1).1 (ix.h 1).2 b.out.Tables,K av 71 (ix.h 2).1 (ix.h 2).2 b.out.Joins,K aP 3 (ix.h 3).1 (ix.h 3).2 b.out.Keys,K aT 73 (ix.h 4).1 (ix.h 4).2 b.out.Aggs,K ac 62 (ix.h 5).1 (ix.h 5).2 b.out.Items] _ from ?_);refine aV<|cL I<|bF<|bP<|aA<|cu h fun r q_r h=>?_
 refine d8 (ts:=[_,_,_,_,_,_,_,_]) mixed I I
  ⟨fv I I,
  ⟨fL 8 0 I I (bm (M I)),
  ⟨fL 9 1 I I (lu 0 wM I I I),
  ⟨fL 10 2 I I (bA (r:=rH bv (z11 ix b)) (x:=b) pl I I (nI mG) (.head _) (M I)),
  ⟨qN 3 I I (kO Ek pH I I),
  ⟨fA 4 ja I I,
  ⟨eh 11 3 13 5 I I I (bq abB (Wd _ _ q_r) ⟨(M I),(M I),Q⟩),
  ⟨fL 14 6 I I (Cm I),
  Q⟩⟩⟩⟩⟩⟩⟩⟩ ?_
 refine aq<|aR<|aY I<|d (eN (M I) hI)<|bX h I (fun h=>?_) (fun h=>?_)
 ·exact aV<|dG<|af<|ae<|ae<|ae<|ae<|ae<|ae<|ae<|so h▸eu I ix I I (fun _ _ h=>h)
 ·refine gp<|aR<|aY I<|d (bm (M I))<|bu 1 FD I<|d (cR Pm I (.head _) (.tail _ (.head _)) (M I))<|d (fO Iz (kp (M I)))<|d (bB hI)<|bP<|ai<|Jx<|vx 20 I<|aN (k:=20) I fun hN=>bp<|hY<|hY<|hY<|hY<|hY<|vv ?_;refine hY ?_;refine ay (dx (tD:=fun ls i=>(b.sources.drop i=ls)/\gU b s r ls=some R) (Of:=fun _ i=>[bx (rH bv (z11 ix b)) 137 b1 b,K be 48 (ix.h 0).1 (ix.h 0).2 b.sources,K aP 3 (ix.h 1).1 (ix.h 1).2 b.out.Tables,K av 71 (ix.h 2).1 (ix.h 2).2 b.out.Joins,K aP 3 (ix.h 3).1 (ix.h 3).2 b.out.Keys,K aT 73 (ix.h 4).1 (ix.h 4).2 b.out.Aggs,K ac 62 (ix.h 5).1 (ix.h 5).2 b.out.Items]) (Gf:=fun _ i=>[(0,tV (an b1 0)),(3,bo be s),(5,bf r),(20,gb (be) b.sources),(21,iG b.sources),(22,bf (i:Int))]) (fun i h=>?_) (fun e tl ih i h=>?_) b.sources 0 ⟨I,h⟩) (a8 I)
  ·obtain⟨D,h⟩:=h
   refine dh D I<|aq<|aA<|cu h fun l q_l h=>?_
   refine er 8 [tc (tV (an b1 0)),tc (tV (an b1 0)),tc (tV (an b1 0)),tc (tV (an b1 1)),tc (tO be (ix.h 0).1 (ix.h 0).2 b.sources),tc (Z be s),tc (gb (be) ([s])),([7],fun s=>tO be ((s.getD 0 oD).h 0).1 ((s.getD 0 oD).h 0).2 l)] [false,false,false,false,false,false,false,true] [fun _=>[bx (rH bv (z11 ix b)) 137 b1 b,K be 48 (ix.h 0).1 (ix.h 0).2 b.sources,K aP 3 (ix.h 1).1 (ix.h 1).2 b.out.Tables,K av 71 (ix.h 2).1 (ix.h 2).2 b.out.Joins,K aP 3 (ix.h 3).1 (ix.h 3).2 b.out.Keys,K aT 73 (ix.h 4).1 (ix.h 4).2 b.out.Aggs,K ac 62 (ix.h 5).1 (ix.h 5).2 b.out.Items],fun sg=>[K be 48 ((sg 7).h 0).1 ((sg 7).h 0).2 l,bx (rH bv (z11 ix b)) 137 b1 b,K aP 3 (ix.h 1).1 (ix.h 1).2 b.out.Tables,K av 71 (ix.h 2).1 (ix.h 2).2 b.out.Joins,K aP 3 (ix.h 3).1 (ix.h 3).2 b.out.Keys,K aT 73 (ix.h 4).1 (ix.h 4).2 b.out.Aggs,K ac 62 (ix.h 5).1 (ix.h 5).2 b.out.Items]] I mixed I I I I I
    ⟨⟨[⟨0,fun _=>tV (an b1 0),none⟩],_,0,1,I,⟨(fun _=>I),Q⟩,I,I,I,I,I,fun _ sg _ _=>h2 I (fR I)⟩,
    ⟨⟨[⟨0,fun _=>tV (an b1 0),none⟩],_,0,0,I,⟨(fun _=>I),Q⟩,I,I,I,I,I,fun _ sg _ _=>h2 I (fR I)⟩,
    ⟨⟨[⟨33,fun _=>tV (an b1 0),some 1⟩],_,0,0,I,⟨(fun _=>I),Q⟩,I,I,I,I,I,fun _ sg _ _=>h2 I (bm (M I))⟩,
    ⟨⟨[⟨34,fun _=>tV (an b1 0),some 2⟩],_,0,0,I,⟨(fun _=>I),Q⟩,I,I,I,I,I,fun _ sg _ _=>h2 I (lu 1 FD I I I)⟩,
    ⟨⟨[⟨35,fun _=>tV (an b1 1),some 3⟩],_,0,0,I,⟨(fun _=>I),Q⟩,I,I,I,I,I,fM (fun sg=>h2 I (cR Pm I (.head _) (.tail _ (.head _)) (M I)))⟩,
    ⟨⟨[⟨3,fun _=>bo be s,none⟩],_,0,0,I,⟨(fun _=>I),Q⟩,I,I,I,I,I,fun _ sg _ _=>h2 I (nM tQ I I)⟩,
    ⟨⟨[⟨37,fun _=>Z be s,some 5⟩],_,0,0,I,⟨(fun _=>I),Q⟩,I,I,I,I,I,fun _ sg _ _=>h2 I (ba (r:=be) (ys:=[s]) (xs:=[.tmp 37]) Iz tQ I I I I I ⟨(M I),Q⟩)⟩,
    ⟨⟨[⟨36,fun _=>tO be (ix.h 0).1 (ix.h 0).2 b.sources,some 4⟩,⟨38,fun _=>Z (eM be) ([s]),some 6⟩],_,I,⟨(fun _=>I),(fun _=>I),Q⟩,I,I,I,fun sg=>bL I (EffOK.fr1 (iq tQ I I I I Iz I (M I) (M I) q_l))⟩,
    Q⟩⟩⟩⟩⟩⟩⟩⟩ (fun sg=>?_)
   refine(show RG _ _ _ _ [_,_,_,_,_,_,_] _ from ?_);refine d (bm (M I))<|bu 1 FD I<|fZ (EffOK.fr1 (il (hs' :=[(1,Y ((sg 7).h 0).1 ((sg 7).h 0).2 l.length),(2,Y (ix.h 1).1 (ix.h 1).2 b.out.Tables.length),(3,Y (ix.h 2).1 (ix.h 2).2 b.out.Joins.length),(8,Y (ix.h 3).1 (ix.h 3).2 b.out.Keys.length),(9,Y (ix.h 4).1 (ix.h 4).2 b.out.Aggs.length),(10,Y (ix.h 5).1 (ix.h 5).2 b.out.Items.length)]) (u:=Y ((sg 7).h 0).1 ((sg 7).h 0).2 l.length) Pm I I Lj I ⟨.inl ⟨I,I,I⟩,.inr ⟨I,I⟩,.inr ⟨I,I⟩,.inr ⟨I,I⟩,.inr ⟨I,I⟩,.inr ⟨I,I⟩,Q⟩ (M I) (kp (M I)) (tR (M I)))) fun i1=>?_;refine(show RG _ _ _ _ [_,_,_,_,_,_,_] _ from ?_);refine bP<|aI I<|aY I<|d (bm (M I))<|bu 2 eU I<|bu 2 rh I<|d (cR fV I (.head _) (.tail _ (.tail _ (.head _))) (M I))<|aY I<|d (ba (r:=aP) (ys:=[r]) (xs:=[.tmp 48]) fH cF I I I I I ⟨(M I),Q⟩)<|hU<|cu h fun l1 q_l1 h=>md cF I I I I fH I I (M I) (M I) q_l1 fun l2 c=>d (bm (M I))<|bu 2 eU I<|bu 2 rh I<|fZ (EffOK.fr1 (il (hs' :=[(1,Y ((sg 7).h 0).1 ((sg 7).h 0).2 l.length),(2,Y l2 c l1.length),(3,Y (ix.h 2).1 (ix.h 2).2 b.out.Joins.length),(8,Y (ix.h 3).1 (ix.h 3).2 b.out.Keys.length),(9,Y (ix.h 4).1 (ix.h 4).2 b.out.Aggs.length),(10,Y (ix.h 5).1 (ix.h 5).2 b.out.Items.length)]) (u:=Y l2 c l1.length) fV I I (gc fP lz CL) I ⟨.inr ⟨I,I⟩,.inl ⟨I,I,I⟩,.inr ⟨I,I⟩,.inr ⟨I,I⟩,.inr ⟨I,I⟩,.inr ⟨I,I⟩,Q⟩ (M I) (kp (M I)) (tR (M I)))) fun i2=>?_;refine(show RG _ _ _ _ [_,_,_,_,_,_,_] _ from ?_);exact bP<|aV<|dG<|ae<|ae<|ae<|ae<|fG<|ae<|ae<|so h▸eu I (Fy [(((sg 7).h 0).1,((sg 7).h 0).2),(l2,c),((ix.h 2).1,(ix.h 2).2),((ix.h 3).1,(ix.h 3).2),((ix.h 4).1,(ix.h 4).2),((ix.h 5).1,(ix.h 5).2)]) I I (fun _ _ h=>h)
  ·obtain⟨D,h⟩:=h
   refine dg D I<|aA<|ai<|aV<|d9 Iz tQ I (cW D)<|aX tQ vl I fun b2=>bM tQ aj I<|aQ 7 I<|bP<|aA<|cu h fun r1 q_r1 h=>cu h fun r2 q_r2 h=>?_
   refine d8 (ts:=[_,_,_,_,_]) mixed I I
    ⟨qN 7 I I (nM tQ I I),
    ⟨fL 26 0 I I (bq T8 (Ks _ q_r1) ⟨(M I),Q⟩),
    ⟨qN 3 I I (nM tQ I I),
    ⟨fL 28 2 I I (bq T8 (Ks _ q_r2) ⟨(M I),Q⟩),
    ⟨eh 27 1 29 3 I I I (fW (M I) (M I)),
    Q⟩⟩⟩⟩⟩ ?_
   refine aq<|lO h I (fun h=>?_) (fun h=>?_)
   ·exact aV<|dG<|bT<|af<|bT<|ae<|ae<|ae<|ae<|ae<|ae<|ae<|so h▸eu I ix I I (fun _ _ h=>h)
   ·refine bl<|cS D hN I ?_;exact aO (ay (ih (i+1) ⟨cO D,h⟩) (a8 I))

def Kn c tables{R}(h:jQ c tables=some R):jB bd 24 [Z bG c,qn tables] false aP 3 R:=by
 refine jB.of Tryz.func24 I I I fun w0 S0=>aV<|cL I<|ck false aP 3<|d (cg zf)<|bP<|aV<|ck false aP 3<|d (cg zf)<|bP<|aR<|aY I<|bY fH I<|d (bB hI)<|bP<|ai<|aN (k:=10) I fun hN=>?_;refine bp<|hZ<|yH ?_;refine ay (jC (tD:=fun ls i out l c1=>(tables.drop i=ls)/\lU c ls out=some R) (Of:=fun _ i out l c1=>[f6 aP 3 l c1 out]) (Gf:=fun _ i out l c1=>[(2,bo bG c),(5,sy l c1 out),(10,qn tables),(11,iG tables),(12,bf (i:Int))]) (fun i out l c1 h=>?_) (fun e tl ih i out l c1 h=>?_) tables 0 xo none 0 ⟨I,h⟩) (a8 I)
 ·obtain⟨D,h⟩:=h
  exact dh D I<|aq<|aI I<|bj I<|so h▸na I I
 ·obtain⟨D,h⟩:=h
  refine dg D I<|aA<|ai<|aV<|d9 fH cF I (cW D)<|bh I<|aV<|aU kX dE sL I<|aY I ?_;refine cu h fun e1 q_e1 h=>uH qp jN I q_e1<|aU iF ev oq I<|bY ol I<|d (bB hI)<|bP<|ai<|aN (k:=21) I fun hN1=>bp ?_;refine ay (jC (tD:=fun ls1 i1 out1 l1 c2=>(e1.Columns.drop i1=ls1)/\pp (lU c tl) ls1 out1=some R) (Of:=fun _ i1 out1 l1 c2=>[f6 aP 3 l1 c2 out1]) (Gf:=fun _ i1 out1 l1 c2=>[(2,bo bG c),(5,sy l1 c2 out1),(10,qn tables),(11,iG tables),(12,bf (i:Int)),(21,gb (cQ) e1.Columns),(22,iG e1.Columns),(23,bf (i1:Int))]) (fun i1 out1 l1 c2 h=>?_) (fun e2 tl1 ih1 i1 out1 l1 c2 h=>?_) e1.Columns 0 out l c1 ⟨I,h⟩) (a8 I)
  ·obtain⟨hx1,h⟩:=h
   refine dh hx1 I<|cS D hN I ?_;exact aO (ay (ih (i+1) out1 l1 c2 ⟨cO D,h⟩) (a8 I))
  ·obtain⟨hx1,h⟩:=h
   refine dg hx1 I<|aA<|ai<|aV<|d9 ol jg I (cW hx1)<|aX jg oC I fun b=>bM jg aj I<|aQ 9 I<|bP<|aL<|aY I<|oU FE ud I ?_;refine cM cF I<|d (ba (r:=aP) (ys:=[e2.Kind]) (xs:=[.tmp 29]) fH cF I I I I I ⟨(M I),Q⟩)<|cu h fun out2 q_out2 h=>dZ cF I I I I fH I I (M I) (M I) q_out2 fun l2 c3=>gx I<|br<|cS hx1 hN1 I ?_;exact aO (ay (ih1 (i1+1) out2 l2 c3 ⟨cO hx1,h⟩) (a8 I))
def Ko c tables{R}(h:jQ c tables=some R):cN bd 24 [Z bG c,qn tables] (qn R):=(Kn _ _ h).spec

def Wc t name{R}(h:u0 t name=some R):cN bd 150 [Z cv t,Z rS name] (bf R):=by
 refine dp Tryz.func150 I<|aV<|cL I<|bF<|bP<|aR<|bF<|bP<|ai<|bp ?_;refine ay (pd (tD:=fun n i=>ou t name n i=some R) (Of:=fun i=>[]) (Gf:=fun i=>[(1,Z rS name),(2,bo cv t),(5,bf i)]) (fun i h=>nn h) (fun n ih i h=>?_) fc (0:Int) h) (a8 I);refine dw<|aR<|aY I<|aU iF ev oq I<|bY ol I<|qq I<|bX h I (fun h=>?_) (fun h=>?_)
 ·refine gp<|aA<|ai<|aV<|aU iF ev oq I<|aY I<|cu h fun e q_e h=>uH ol jg I q_e<|aU tA ky ja I<|aY I<|d (fW (M I) (M I))<|bX h I (fun h=>?_) (fun h=>?_)
  ·exact aI I<|bj I<|bT<|af<|bT<|so h▸au I I
  ·refine bl<|bn<|aq<|aL<|aY I<|d (fq (M I) hI)<|gx I<|br ?_;exact aO (ay (ih (IntKind.i64.wrap (i+(1:Int))) h) (a8 I))
 ·exact ep<|aE<|aE<|cK<|aq<|aV<|dG<|so h▸au I I

def TM(b1:Nat)(ix:OI) b table name{R}(h:jF b table name=some R):ea bd 105 [tV (an b1 0),Z rS table,Z rS name] (kw b1 b ix) (fun _:OI=>tT [bf R.1,bf R.2]) (fun _=>(kw b1 b ix)):=by
 refine ea.of Tryz.func105 I I I fun w0 S0=>?_;refine(show CG _ _ _ [bx (rH bv (z11 ix b)) 137 b1 b,K be 48 (ix.h 0).1 (ix.h 0).2 b.sources,K aP 3 (ix.h 1).1 (ix.h 1).2 b.out.Tables,K av 71 (ix.h 2).1 (ix.h 2).2 b.out.Joins,K aP 3 (ix.h 3).1 (ix.h 3).2 b.out.Keys,K aT 73 (ix.h 4).1 (ix.h 4).2 b.out.Aggs,K ac 62 (ix.h 5).1 (ix.h 5).2 b.out.Items] _ from ?_);refine aV<|bF<|bF<|bP<|aV<|bF<|bF<|bF<|bP<|aR<|aY I<|d (bm (M I))<|bu 1 FD I<|d (cR Pm I (.head _) (.tail _ (.head _)) (M I))<|d (fO Iz (kp (M I)))<|d (bB hI)<|bP ?_;refine ai<|Jx<|vx 18 I<|aN (k:=18) I fun hN=>bp<|hY<|hY<|hY<|hY<|hY<|vv<|hY ?_;refine ay (jC (tD:=fun ls i found many first=>(b.sources.drop i=ls)/\fb b table name ls i found many first=some R) (Of:=fun _ i found many first=>[bx (rH bv (z11 ix b)) 137 b1 b,K be 48 (ix.h 0).1 (ix.h 0).2 b.sources,K aP 3 (ix.h 1).1 (ix.h 1).2 b.out.Tables,K av 71 (ix.h 2).1 (ix.h 2).2 b.out.Joins,K aP 3 (ix.h 3).1 (ix.h 3).2 b.out.Keys,K aT 73 (ix.h 4).1 (ix.h 4).2 b.out.Aggs,K ac 62 (ix.h 5).1 (ix.h 5).2 b.out.Items]) (Gf:=fun _ i found many first=>[(0,tV (an b1 0)),(1,Z rS table),(2,Z rS name),(8,bf found),(9,bf many),(10,bf first),(18,gb (be) b.sources),(19,iG b.sources),(20,bf (i:Int))]) (fun i found many first h=>?_) (fun e tl ih i found many first h=>?_) b.sources 0 (0:Int) (0:Int) (0:Int) ⟨I,h⟩) (a8 I)
 ·obtain⟨D,h⟩:=h
  refine dh D I<|aq<|aR<|aY I<|bP<|ai<|aV<|dn I<|gx I ?_;refine bX h I (fun h=>?_) (fun h=>?_)
  ·exact aV<|bF<|dG<|bT<|ae<|ae<|ae<|ae<|ae<|ae<|ae<|so h▸dc (ts:=[bf 0,bf 222]) (rvs:=[.tmp 6,.tmp 7]) I I ⟨bH I,bH I,Q⟩ oD I I
  ·refine aV<|dn I<|bh I<|lO h I (fun h=>?_) (fun h=>?_)
   ·exact aI I<|gx I<|dG<|bT<|ae<|ae<|ae<|ae<|ae<|ae<|ae<|so h▸dc (ts:=[bf found,bf 0]) (rvs:=[.tmp 6,.tmp 7]) I I ⟨bH I,bH I,Q⟩ oD I I
   ·exact bl<|bn<|aq<|aV<|bF<|dG<|ae<|ae<|ae<|ae<|ae<|ae<|ae<|so h▸dc (ts:=[bf 0,bf 223]) (rvs:=[.tmp 6,.tmp 7]) I I ⟨bH I,bH I,Q⟩ oD I I
 ·obtain⟨D,h⟩:=h
  refine dg D I<|aA<|ai<|aI I<|d9 Iz tQ I (cW D)<|aX tQ vl I fun b2=>gx I<|bM tQ aj I<|aQ 12 I<|bP<|aA ?_;refine cu h fun e1 q_e1 h=>cu h fun e2 q_e2 h=>?_
  refine er 16 [tc (tV (an b1 0)),tc (tV (an b1 0)),tc (tV (an b1 0)),tc (tV (an b1 0)),tc (gb (cv) b.c.Tables),tc (tV (an b1 0)),tc (tV (an b1 0)),tc (tV (an b1 2)),tc (tV (an b1 2)),tc (tO aP (ix.h 1).1 (ix.h 1).2 b.out.Tables),tc (bf (i:Int)),tc (bo aP e1),tc (bf e1),tc (bo cv e2),tc (Z cv e2),([15],fun s=>tV (an ((s.getD 0 oD).h 0).2 0))] [false,false,false,false,false,false,false,false,false,false,false,false,false,false,false,true] [fun _=>[bx (rH bv (z11 ix b)) 137 b1 b,K be 48 (ix.h 0).1 (ix.h 0).2 b.sources,K aP 3 (ix.h 1).1 (ix.h 1).2 b.out.Tables,K av 71 (ix.h 2).1 (ix.h 2).2 b.out.Joins,K aP 3 (ix.h 3).1 (ix.h 3).2 b.out.Keys,K aT 73 (ix.h 4).1 (ix.h 4).2 b.out.Aggs,K ac 62 (ix.h 5).1 (ix.h 5).2 b.out.Items],fun sg=>[bx cv 110 ((sg 15).h 0).2 (⟨[],[],[]⟩:bU),bx (rH bv (z11 ix b)) 137 b1 b,K be 48 (ix.h 0).1 (ix.h 0).2 b.sources,K aP 3 (ix.h 1).1 (ix.h 1).2 b.out.Tables,K av 71 (ix.h 2).1 (ix.h 2).2 b.out.Joins,K aP 3 (ix.h 3).1 (ix.h 3).2 b.out.Keys,K aT 73 (ix.h 4).1 (ix.h 4).2 b.out.Aggs,K ac 62 (ix.h 5).1 (ix.h 5).2 b.out.Items]] I mixed I I I I I
   ⟨⟨[⟨0,fun _=>tV (an b1 0),none⟩],_,0,1,I,⟨(fun _=>I),Q⟩,I,I,I,I,I,fun _ sg _ _=>h2 I (fR I)⟩,
   ⟨⟨[⟨25,fun _=>tV (an b1 0),some 0⟩],_,0,1,I,⟨(fun _=>I),Q⟩,I,I,I,I,I,fun _ sg _ _=>h2 I (bm (M I))⟩,
   ⟨⟨[⟨26,fun _=>tV (an b1 0),some 1⟩],_,0,1,I,⟨(fun _=>I),Q⟩,I,I,I,I,I,fun _ sg _ _=>h2 I (lu 0 wM I I I)⟩,
   ⟨⟨[⟨27,fun _=>tV (an b1 0),some 2⟩],_,0,1,I,⟨(fun _=>I),Q⟩,I,I,I,I,I,fun _ sg _ _=>h2 I (lu 0 kX I I I)⟩,
   ⟨⟨[⟨28,fun _=>tV (an b1 0),some 3⟩],_,0,1,I,⟨(fun _=>I),Q⟩,I,I,I,I,I,ur (fun sg=>h2 I (bA (r:=rH bv (z11 ix b)) (x:=b) sL I I (nI (fj mG dE)) (.head _) (M I))) (fM (fun sg=>h2 I (bA (r:=rH bv (z11 ix b)) (x:=b) sL I I (nI (fj mG dE)) (.tail _ (.head _)) (M I))))⟩,
   ⟨⟨[⟨0,fun _=>tV (an b1 0),none⟩],_,0,1,I,⟨(fun _=>I),Q⟩,I,I,I,I,I,fun _ sg _ _=>h2 I (fR I)⟩,
   ⟨⟨[⟨30,fun _=>tV (an b1 0),some 5⟩],_,0,1,I,⟨(fun _=>I),Q⟩,I,I,I,I,I,fun _ sg _ _=>h2 I (bm (M I))⟩,
   ⟨⟨[⟨31,fun _=>tV (an b1 0),some 6⟩],_,0,1,I,⟨(fun _=>I),Q⟩,I,I,I,I,I,fun _ sg _ _=>h2 I (lu 2 eU I I I)⟩,
   ⟨⟨[⟨32,fun _=>tV (an b1 2),some 7⟩],_,0,1,I,⟨(fun _=>I),Q⟩,I,I,I,I,I,fun _ sg _ _=>h2 I (lu 2 rh I I I)⟩,
   ⟨⟨[⟨33,fun _=>tV (an b1 2),some 8⟩],_,0,1,I,⟨(fun _=>I),Q⟩,I,I,I,I,I,ur (fun sg=>h2 I (cR fV I (.head _) (.tail _ (.tail _ (.head _))) (M I))) (fM (fun sg=>h2 I (cR fV I (.tail _ (.head _)) (.tail _ (.tail _ (.tail _ (.head _)))) (M I))))⟩,
   ⟨⟨[⟨11,fun _=>Z aP (i:Int),none⟩],_,0,1,I,⟨(fun _=>I),Q⟩,I,I,I,I,I,fun _ sg _ _=>h2 I (fR I)⟩,
   ⟨⟨[⟨34,fun _=>tO aP (ix.h 1).1 (ix.h 1).2 b.out.Tables,some 9⟩,⟨35,fun _=>Z aP (i:Int),some 10⟩],_,0,1,I,⟨(fun _=>I),(fun _=>I),Q⟩,I,I,I,I,I,fun _ sg _ _=>h2 I (d6 fH cF I (kp (M I)) (M I) q_e1)⟩,
   ⟨⟨[⟨36,fun _=>bo aP e1,some 11⟩],_,0,1,I,⟨(fun _=>I),Q⟩,I,I,I,I,I,fun _ sg _ _=>h2 I (nM cF I I)⟩,
   ⟨⟨[⟨29,fun _=>Z (eM cv) b.c.Tables,some 4⟩,⟨37,fun _=>Z aP e1,some 12⟩],_,0,1,I,⟨(fun _=>I),(fun _=>I),Q⟩,I,I,I,I,I,fun _ sg _ _=>h2 I (uR qp jN I I I q_e2)⟩,
   ⟨⟨[⟨38,fun _=>bo cv e2,some 13⟩],_,0,1,I,⟨(fun _=>I),Q⟩,I,I,I,I,I,fun _ sg _ _=>h2 I (nM jN I I)⟩,
   ⟨⟨[],_,I,Q,I,I,I,fun sg=>bL I (lM jN zj)⟩,
   Q⟩⟩⟩⟩⟩⟩⟩⟩⟩⟩⟩⟩⟩⟩⟩⟩ (fun sg=>?_)
  refine(show RG _ _ _ _ [_,_,_,_,_,_,_,_] _ from ?_);refine bM jN aj I<|aQ 13 I<|bP<|aV<|cM jN I<|aY I<|eg h abA (Wc _ _) (da I) fun r h=>bh I ?_;refine xM (tD:=fun found1 many1=>gV (fb b table name tl) i first e2 found1 many1=some R) (Of:=fun found1 many1=>[bx (rH bv (z11 ix b)) 137 b1 b,K be 48 (ix.h 0).1 (ix.h 0).2 b.sources,K aP 3 (ix.h 1).1 (ix.h 1).2 b.out.Tables,K av 71 (ix.h 2).1 (ix.h 2).2 b.out.Joins,K aP 3 (ix.h 3).1 (ix.h 3).2 b.out.Keys,K aT 73 (ix.h 4).1 (ix.h 4).2 b.out.Aggs,K ac 62 (ix.h 5).1 (ix.h 5).2 b.out.Items]) (Gf:=fun found1 many1=>[(0,tV (an b1 0)),(1,Z rS table),(2,Z rS name),(8,bf found1),(9,bf many1),(10,bf first),(13,bo cv e2),(18,gb (be) b.sources),(19,iG b.sources),(20,bf (i:Int))]) (fun found1 many1 h=>?_) (fun aw=>?_)
  ·skip
   refine aL<|aY I<|aU iF ev oq I<|bY ol I<|d (fq (M I) (M I))<|gx I<|br<|cS D hN I ?_;exact aO (ay (ih (i+1) found1 many1 (IntKind.i64.wrap (first+(e2.Columns.length:Int))) ⟨cO D,h⟩) (a8 I))
  ·skip
   refine aI I<|d (ff (M I) hI)<|aY I<|cu h fun t q_t h=>ax I (de I)<|ax I (fun V=>fW (bE I V) hS)<|ax I (rn I) ?_
   obtain⟨t1,h1t,h0t⟩:=og q_t
   have q_t1g:=fun A=>(h1t A).1
   refine fk I I I I (fun V=>fR I)<|fk I I I I (fun V=>nM tQ I I) ?_
   obtain⟨r1,h1t1,h0t1⟩:=Yg q_t1g
   have q_r1g:=fun A=>(h1t1 A).1
   refine fk I I I I (fun V=>bq T8 (Ks _ (q_r1g V)) ⟨(bE I V),Q⟩)<|fk I I I I (fun V=>fW (bE I V) (bE I V))<|ax I (fun V=>cD (bE I V) (fun A=>(bE I (sr V (mD A)))) (fun A=>(h1t1 (sr V A)).2) (fun A=>h0t1 V A))<|d (co (M I) (fun A=>(bE I A)) (fun A=>(h1t A).2) h0t)<|bX h I (fun h=>?_) (fun h=>?_)
   ·refine aI I<|aY I<|d (fq (M I) (M I))<|bh I<|aL<|aY I<|d (fq (M I) hI)<|gx I<|br ?_;exact cj (aw (IntKind.i64.wrap (first+r)) (IntKind.i64.wrap (many+(1:Int))) h) (a8 I)
   ·refine bl ?_;exact cj (aw found many h) (a8 I)

def AD root l{R}(h:gv root l=some R):cN bd 106 [Z bt root,gb (ac) l] (Z ac R):=by
 refine dp Tryz.func106 I<|aV<|AL (M I) I fun b=>aX bJ cZ I fun b1=>bP<|aV<|ck true bt 106<|aX (r:=oF) (x:=p4 th (Y none 0 (([]:List aD).length))) bJ QL I fun b2=>bP<|aV<|bu 1 o8 I<|ka<|mt cF I vI I (M I) hI<|bu 2 n4 I<|mt cF I vH I (M I) hI<|bP<|aA<|aA ?_;refine aL<|aY I<|bY oQ I<|d (bB hI)<|bP<|ai<|aN (k:=13) I fun hN=>bp<|kb<|kb<|rA<|rA ?_;refine ay (Dy (tD:=fun ls i root1 out l1 c=>(l.drop i=ls)/\iz ls i root1 out=some R) (Of:=fun _ i root1 out l1 c=>[bx bt 106 b root1,bx ac 62 b1 th,bx oF 62 b2 (p4 out (Y l1 c out.Nodes.length)),K bt 106 l1 c out.Nodes]) (Gf:=fun _ i root1 out l1 c=>[(2,tV (an b 0)),(4,tV (an b1 0)),(5,tV (an b2 0)),(13,gb (ac) l),(14,iG l),(15,bf (i:Int))]) (fun i root1 out l1 c h=>?_) (fun e tl ih i root1 out l1 c h=>?_) l 0 (aD.mk root.Tag mg mg root.Col root.Value) ({th with Nodes:=([]:List aD)}:aZ) none 0 ⟨I,h⟩) (a8 I)
 ·obtain⟨D,h⟩:=h
  refine dh D I<|aq<|aV<|bu 0 jV I<|d (p3 sB uc (.tail _ (.tail _ (.head _))) (.tail _ (.tail _ (.tail _ (.head _)))) I (M I))<|d (bA eH I I cE (.head _) (M I))<|d (ba (r:=bt) (ys:=[root1]) (xs:=[.tmp 68]) mv eH I I I I I ⟨(M I),Q⟩)<|ka<|cu h fun l2 q_l2 h=>md eH I I I I mv I I (M I) (M I) q_l2 fun l3 c1=>bu 0 jV I<|ka ?_;exact iM sB I (uJ out _ _) I (M I) (PQ (tR (M I)))<|bP<|aV<|dS<|d (ra (q:=ac) (y:=({out with Nodes:=l2}:aZ)) bJ I I I I (.tail _ (.head _)) (fun _ _ _ ho h=>Hs (sa ho (.head _)) h) (M I))<|ka<|bM bJ aj I<|aQ 4 I<|cA<|aM<|aM<|aM<|so h▸sw I bJ I I I
 ·obtain⟨D,h⟩:=h
  refine dg D I<|aA<|ai<|aI I<|d9 oQ bJ I (cW D)<|aX bJ cZ I fun b3=>gx I<|bM bJ aj I<|aQ 7 I<|bP<|aA ?_;refine aL<|bu 0 jV I<|d (p3 sB uc (.tail _ (.tail _ (.head _))) (.tail _ (.tail _ (.tail _ (.head _)))) I (M I))<|d (fO mv (kp (M I)))<|bh I<|aR<|aU jV ge sB I<|bY mv I<|d (bB hI)<|bP<|ai<|aN (k:=24) I fun hN1=>bp ?_;refine ay (jC (tD:=fun ls1 i1 out1 l4 c2=>(e.Nodes.drop i1=ls1)/\eQ (iz tl) i root1 out ls1 out1=some R) (Of:=fun _ i1 out1 l4 c2=>[bx bt 106 b root1,bx ac 62 b1 th,bx oF 62 b2 (p4 out1 (Y l4 c2 out1.Nodes.length)),K bt 106 l4 c2 out1.Nodes]) (Gf:=fun _ i1 out1 l4 c2=>[(2,tV (an b 0)),(4,tV (an b1 0)),(5,tV (an b2 0)),(6,bf (i:Int)),(8,iG out.Nodes),(13,gb (ac) l),(14,iG l),(15,bf (i:Int)),(24,gb (bt) e.Nodes),(25,iG e.Nodes),(26,bf (i1:Int))]) (fun i1 out1 l4 c2 h=>?_) (fun e1 tl1 ih1 i1 out1 l4 c2 h=>?_) e.Nodes 0 out l1 c ⟨I,h⟩) (a8 I)
  ·obtain⟨hx1,h⟩:=h
   refine dh hx1 I<|aq<|aI I<|dn I<|bX h I (fun h=>?_) (fun h=>?_)
   ·refine aL<|bu 0 jV I<|d (p3 sB uc (.tail _ (.tail _ (.head _))) (.tail _ (.tail _ (.tail _ (.head _)))) I (M I))<|d (fO mv (kp (M I)))<|d (fm (M I) hI)<|bu 1 o8 I<|bM cF vI I<|br<|cS D hN I ?_;exact aO (ay (ih (i+1) (aD.mk root1.Tag (IntKind.i64.wrap ((out1.Nodes.length:Int)-(1:Int))) root1.R root1.Col root1.Value) out1 l4 c2 ⟨cO D,h⟩) (a8 I))
   ·refine aL<|bu 0 jV I<|d (p3 sB uc (.tail _ (.tail _ (.head _))) (.tail _ (.tail _ (.tail _ (.head _)))) I (M I))<|d (fO mv (kp (M I)))<|d (fm (M I) hI)<|bu 2 n4 I<|bM cF vH I<|br<|cS D hN I ?_;exact aO (ay (ih (i+1) (aD.mk root1.Tag root1.L (IntKind.i64.wrap ((out1.Nodes.length:Int)-(1:Int))) root1.Col root1.Value) out1 l4 c2 ⟨cO D,h⟩) (a8 I))
  ·obtain⟨hx1,h⟩:=h
   refine dg hx1 I<|aA<|ai<|aV<|d9 mv eH I (cW hx1)<|aX eH iN I fun b4=>bM eH aj I<|bP ?_;refine ia (tD:=fun n=>tn out (eQ (iz tl) i root1 out tl1) out1 n=some R) (Of:=fun n=>[bx bt 106 b root1,bx ac 62 b1 th,bx bt 106 b4 n,bx oF 62 b2 (p4 out1 (Y l4 c2 out1.Nodes.length)),K bt 106 l4 c2 out1.Nodes]) (Gf:=fun n=>[(2,tV (an b 0)),(4,tV (an b1 0)),(5,tV (an b2 0)),(6,bf (i:Int)),(8,iG out.Nodes),(10,tV (an b4 0)),(13,gb (ac) l),(14,iG l),(15,bf (i:Int)),(24,gb (bt) e.Nodes),(25,iG e.Nodes),(26,bf (i1:Int))]) (fun n h=>?_) (fun aw=>?_)
   ·skip
    refine ia (tD:=fun n1=>qy (eQ (iz tl) i root1 out tl1) out1 n1=some R) (Of:=fun n1=>[bx bt 106 b root1,bx ac 62 b1 th,bx bt 106 b4 n1,bx oF 62 b2 (p4 out1 (Y l4 c2 out1.Nodes.length)),K bt 106 l4 c2 out1.Nodes]) (Gf:=fun n1=>[(2,tV (an b 0)),(4,tV (an b1 0)),(5,tV (an b2 0)),(6,bf (i:Int)),(8,iG out.Nodes),(10,tV (an b4 0)),(13,gb (ac) l),(14,iG l),(15,bf (i:Int)),(24,gb (bt) e.Nodes),(25,iG e.Nodes),(26,bf (i1:Int))]) (fun n1 h=>?_) (fun K1=>?_)
    ·skip
     refine aL<|bu 0 jV I<|d (p3 sB uc (.tail _ (.tail _ (.tail _ (.head _)))) (.tail _ (.tail _ (.tail _ (.tail _ (.head _))))) I (M I))<|d (bA eH I I cE (.tail _ (.tail _ (.head _))) (M I))<|d (ba (r:=bt) (ys:=[n1]) (xs:=[.tmp 48]) mv eH I I I I I ⟨(M I),Q⟩)<|qe<|cu h fun l5 q_l5 h=>md eH I I I I mv I I (M I) (M I) q_l5 fun l6 c3=>bu 0 jV I<|qe<|iM sB I (uJ out1 _ _) I (M I) (PQ (tR (M I)))<|br<|cS hx1 hN1 I<|eb<|aM<|dI<|dI<|kc<|kc ?_;exact aO (ay (ih1 (i1+1) ({out1 with Nodes:=l5}:aZ) l6 c3 ⟨cO hx1,h⟩) (a8 I))
    ·skip
     refine aV<|bu 2 n4 I<|d (bA cF I I lZ (.tail _ (.tail _ (.head _))) (M I))<|d (ff (M I) hI)<|bX h I (fun h=>?_) (fun h=>?_)
     ·refine aL<|bu 2 n4 I<|d (bA cF I I lZ (.tail _ (.tail _ (.head _))) (M I))<|aY I<|d (fq (M I) (M I))<|bu 2 n4 I<|hU<|bM cF vH I<|br<|eb<|eb<|gj<|eb<|eb ?_;exact cj (K1 (aD.mk n.Tag n.L (IntKind.i64.wrap (n.R+(out.Nodes.length:Int))) n.Col n.Value) h) (a8 I)
     ·refine bl ?_;exact cj (K1 n h) (a8 I)
   ·skip
    refine aV<|bu 1 o8 I<|d (bA cF I I mS (.head _) (M I))<|d (ff (M I) hI)<|bX h I (fun h=>?_) (fun h=>?_)
    ·refine aL<|bu 1 o8 I<|d (bA cF I I mS (.head _) (M I))<|aY I<|d (fq (M I) (M I))<|bu 1 o8 I<|bM cF vI I<|br<|eb<|eb<|gj<|eb<|eb ?_;exact cj (aw (aD.mk e1.Tag (IntKind.i64.wrap (e1.L+(out.Nodes.length:Int))) e1.R e1.Col e1.Value) h) (a8 I)
    ·refine bl<|eb<|eb<|gj<|eb<|eb ?_;exact cj (aw e1 h) (a8 I)

end Go.Proofs.YthbdkceckjihgaaGreatDoor

