/- du of this claim: P16. -/
import Derived.Test.YthbdkceckjihgaaGreatDoorBbT
import Derived.Test.YthbdkceckjihgaaGreatDoorBbP15
set_option linter.all false
namespace Go.Proofs.YthbdkceckjihgaaGreatDoor
open Go
set_option maxRecDepth 100000

def NW(b1:Nat)(ix:OI) b t group{R}(h:kf b t group=some R):ea aZ 107 [tV (an b1 0),H bI t,im group] (kE b1 b ix) (fun _:OI=>tT [H ac R.1,bd R.2.1]) (fun j=>kE b1 R.2.2 j):=by
 refine ea.of Tryz.func107 I I I fun w0 S0=>?_;refine(show CG _ _ _ [bx (rH bA (z11 ix b)) 137 b1 b,K bg 48 (ix.h 0).1 (ix.h 0).2 b.sources,K aP 3 (ix.h 1).1 (ix.h 1).2 b.out.Tables,K aw 71 (ix.h 2).1 (ix.h 2).2 b.out.Joins,K aP 3 (ix.h 3).1 (ix.h 3).2 b.out.Keys,K aN 73 (ix.h 4).1 (ix.h 4).2 b.out.Aggs,K ac 62 (ix.h 5).1 (ix.h 5).2 b.out.Items] _ from ?_);refine aY<|cK I<|aV bD cQ I fun b2=>bG<|bO<|aH I<|cC jY I<|ba j5 eN sw I<|bW oZ I<|Q (fv (M I) hI)<|aX I<|cq h fun r q_r h=>jl (EffOK.fr7 (EffOK.fr7 (EffOK.fr7 (EffOK.fr7 (EffOK.fr7 (EffOK.fr7 (EffOK.fr7 (d7 (xs:=[.tmp 11,.tmp 12,.tmp 16,.tmp 17]) (ts:=[tV (an b1 0),H bI t,bd (IntKind.i64.wrap ((t.Nodes.length:Int)-(1:Int))),im group]) (kE b1 b ix) _ I PZ (Zb b1 ix b _ _ _ q_r) ⟨(M I),(M I),(M I),(M I),d⟩ (fun _=>I))))))))) I fun i=>?_;refine(show RG _ _ _ _ [_,_,_,_,_,_,_,_] ((18,tT [H ac r.1,bd r.2.1])::_)from ?_);refine aX I<|cY I I<|cY I I<|aV bD cQ I fun b3=>bL bD aj I<|aK 8 I<|bj I<|aT<|aX I<|gW I<|bY h I (fun h=>?_) (fun h=>?_)
 ·exact aY<|Q (bU bD BN cQ I)<|aX I<|ta<|bL bD aj I<|be I<|af<|cn 6 I<|ae<|ae<|ae<|ae<|ae<|ae<|ae<|so h▸c0 (ts:=[H ac tk,bd r.2.1]) (rvs:=[.cell 6 62,.tmp 7]) I I ⟨di bD I I I,bE I,d⟩ i I I
 ·exact gC<|aY<|cC bD I<|ta<|bL bD aj I<|dJ<|cn 6 I<|ae<|ae<|ae<|ae<|ae<|ae<|ae<|so h▸c0 (ts:=[H ac r.1,bd 0]) (rvs:=[.cell 6 62,.tmp 7]) I I ⟨di bD I I I,bE I,d⟩ i I I

def NX(b1:Nat)(ix:OI) b t group{R}(h:iO b t group=some R):ea aZ 104 [tV (an b1 0),H bI t,im group] (kE b1 b ix) (fun _:OI=>tT [H ac R.1,bd R.2.1]) (fun j=>kE b1 R.2.2 j):=by
 refine ea.of Tryz.func104 I I I fun w0 S0=>?_;refine(show CG _ _ _ [bx (rH bA (z11 ix b)) 137 b1 b,K bg 48 (ix.h 0).1 (ix.h 0).2 b.sources,K aP 3 (ix.h 1).1 (ix.h 1).2 b.out.Tables,K aw 71 (ix.h 2).1 (ix.h 2).2 b.out.Joins,K aP 3 (ix.h 3).1 (ix.h 3).2 b.out.Keys,K aN 73 (ix.h 4).1 (ix.h 4).2 b.out.Aggs,K ac 62 (ix.h 5).1 (ix.h 5).2 b.out.Items] _ from ?_);refine aY<|cK I<|aV bD cQ I fun b2=>bG<|bO<|aH I<|cC jY I<|aX I<|cq h fun r q_r h=>jl (EffOK.fr7 (EffOK.fr7 (EffOK.fr7 (EffOK.fr7 (EffOK.fr7 (EffOK.fr7 (EffOK.fr7 (d7 (xs:=[.tmp 14,.tmp 15,.tmp 16]) (ts:=[tV (an b1 0),H bI t,im group]) (kE b1 b ix) _ I Ua (NW b1 ix b _ _ q_r) ⟨(M I),(M I),(M I),d⟩ (fun _=>I))))))))) I fun i=>?_;refine(show RG _ _ _ _ [_,_,_,_,_,_,_,_] ((17,tT [H ac r.1,bd r.2.1])::_)from ?_);refine aX I<|cY I I<|cY I I<|aV bD cQ I fun b3=>bL bD aj I<|aK 8 I<|bj I<|aT<|aX I<|gW I<|bY h I (fun h=>?_) (fun h=>?_)
 ·exact aY<|cC bD I<|aX I<|ta<|bL bD aj I<|be I<|af<|cn 6 I<|ae<|ae<|ae<|ae<|ae<|ae<|ae<|so h▸c0 (ts:=[H ac r.1,bd r.2.1]) (rvs:=[.cell 6 62,.tmp 7]) I I ⟨di bD I I I,bE I,d⟩ i I I
 ·refine gC<|aD<|cq h fun r1 q_r1 h=>?_
  refine eI (ts:=[_,_,_,_,_,_,_,_,_,_,_]) mixed I I
   ⟨f8 I I,
   ⟨ga 24 0 I I (bl (M I)),
   ⟨ga 25 1 I I (lv 0 wz I I I),
   ⟨ga 26 2 I I (bB (r:=rH bA [(1,J (i.h 0).1 (i.h 0).2 r.2.2.sources.length),(2,J (i.h 1).1 (i.h 1).2 r.2.2.out.Tables.length),(3,J (i.h 2).1 (i.h 2).2 r.2.2.out.Joins.length),(8,J (i.h 3).1 (i.h 3).2 r.2.2.out.Keys.length),(9,J (i.h 4).1 (i.h 4).2 r.2.2.out.Aggs.length),(10,J (i.h 5).1 (i.h 5).2 r.2.2.out.Items.length)]) (x:=r.2.2) qa I I (nD mH) (.head _) (M I)),
   ⟨f8 I I,
   ⟨ga 28 4 I I (bl (M I)),
   ⟨ga 29 5 I I (lv 2 eW I I I),
   ⟨ga 30 6 I I (lv 2 pu I I I),
   ⟨ga 31 7 I I (cP fL I (.head _) (.tail _ (.tail _ (.head _))) (M I)),
   ⟨fg 27 3 32 8 I I I (bn RK (Kd _ _ q_r1) ⟨(M I),(kB (M I)),d⟩),
   ⟨ga 33 9 I I (AW I),
   d⟩⟩⟩⟩⟩⟩⟩⟩⟩⟩⟩ ?_
  refine av ?_;refine ig (h2:=fun kinds=>gy r kinds=some R) (Of:=fun kinds=>[bx ac 62 b2 tk,bx (rH bA [(1,J (i.h 0).1 (i.h 0).2 r.2.2.sources.length),(2,J (i.h 1).1 (i.h 1).2 r.2.2.out.Tables.length),(3,J (i.h 2).1 (i.h 2).2 r.2.2.out.Joins.length),(8,J (i.h 3).1 (i.h 3).2 r.2.2.out.Keys.length),(9,J (i.h 4).1 (i.h 4).2 r.2.2.out.Aggs.length),(10,J (i.h 5).1 (i.h 5).2 r.2.2.out.Items.length)]) 137 b1 r.2.2,K bg 48 (i.h 0).1 (i.h 0).2 r.2.2.sources,K aP 3 (i.h 1).1 (i.h 1).2 r.2.2.out.Tables,K aw 71 (i.h 2).1 (i.h 2).2 r.2.2.out.Joins,K aP 3 (i.h 3).1 (i.h 3).2 r.2.2.out.Keys,K aN 73 (i.h 4).1 (i.h 4).2 r.2.2.out.Aggs,K ac 62 (i.h 5).1 (i.h 5).2 r.2.2.out.Items]) (Gf:=fun kinds=>[(6,tV (an b2 0)),(8,bt ac r.1),(10,pE kinds)]) (fun kinds h=>?_) (fun ax=>?_)
  ·skip
   refine aT<|cC bD I<|aX I<|eo h Qc (FO _ _) (dd I) fun r2 h=>aX I<|cY I I<|cY I I<|gE I<|bj I<|aH I<|gW I<|aX I<|ap I (da I)<|ap I (tN I)<|eV I<|bO ?_;refine mA h I (fun h=>?_) (fun h=>?_)
   ·exact aY<|Q (bU bD BN cQ I)<|bL bD aj I<|dJ<|af<|cn 6 I<|ae<|ae<|ae<|ae<|ae<|ae<|ae<|so h▸c0 (ts:=[H ac tk,bd 226]) (rvs:=[.cell 6 62,.tmp 7]) I I ⟨di bD I I I,bE I,d⟩ i I I
   ·exact gC<|aY<|cC bD I<|bL bD aj I<|dJ<|cn 6 I<|ae<|ae<|ae<|ae<|ae<|ae<|ae<|so h▸c0 (ts:=[H ac r.1,bd 0]) (rvs:=[.cell 6 62,.tmp 7]) I I ⟨di bD I I I,bE I,d⟩ i I I
  ·skip
   refine aH I<|bY h I (fun h=>?_) (fun h=>?_)
   ·refine cq h fun r3 q_r3 h=>?_
    refine eI (ts:=[_,_,_,_,_,_,_,_,_,_]) mixed I I
     ⟨f8 I I,
     ⟨ga 35 0 I I (bl (M I)),
     ⟨ga 36 1 I I (lv 0 wz I I I),
     ⟨ga 37 2 I I (bB (r:=rH bA [(1,J (i.h 0).1 (i.h 0).2 r.2.2.sources.length),(2,J (i.h 1).1 (i.h 1).2 r.2.2.out.Tables.length),(3,J (i.h 2).1 (i.h 2).2 r.2.2.out.Joins.length),(8,J (i.h 3).1 (i.h 3).2 r.2.2.out.Keys.length),(9,J (i.h 4).1 (i.h 4).2 r.2.2.out.Aggs.length),(10,J (i.h 5).1 (i.h 5).2 r.2.2.out.Items.length)]) (x:=r.2.2) qa I I (nD mH) (.head _) (M I)),
     ⟨f8 I I,
     ⟨ga 39 4 I I (bl (M I)),
     ⟨ga 40 5 I I (lv 2 eW I I I),
     ⟨ga 41 6 I I (bB (r:=rH bA [(1,J (i.h 0).1 (i.h 0).2 r.2.2.sources.length),(2,J (i.h 1).1 (i.h 1).2 r.2.2.out.Tables.length),(3,J (i.h 2).1 (i.h 2).2 r.2.2.out.Joins.length),(8,J (i.h 3).1 (i.h 3).2 r.2.2.out.Keys.length),(9,J (i.h 4).1 (i.h 4).2 r.2.2.out.Aggs.length),(10,J (i.h 5).1 (i.h 5).2 r.2.2.out.Items.length)]) (x:=r.2.2) vn I I (nD fO) (.head _) (M I)),
     ⟨fg 38 3 42 7 I I I (bn T9 (PR _ _ q_r3) ⟨(M I),(M I),d⟩),
     ⟨ga 43 8 I I (AW I),
     d⟩⟩⟩⟩⟩⟩⟩⟩⟩⟩ ?_
    refine ae<|ae<|ae<|ae<|ae<|ae<|ae<|dp ?_;exact cm (ax r3 h) (bb I)
   ·refine bk<|ae<|ae<|ae<|ae<|ae<|ae<|ae<|dp ?_;exact cm (ax r1 h) (bb I)

def aat(b1:Nat)(ix:OI) b s{R}(h:oO b s=some R):ea aZ 46 [tV (an b1 0),H bh s] (kE b1 b ix) (fun _:OI=>tT [bd R.1,bd R.2.1]) (fun j=>kE b1 R.2.2 j):=by
 refine ea.of Tryz.func46 I I I fun w0 S0=>?_;refine(show CG _ _ _ [bx (rH bA (z11 ix b)) 137 b1 b,K bg 48 (ix.h 0).1 (ix.h 0).2 b.sources,K aP 3 (ix.h 1).1 (ix.h 1).2 b.out.Tables,K aw 71 (ix.h 2).1 (ix.h 2).2 b.out.Joins,K aP 3 (ix.h 3).1 (ix.h 3).2 b.out.Keys,K aN 73 (ix.h 4).1 (ix.h 4).2 b.out.Aggs,K ac 62 (ix.h 5).1 (ix.h 5).2 b.out.Items] _ from ?_);refine aY<|cK I<|bG<|bG<|bO<|aT<|aX I<|ba J5 ww vU I<|cq h fun r q_r h=>jl (EffOK.fr6 (EffOK.fr6 (EffOK.fr6 (EffOK.fr6 (EffOK.fr6 (EffOK.fr6 (EffOK.fr6 (d7 (xs:=[.tmp 18,.tmp 20]) (ts:=[tV (an b1 0),H bg s.From]) (kE b1 b ix) _ I XA (TF b1 ix b _ q_r) ⟨(M I),(M I),d⟩ (fun _=>I))))))))) I fun i=>?_;refine(show RG _ _ _ _ [_,_,_,_,_,_,_] ((21,bd r.1)::_)from ?_);refine bj I<|aH I<|gW I<|bY h I (fun h=>?_) (fun h=>?_)
 ·exact aH I<|bG<|be I<|af<|ae<|ae<|ae<|ae<|ae<|ae<|ae<|so h▸c0 (ts:=[bd 0,bd r.1]) (rvs:=[.tmp 4,.tmp 5]) I I ⟨bE I,bE I,d⟩ i I I
 ·refine gC<|aT<|ba wU nH Gd I<|bW yV I<|Q (bC hI)<|bO<|ai<|aO (k:=26) I fun hN=>bp ?_;refine ay (xC (h2:=fun ls i1 ob l c l1 c1 l2 c2 l3 c3 l4 c4 l5 c5=>(s.Joins.drop i1=ls)/\dy s ls ob=some R) (Of:=fun _ i1 ob l c l1 c1 l2 c2 l3 c3 l4 c4 l5 c5=>[bx (rH bA [(1,J l c ob.sources.length),(2,J l1 c1 ob.out.Tables.length),(3,J l2 c2 ob.out.Joins.length),(8,J l3 c3 ob.out.Keys.length),(9,J l4 c4 ob.out.Aggs.length),(10,J l5 c5 ob.out.Items.length)]) 137 b1 ob,K bg 48 l c ob.sources,K aP 3 l1 c1 ob.out.Tables,K aw 71 l2 c2 ob.out.Joins,K aP 3 l3 c3 ob.out.Keys,K aN 73 l4 c4 ob.out.Aggs,K ac 62 l5 c5 ob.out.Items]) (Gf:=fun _ i1 ob l c l1 c1 l2 c2 l3 c3 l4 c4 l5 c5=>[(0,tV (an b1 0)),(3,bt bh s),(26,fm (fU) s.Joins),(27,iK s.Joins),(28,bd (i1:Int))]) (fun i1 ob l c l1 c1 l2 c2 l3 c3 l4 c4 l5 c5 h=>?_) (fun e tl ih i1 ob l c l1 c1 l2 c2 l3 c3 l4 c4 l5 c5 h=>?_) s.Joins 0 r.2 (i.h 0).1 (i.h 0).2 (i.h 1).1 (i.h 1).2 (i.h 2).1 (i.h 2).2 (i.h 3).1 (i.h 3).2 (i.h 4).1 (i.h 4).2 (i.h 5).1 (i.h 5).2 ⟨I,h⟩) (bb I)
  ·obtain⟨A,h⟩:=h
   refine dh A I<|av ?_;refine yB (h2:=fun ob1 l6 c6 l7 c7 l8 c8 l9 c9 l10 c10 l11 c11=>o6 s ob1=some R) (Of:=fun ob1 l6 c6 l7 c7 l8 c8 l9 c9 l10 c10 l11 c11=>[bx (rH bA [(1,J l6 c6 ob1.sources.length),(2,J l7 c7 ob1.out.Tables.length),(3,J l8 c8 ob1.out.Joins.length),(8,J l9 c9 ob1.out.Keys.length),(9,J l10 c10 ob1.out.Aggs.length),(10,J l11 c11 ob1.out.Items.length)]) 137 b1 ob1,K bg 48 l6 c6 ob1.sources,K aP 3 l7 c7 ob1.out.Tables,K aw 71 l8 c8 ob1.out.Joins,K aP 3 l9 c9 ob1.out.Keys,K aN 73 l10 c10 ob1.out.Aggs,K ac 62 l11 c11 ob1.out.Items]) (Gf:=fun ob1 l6 c6 l7 c7 l8 c8 l9 c9 l10 c10 l11 c11=>[(0,tV (an b1 0)),(3,bt bh s)]) (fun ob1 l6 c6 l7 c7 l8 c8 l9 c9 l10 c10 l11 c11 h=>?_) (fun ax=>?_)
   ·skip
    refine aT<|ba wS kH E6 I<|bW y8 I<|Q (bC hI)<|bO<|ai<|aO (k:=86) I fun hN1=>bp ?_;refine ay (xC (h2:=fun ls1 i2 ob2 l12 c12 l13 c13 l14 c14 l15 c15 l16 c16 l17 c17=>(s.Group.drop i2=ls1)/\iZ ls1 ob2=some R) (Of:=fun _ i2 ob2 l12 c12 l13 c13 l14 c14 l15 c15 l16 c16 l17 c17=>[bx (rH bA [(1,J l12 c12 ob2.sources.length),(2,J l13 c13 ob2.out.Tables.length),(3,J l14 c14 ob2.out.Joins.length),(8,J l15 c15 ob2.out.Keys.length),(9,J l16 c16 ob2.out.Aggs.length),(10,J l17 c17 ob2.out.Items.length)]) 137 b1 ob2,K bg 48 l12 c12 ob2.sources,K aP 3 l13 c13 ob2.out.Tables,K aw 71 l14 c14 ob2.out.Joins,K aP 3 l15 c15 ob2.out.Keys,K aN 73 l16 c16 ob2.out.Aggs,K ac 62 l17 c17 ob2.out.Items]) (Gf:=fun _ i2 ob2 l12 c12 l13 c13 l14 c14 l15 c15 l16 c16 l17 c17=>[(0,tV (an b1 0)),(86,fm (fI) s.Group),(87,iK s.Group),(88,bd (i2:Int))]) (fun i2 ob2 l12 c12 l13 c13 l14 c14 l15 c15 l16 c16 l17 c17 h=>?_) (fun e1 tl1 ih1 i2 ob2 l12 c12 l13 c13 l14 c14 l15 c15 l16 c16 l17 c17 h=>?_) s.Group 0 ob1 l6 c6 l7 c7 l8 c8 l9 c9 l10 c10 l11 c11 ⟨I,h⟩) (bb I)
    ·obtain⟨hx1,h⟩:=h
     refine dh hx1 I<|av<|aY<|bG<|dJ<|ae<|ae<|ae<|ae ?_;exact ae<|ae<|ae<|so h▸c0 (ts:=[bd 0,bd 0]) (rvs:=[.tmp 4,.tmp 5]) I I ⟨bE I,bE I,d⟩ (FE [(l12,c12),(l13,c13),(l14,c14),(l15,c15),(l16,c16),(l17,c17)]) I I
    ·obtain⟨hx1,h⟩:=h
     refine dg hx1 I<|aD<|ai<|aY<|dE y8 xM I (df hx1)<|aV xM z6 I fun b2=>bL xM aj I<|aK 15 I<|bO<|aH I ?_;refine ba J0 xu jG I<|ba JZ xr jG I<|cq h fun r1 q_r1 h=>jl (EffOK.fr6 (EffOK.fr6 (EffOK.fr6 (EffOK.fr6 (EffOK.fr6 (EffOK.fr6 (EffOK.fr6 (d7 (xs:=[.tmp 93,.tmp 95,.tmp 97]) (ts:=[tV (an b1 0),H rS e1.Table,H rS e1.Name]) (kE b1 ob2 (FE [(l12,c12),(l13,c13),(l14,c14),(l15,c15),(l16,c16),(l17,c17)])) _ I Xz (TE b1 (FE [(l12,c12),(l13,c13),(l14,c14),(l15,c15),(l16,c16),(l17,c17)]) ob2 _ _ q_r1) ⟨(M I),(M I),(M I),d⟩ (fun _=>I))))))))) I fun i3=>?_;refine(show RG _ _ _ _ [_,_,_,_,_,_,_] ((98,tT [bd r1.1,bd r1.2])::_)from ?_);refine aX I<|cY I I<|cY I I<|gE I<|bj I<|aT<|aX I<|gW I<|bY h I (fun h=>?_) (fun h=>?_)
     ·exact aH I<|bG<|be I<|af<|bZ<|af<|bZ<|ae<|ae<|ae<|ae<|ae<|ae<|ae<|so h▸c0 (ts:=[bd 3,bd r1.2]) (rvs:=[.tmp 4,.tmp 5]) I I ⟨bE I,bE I,d⟩ (FE [(l12,c12),(l13,c13),(l14,c14),(l15,c15),(l16,c16),(l17,c17)]) I I
     ·refine gC<|aJ<|aX I<|aX I<|Q (bl (M I))<|bv 2 eW I<|bv 8 rW I<|Q (cP fL I (.head _) (.tail _ (.tail _ (.tail _ (.tail _ (.head _))))) (M I))<|aX I<|Q (a8 (r:=aP) (ys:=[r1.1]) (xs:=[.tmp 110]) fH cF I I I I I ⟨(M I),d⟩)<|p5<|cq h fun l18 q_l18 h=>me cF I I I I fH I I (M I) (M I) q_l18 fun l19 c18=>Q (bl (M I))<|bv 2 eW I<|bv 8 rW I<|fA (EffOK.fr1 (ip (hs' :=[(1,J l12 c12 ob2.sources.length),(2,J l13 c13 ob2.out.Tables.length),(3,J l14 c14 ob2.out.Joins.length),(8,J l19 c18 l18.length),(9,J l16 c16 ob2.out.Aggs.length),(10,J l17 c17 ob2.out.Items.length)]) (u:=J l19 c18 l18.length) fL I I (gm fO lC CA) I ⟨.inr ⟨I,I⟩,.inr ⟨I,I⟩,.inr ⟨I,I⟩,.inl ⟨I,I,I⟩,.inr ⟨I,I⟩,.inr ⟨I,I⟩,d⟩ (M I) (kB (M I)) (tQ (M I)))) fun i4=>?_;refine(show RG _ _ _ _ [_,_,_,_,_,_,_] _ from ?_);refine bz<|cR hx1 hN1 I<|ae<|ae<|kj<|ae<|ae<|ae<|ae ?_;exact aS (ay (ih1 (i2+1) ({ob2 with out:=({ob2.out with Keys:=l18}:aL)}:aA) l12 c12 l13 c13 l14 c14 l19 c18 l16 c16 l17 c17 ⟨cM hx1,h⟩) (bb I))
   ·skip
    refine aY<|oK zE rh I<|ba j5 eN sw I<|bW oZ I<|Q (fa (M I) hI)<|bY h I (fun h=>?_) (fun h=>?_)
    ·refine aH I<|ba zE rh jY I<|cq h fun r2 q_r2 h=>jl (EffOK.fr6 (EffOK.fr6 (EffOK.fr6 (EffOK.fr6 (EffOK.fr6 (EffOK.fr6 (EffOK.fr6 (d7 (xs:=[.tmp 71,.tmp 73,.const (.bool false)]) (ts:=[tV (an b1 0),H bI s.Where,im false]) (kE b1 ob (FE [(l,c),(l1,c1),(l2,c2),(l3,c3),(l4,c4),(l5,c5)])) _ I Ub (NX b1 (FE [(l,c),(l1,c1),(l2,c2),(l3,c3),(l4,c4),(l5,c5)]) ob _ _ q_r2) ⟨(M I),(M I),hB,d⟩ (fun _=>I))))))))) I fun i5=>?_;refine(show RG _ _ _ _ [_,_,_,_,_,_,_] ((74,tT [H ac r2.1,bd r2.2.1])::_)from ?_);refine aX I<|cY I I<|cY I I<|aV bD cQ I fun b3=>bL bD aj I<|aK 12 I<|bj I<|aT<|aX I<|gW I<|bY h I (fun h=>?_) (fun h=>?_)
     ·exact aH I<|bG<|be I<|af<|af<|ae<|ae<|ae<|ae<|ae<|ae<|ae<|so h▸c0 (ts:=[bd 2,bd r2.2.1]) (rvs:=[.tmp 4,.tmp 5]) I I ⟨bE I,bE I,d⟩ i5 I I
     ·refine gC<|aJ<|aX I<|cC bD I<|Q (bl (M I))<|bv 2 eW I<|bv 4 Ee I<|fA (dq bD I (wa (hs' :=[(1,J (i5.h 0).1 (i5.h 0).2 r2.2.2.sources.length),(2,J (i5.h 1).1 (i5.h 1).2 r2.2.2.out.Tables.length),(3,J (i5.h 2).1 (i5.h 2).2 r2.2.2.out.Joins.length),(8,J (i5.h 3).1 (i5.h 3).2 r2.2.2.out.Keys.length),(9,J (i5.h 4).1 (i5.h 4).2 r2.2.2.out.Aggs.length),(10,J (i5.h 5).1 (i5.h 5).2 r2.2.2.out.Items.length)]) (gm fO lC CE) ⟨.inr ⟨I,I⟩,.inr ⟨I,I⟩,.inr ⟨I,I⟩,.inr ⟨I,I⟩,.inr ⟨I,I⟩,.inr ⟨I,I⟩,d⟩ I) I (M I) (M I)) fun i6=>?_;refine(show RG _ _ _ _ [_,_,_,_,_,_,_] _ from ?_);refine bz ?_;exact cm (ax ({r2.2.2 with out:=({r2.2.2.out with Where:=r2.1}:aL)}:aA) (i5.h 0).1 (i5.h 0).2 (i5.h 1).1 (i5.h 1).2 (i5.h 2).1 (i5.h 2).2 (i5.h 3).1 (i5.h 3).2 (i5.h 4).1 (i5.h 4).2 (i5.h 5).1 (i5.h 5).2 h) (bb I)
    ·refine bk ?_;exact cm (ax ob l c l1 c1 l2 c2 l3 c3 l4 c4 l5 c5 h) (bb I)
  ·obtain⟨A,h⟩:=h
   refine dg A I<|aD<|ai<|aY<|dE yV xc I (df A)<|aV xc Cq I fun b4=>bL xc aj I<|aK 8 I<|bO<|aT ?_;refine aX I<|ba J2 An vU I<|cq h fun r3 q_r3 h=>jl (EffOK.fr6 (EffOK.fr6 (EffOK.fr6 (EffOK.fr6 (EffOK.fr6 (EffOK.fr6 (EffOK.fr6 (d7 (xs:=[.tmp 32,.tmp 34]) (ts:=[tV (an b1 0),H bg e.Source]) (kE b1 ob (FE [(l,c),(l1,c1),(l2,c2),(l3,c3),(l4,c4),(l5,c5)])) _ I XA (TF b1 (FE [(l,c),(l1,c1),(l2,c2),(l3,c3),(l4,c4),(l5,c5)]) ob _ q_r3) ⟨(M I),(M I),d⟩ (fun _=>I))))))))) I fun i7=>?_;refine(show RG _ _ _ _ [_,_,_,_,_,_,_] ((35,bd r3.1)::_)from ?_);refine bj I<|aH I<|gW I<|bY h I (fun h=>?_) (fun h=>?_)
   ·exact aH I<|bG<|be I<|af<|bZ<|af<|bZ<|ae<|ae<|ae<|ae<|ae<|ae<|ae<|so h▸c0 (ts:=[bd 1,bd r3.1]) (rvs:=[.tmp 4,.tmp 5]) I I ⟨bE I,bE I,d⟩ i7 I I
   ·refine gC<|aH I<|ba Eb xv jY I<|cq h fun r4 q_r4 h=>jl (EffOK.fr6 (EffOK.fr6 (EffOK.fr6 (EffOK.fr6 (EffOK.fr6 (EffOK.fr6 (EffOK.fr6 (d7 (xs:=[.tmp 40,.tmp 42,.const (.bool false)]) (ts:=[tV (an b1 0),H bI e.On,im false]) (kE b1 r3.2 i7) _ I Ub (NX b1 i7 r3.2 _ _ q_r4) ⟨(M I),(M I),hB,d⟩ (fun _=>I))))))))) I fun i8=>?_;refine(show RG _ _ _ _ [_,_,_,_,_,_,_] ((43,tT [H ac r4.1,bd r4.2.1])::_)from ?_);refine aX I<|cY I I<|cY I I<|aV bD cQ I fun b5=>bL bD aj I<|aK 10 I<|bj I<|aT<|aX I<|gW I<|bY h I (fun h=>?_) (fun h=>?_)
    ·exact aH I<|bG<|be I<|af<|bZ<|af<|bZ<|ae<|ae<|ae<|ae<|ae<|ae<|ae<|so h▸c0 (ts:=[bd 1,bd r4.2.1]) (rvs:=[.tmp 4,.tmp 5]) I I ⟨bE I,bE I,d⟩ i8 I I
    ·refine gC<|cq h fun l20 q_l20 h=>?_
     refine ek 12 [tc (tV (an b1 0)),tc (tV (an b1 0)),tc (tV (an b1 0)),tc (tV (an b1 2)),tc (tV (an b1 3)),tc (tO aw (i8.h 2).1 (i8.h 2).2 r4.2.2.out.Joins),tc (bt rB e.Left),tc (im e.Left),tc (H ac r4.1),tc (H aw (⟨e.Left,r4.1⟩:ew)),tc (fm (aw) ([(⟨e.Left,r4.1⟩:ew)])),([11],fun s=>tO aw ((s.getD 0 oF).h 0).1 ((s.getD 0 oF).h 0).2 l20)] [false,false,false,false,false,false,false,false,false,false,false,true] [fun _=>[bx (rH bA [(1,J (i8.h 0).1 (i8.h 0).2 r4.2.2.sources.length),(2,J (i8.h 1).1 (i8.h 1).2 r4.2.2.out.Tables.length),(3,J (i8.h 2).1 (i8.h 2).2 r4.2.2.out.Joins.length),(8,J (i8.h 3).1 (i8.h 3).2 r4.2.2.out.Keys.length),(9,J (i8.h 4).1 (i8.h 4).2 r4.2.2.out.Aggs.length),(10,J (i8.h 5).1 (i8.h 5).2 r4.2.2.out.Items.length)]) 137 b1 r4.2.2,K bg 48 (i8.h 0).1 (i8.h 0).2 r4.2.2.sources,K aP 3 (i8.h 1).1 (i8.h 1).2 r4.2.2.out.Tables,K aw 71 (i8.h 2).1 (i8.h 2).2 r4.2.2.out.Joins,K aP 3 (i8.h 3).1 (i8.h 3).2 r4.2.2.out.Keys,K aN 73 (i8.h 4).1 (i8.h 4).2 r4.2.2.out.Aggs,K ac 62 (i8.h 5).1 (i8.h 5).2 r4.2.2.out.Items],fun sg=>[K aw 71 ((sg 11).h 0).1 ((sg 11).h 0).2 l20,bx (rH bA [(1,J (i8.h 0).1 (i8.h 0).2 r4.2.2.sources.length),(2,J (i8.h 1).1 (i8.h 1).2 r4.2.2.out.Tables.length),(3,J (i8.h 2).1 (i8.h 2).2 r4.2.2.out.Joins.length),(8,J (i8.h 3).1 (i8.h 3).2 r4.2.2.out.Keys.length),(9,J (i8.h 4).1 (i8.h 4).2 r4.2.2.out.Aggs.length),(10,J (i8.h 5).1 (i8.h 5).2 r4.2.2.out.Items.length)]) 137 b1 r4.2.2,K bg 48 (i8.h 0).1 (i8.h 0).2 r4.2.2.sources,K aP 3 (i8.h 1).1 (i8.h 1).2 r4.2.2.out.Tables,K aP 3 (i8.h 3).1 (i8.h 3).2 r4.2.2.out.Keys,K aN 73 (i8.h 4).1 (i8.h 4).2 r4.2.2.out.Aggs,K ac 62 (i8.h 5).1 (i8.h 5).2 r4.2.2.out.Items]] I mixed I I I I I
      ⟨⟨[⟨0,fun _=>tV (an b1 0),none⟩],_,0,1,I,⟨(fun _=>I),d⟩,I,I,I,I,I,fun _ sg _ _=>aa I (gH I)⟩,
      ⟨⟨[⟨0,fun _=>tV (an b1 0),none⟩],_,0,0,I,⟨(fun _=>I),d⟩,I,I,I,I,I,fun _ sg _ _=>aa I (gH I)⟩,
      ⟨⟨[⟨50,fun _=>tV (an b1 0),some 1⟩],_,0,0,I,⟨(fun _=>I),d⟩,I,I,I,I,I,fun _ sg _ _=>aa I (bl (M I))⟩,
      ⟨⟨[⟨51,fun _=>tV (an b1 0),some 2⟩],_,0,0,I,⟨(fun _=>I),d⟩,I,I,I,I,I,fun _ sg _ _=>aa I (lv 2 eW I I I)⟩,
      ⟨⟨[⟨52,fun _=>tV (an b1 2),some 3⟩],_,0,0,I,⟨(fun _=>I),d⟩,I,I,I,I,I,fun _ sg _ _=>aa I (lv 3 sW I I I)⟩,
      ⟨⟨[⟨53,fun _=>tV (an b1 3),some 4⟩],_,0,0,I,⟨(fun _=>I),d⟩,I,I,I,I,I,fK (fun sg=>aa I (cP DA I (.head _) (.tail _ (.tail _ (.tail _ (.head _)))) (M I)))⟩,
      ⟨⟨[⟨8,fun _=>bt fU e,none⟩],_,0,0,I,⟨(fun _=>I),d⟩,I,I,I,I,I,fun _ sg _ _=>aa I (oJ Th I7 I I)⟩,
      ⟨⟨[⟨55,fun _=>bt rB e.Left,some 6⟩],_,0,0,I,⟨(fun _=>I),d⟩,I,I,I,I,I,fun _ sg _ _=>aa I (qN yG I I)⟩,
      ⟨⟨[⟨10,fun _=>bt ac r4.1,none⟩],_,0,0,I,⟨(fun _=>I),d⟩,I,I,I,I,I,fun _ sg _ _=>aa I (qN bD I I)⟩,
      ⟨⟨[⟨56,fun _=>H rB e.Left,some 7⟩,⟨57,fun _=>H ac r4.1,some 8⟩],_,0,0,I,⟨(fun _=>I),(fun _=>I),d⟩,I,I,I,I,I,fun _ sg _ _=>aa I (bU (y:=(⟨e.Left,r4.1⟩:ew)) yY Z9 Cr (⟨_,_,_,_,_,I,Gv,I,(M I),⟨_,_,_,_,_,I,Gu,I,(M I),I⟩⟩))⟩,
      ⟨⟨[⟨58,fun _=>H aw (⟨e.Left,r4.1⟩:ew),some 9⟩],_,0,0,I,⟨(fun _=>I),d⟩,I,I,I,I,I,fun _ sg _ _=>aa I (a8 (r:=aw) (ys:=[(⟨e.Left,r4.1⟩:ew)]) (xs:=[.tmp 58]) AJ yY I I I I I ⟨(M I),d⟩)⟩,
      ⟨⟨[⟨54,fun _=>tO aw (i8.h 2).1 (i8.h 2).2 r4.2.2.out.Joins,some 5⟩,⟨59,fun _=>H (eO aw) ([(⟨e.Left,r4.1⟩:ew)]),some 10⟩],_,I,⟨(fun _=>I),(fun _=>I),d⟩,I,I,I,fun sg=>bS I (EffOK.fr3 (iw yY I I I I AJ I (M I) (M I) q_l20))⟩,
      d⟩⟩⟩⟩⟩⟩⟩⟩⟩⟩⟩⟩ (fun sg=>?_)
     refine(show RG _ _ _ _ [_,_,_,_,_,_,_] _ from ?_);refine Q (bl (M I))<|bv 2 eW I<|bv 3 sW I<|fA (EffOK.fr1 (ip (hs' :=[(1,J (i8.h 0).1 (i8.h 0).2 r4.2.2.sources.length),(2,J (i8.h 1).1 (i8.h 1).2 r4.2.2.out.Tables.length),(3,J ((sg 11).h 0).1 ((sg 11).h 0).2 l20.length),(8,J (i8.h 3).1 (i8.h 3).2 r4.2.2.out.Keys.length),(9,J (i8.h 4).1 (i8.h 4).2 r4.2.2.out.Aggs.length),(10,J (i8.h 5).1 (i8.h 5).2 r4.2.2.out.Items.length)]) (u:=J ((sg 11).h 0).1 ((sg 11).h 0).2 l20.length) DA I I (gm fO lC CF) I ⟨.inr ⟨I,I⟩,.inr ⟨I,I⟩,.inl ⟨I,I,I⟩,.inr ⟨I,I⟩,.inr ⟨I,I⟩,.inr ⟨I,I⟩,d⟩ (M I) (kB (M I)) (tQ (M I)))) fun i9=>?_;refine(show RG _ _ _ _ [_,_,_,_,_,_,_] _ from ?_);refine bz<|cR A hN I<|ae<|ae<|ae<|eb<|ae<|ae<|ae ?_;exact aS (ay (ih (i1+1) ({r4.2.2 with out:=({r4.2.2.out with Joins:=l20}:aL)}:aA) (i8.h 0).1 (i8.h 0).2 (i8.h 1).1 (i8.h 1).2 ((sg 11).h 0).1 ((sg 11).h 0).2 (i8.h 3).1 (i8.h 3).2 (i8.h 4).1 (i8.h 4).2 (i8.h 5).1 (i8.h 5).2 ⟨cM A,h⟩) (bb I))

def Yx t{R}(h:DP t=some R):cI aZ 81 [H bI t] (im R):=by
 refine dm Tryz.func81 I<|aY<|cK I<|bw<|bO<|aT<|ba j5 eN sw I<|bW oZ I<|Q (bC hI)<|bO<|ai<|aO (k:=6) I fun hN=>bp ?_;refine ay (dz (h2:=fun ls i=>(t.Nodes.drop i=ls)/\rD ls=some R) (Of:=fun _ i=>[]) (Gf:=fun _ i=>[(6,fm (dk) t.Nodes),(7,iK t.Nodes),(8,bd (i:Int))]) (fun i h=>?_) (fun e tl ih i h=>?_) t.Nodes 0 ⟨I,h⟩) (bb I)
 ·obtain⟨A,h⟩:=h
  exact dh A I<|av<|aY<|bw<|cw<|so h▸aq I I
 ·obtain⟨A,h⟩:=h
  refine dg A I<|aD<|ai<|aY<|dE oZ lS I (df A)<|aV lS vY I fun b=>bL lS aj I<|aK 4 I<|bO<|aY<|oK mh iA I ?_;refine cC cF I<|eo h Xw (PO _) (dd I) fun r h=>bY h I (fun h=>?_) (fun h=>?_)
  ·exact aY<|bw<|cw<|bZ<|af<|bZ<|so h▸aq I I
  ·refine bk<|cR A hN I ?_;exact aS (ay (ih (i+1) ⟨cM A,h⟩) (bb I))

def Y2 s{R}(h:tm s=some R):cI aZ 27 [H bh s] (im R):=by
 refine dm Tryz.func27 I<|aY<|cK I<|bw<|bO<|aY<|ba wS kH E6 I<|bW y8 I<|Q (fa (M I) hI)<|aX I<|au I (bR wT nG I I)<|au I (fun D=>iI j5 I eN I (bF I D))<|au I (bM sw I I)<|au I (kA oZ I)<|au I (fun D=>fa (bF I D) hI)<|eu I<|bj I<|aD ?_;refine aY<|ba qe jb AL I<|bW rs I<|Q (bC hI)<|bO<|ai<|aO (k:=18) I fun hN=>bp ?_;refine ay (j8 (h2:=fun ls i out=>(s.Items.drop i=ls)/\lI ls out=some R) (Of:=fun _ i out=>[]) (Gf:=fun _ i out=>[(3,im out),(18,fm (d9) s.Items),(19,iK s.Items),(20,bd (i:Int))]) (fun i out h=>?_) (fun e tl ih i out h=>?_) s.Items 0 ((decide ((0:Int)<(s.Group.length:Int)))||(decide ((0:Int)<(s.Having.Nodes.length:Int)))) ⟨I,h⟩) (bb I)
 ·obtain⟨A,h⟩:=h
  exact dh A I<|av<|aH I<|be I<|so h▸aq I I
 ·obtain⟨A,h⟩:=h
  refine dg A I<|aD<|ai<|aY<|dE rs o3 I (df A)<|aV o3 th I fun b=>bL o3 aj I<|aK 5 I<|bO<|aJ<|aX I<|aX I ?_;refine cq h fun t q_t h=>au I (bR rU lN I I)<|au I (bM jY I I) ?_
  obtain⟨r,h1t,h0t⟩:=og q_t
  have q_rg:=fun Y=>(h1t Y).1
  refine au I (fun D=>bn acp (Yx _ (q_rg D)) ⟨(bF I D),d⟩)<|Q (cV (M I) (fun Y=>(bF I (nR Y))) (fun Y=>(h1t Y).2) h0t)<|gE I<|bz<|cR A hN I ?_;exact aS (ay (ih (i+1) t ⟨cM A,h⟩) (bb I))

end Go.Proofs.YthbdkceckjihgaaGreatDoor

