/- dm of this claim: P16. -/
import Derived.Test.YthbdkceckjihgaaGreatDoorBcT
import Derived.Test.YthbdkceckjihgaaGreatDoorBcP15
set_option linter.all false
namespace Go.Proofs.YthbdkceckjihgaaGreatDoor
open Go
set_option maxRecDepth 100000

def Oh(b1:Nat)(ix:OI) b t group{R}(h:j5 b t group=some R):ea bd 107 [tV (an b1 0),Z bD t,iD group] (kw b1 b ix) (fun _:OI=>tT [Z ac R.1,bf R.2.1]) (fun j=>kw b1 R.2.2 j):=by
 refine ea.of Tryz.func107 I I I fun w0 S0=>?_;refine(show CG _ _ _ [bx (rH bv (z11 ix b)) 137 b1 b,K be 48 (ix.h 0).1 (ix.h 0).2 b.sources,K aP 3 (ix.h 1).1 (ix.h 1).2 b.out.Tables,K av 71 (ix.h 2).1 (ix.h 2).2 b.out.Joins,K aP 3 (ix.h 3).1 (ix.h 3).2 b.out.Keys,K aT 73 (ix.h 4).1 (ix.h 4).2 b.out.Aggs,K ac 62 (ix.h 5).1 (ix.h 5).2 b.out.Items] _ from ?_);refine aV<|cL I<|aX bJ cZ I fun b2=>bF<|bP<|aI I<|cM iw I<|aU ik dX qi I<|bY nb I<|d (fm (M I) hI)<|aY I<|cu h fun r q_r h=>jf (EffOK.fr7 (EffOK.fr7 (EffOK.fr7 (EffOK.fr7 (EffOK.fr7 (EffOK.fr7 (EffOK.fr7 (dY (xs:=[.tmp 11,.tmp 12,.tmp 16,.tmp 17]) (ts:=[tV (an b1 0),Z bD t,bf (IntKind.i64.wrap ((t.Nodes.length:Int)-(1:Int))),iD group]) (kw b1 b ix) _ I Qu (Zc b1 ix b _ _ _ q_r) ⟨(M I),(M I),(M I),(M I),Q⟩ (fun _=>I))))))))) I fun i=>?_;refine(show RG _ _ _ _ [_,_,_,_,_,_,_,_] ((18,tT [Z ac r.1,bf r.2.1])::_)from ?_);refine aY I<|cU I I<|cU I I<|aX bJ cZ I fun b3=>bM bJ aj I<|aQ 8 I<|bh I<|aR<|aY I<|ib I<|bX h I (fun h=>?_) (fun h=>?_)
 ·exact aV<|d (bS bJ BX cZ I)<|aY I<|ta<|bM bJ aj I<|bj I<|af<|cq 6 I<|ae<|ae<|ae<|ae<|ae<|ae<|ae<|so h▸dc (ts:=[Z ac th,bf r.2.1]) (rvs:=[.cell 6 62,.tmp 7]) I I ⟨di bJ I I I,bH I,Q⟩ i I I
 ·exact gp<|aV<|cM bJ I<|ta<|bM bJ aj I<|dG<|cq 6 I<|ae<|ae<|ae<|ae<|ae<|ae<|ae<|so h▸dc (ts:=[Z ac r.1,bf 0]) (rvs:=[.cell 6 62,.tmp 7]) I I ⟨di bJ I I I,bH I,Q⟩ i I I

def Oi(b1:Nat)(ix:OI) b t group{R}(h:iK b t group=some R):ea bd 104 [tV (an b1 0),Z bD t,iD group] (kw b1 b ix) (fun _:OI=>tT [Z ac R.1,bf R.2.1]) (fun j=>kw b1 R.2.2 j):=by
 refine ea.of Tryz.func104 I I I fun w0 S0=>?_;refine(show CG _ _ _ [bx (rH bv (z11 ix b)) 137 b1 b,K be 48 (ix.h 0).1 (ix.h 0).2 b.sources,K aP 3 (ix.h 1).1 (ix.h 1).2 b.out.Tables,K av 71 (ix.h 2).1 (ix.h 2).2 b.out.Joins,K aP 3 (ix.h 3).1 (ix.h 3).2 b.out.Keys,K aT 73 (ix.h 4).1 (ix.h 4).2 b.out.Aggs,K ac 62 (ix.h 5).1 (ix.h 5).2 b.out.Items] _ from ?_);refine aV<|cL I<|aX bJ cZ I fun b2=>bF<|bP<|aI I<|cM iw I<|aY I<|cu h fun r q_r h=>jf (EffOK.fr7 (EffOK.fr7 (EffOK.fr7 (EffOK.fr7 (EffOK.fr7 (EffOK.fr7 (EffOK.fr7 (dY (xs:=[.tmp 14,.tmp 15,.tmp 16]) (ts:=[tV (an b1 0),Z bD t,iD group]) (kw b1 b ix) _ I Ue (Oh b1 ix b _ _ q_r) ⟨(M I),(M I),(M I),Q⟩ (fun _=>I))))))))) I fun i=>?_;refine(show RG _ _ _ _ [_,_,_,_,_,_,_,_] ((17,tT [Z ac r.1,bf r.2.1])::_)from ?_);refine aY I<|cU I I<|cU I I<|aX bJ cZ I fun b3=>bM bJ aj I<|aQ 8 I<|bh I<|aR<|aY I<|ib I<|bX h I (fun h=>?_) (fun h=>?_)
 ·exact aV<|cM bJ I<|aY I<|ta<|bM bJ aj I<|bj I<|af<|cq 6 I<|ae<|ae<|ae<|ae<|ae<|ae<|ae<|so h▸dc (ts:=[Z ac r.1,bf r.2.1]) (rvs:=[.cell 6 62,.tmp 7]) I I ⟨di bJ I I I,bH I,Q⟩ i I I
 ·refine gp<|aA<|cu h fun r1 q_r1 h=>?_
  refine d8 (ts:=[_,_,_,_,_,_,_,_,_,_,_]) mixed I I
   ⟨fv I I,
   ⟨fL 24 0 I I (bm (M I)),
   ⟨fL 25 1 I I (lu 0 wM I I I),
   ⟨fL 26 2 I I (bA (r:=rH bv [(1,Y (i.h 0).1 (i.h 0).2 r.2.2.sources.length),(2,Y (i.h 1).1 (i.h 1).2 r.2.2.out.Tables.length),(3,Y (i.h 2).1 (i.h 2).2 r.2.2.out.Joins.length),(8,Y (i.h 3).1 (i.h 3).2 r.2.2.out.Keys.length),(9,Y (i.h 4).1 (i.h 4).2 r.2.2.out.Aggs.length),(10,Y (i.h 5).1 (i.h 5).2 r.2.2.out.Items.length)]) (x:=r.2.2) pl I I (nI mG) (.head _) (M I)),
   ⟨fv I I,
   ⟨fL 28 4 I I (bm (M I)),
   ⟨fL 29 5 I I (lu 2 eU I I I),
   ⟨fL 30 6 I I (lu 2 rh I I I),
   ⟨fL 31 7 I I (cR fV I (.head _) (.tail _ (.tail _ (.head _))) (M I)),
   ⟨eh 27 3 32 8 I I I (bq R2 (Ko _ _ q_r1) ⟨(M I),(kp (M I)),Q⟩),
   ⟨fL 33 9 I I (Cm I),
   Q⟩⟩⟩⟩⟩⟩⟩⟩⟩⟩⟩ ?_
  refine aq ?_;refine ia (tD:=fun kinds=>gq r kinds=some R) (Of:=fun kinds=>[bx ac 62 b2 th,bx (rH bv [(1,Y (i.h 0).1 (i.h 0).2 r.2.2.sources.length),(2,Y (i.h 1).1 (i.h 1).2 r.2.2.out.Tables.length),(3,Y (i.h 2).1 (i.h 2).2 r.2.2.out.Joins.length),(8,Y (i.h 3).1 (i.h 3).2 r.2.2.out.Keys.length),(9,Y (i.h 4).1 (i.h 4).2 r.2.2.out.Aggs.length),(10,Y (i.h 5).1 (i.h 5).2 r.2.2.out.Items.length)]) 137 b1 r.2.2,K be 48 (i.h 0).1 (i.h 0).2 r.2.2.sources,K aP 3 (i.h 1).1 (i.h 1).2 r.2.2.out.Tables,K av 71 (i.h 2).1 (i.h 2).2 r.2.2.out.Joins,K aP 3 (i.h 3).1 (i.h 3).2 r.2.2.out.Keys,K aT 73 (i.h 4).1 (i.h 4).2 r.2.2.out.Aggs,K ac 62 (i.h 5).1 (i.h 5).2 r.2.2.out.Items]) (Gf:=fun kinds=>[(6,tV (an b2 0)),(8,bo ac r.1),(10,qn kinds)]) (fun kinds h=>?_) (fun aw=>?_)
  ·skip
   refine aR<|cM bJ I<|aY I<|eg h Qy (FK _ _) (da I) fun r2 h=>aY I<|cU I I<|cU I I<|gx I<|bh I<|aI I<|ib I<|aY I<|ax I (de I)<|ax I (uI I)<|eZ I<|bP ?_;refine lO h I (fun h=>?_) (fun h=>?_)
   ·exact aV<|d (bS bJ BX cZ I)<|bM bJ aj I<|dG<|af<|cq 6 I<|ae<|ae<|ae<|ae<|ae<|ae<|ae<|so h▸dc (ts:=[Z ac th,bf 226]) (rvs:=[.cell 6 62,.tmp 7]) I I ⟨di bJ I I I,bH I,Q⟩ i I I
   ·exact gp<|aV<|cM bJ I<|bM bJ aj I<|dG<|cq 6 I<|ae<|ae<|ae<|ae<|ae<|ae<|ae<|so h▸dc (ts:=[Z ac r.1,bf 0]) (rvs:=[.cell 6 62,.tmp 7]) I I ⟨di bJ I I I,bH I,Q⟩ i I I
  ·skip
   refine aI I<|bX h I (fun h=>?_) (fun h=>?_)
   ·refine cu h fun r3 q_r3 h=>?_
    refine d8 (ts:=[_,_,_,_,_,_,_,_,_,_]) mixed I I
     ⟨fv I I,
     ⟨fL 35 0 I I (bm (M I)),
     ⟨fL 36 1 I I (lu 0 wM I I I),
     ⟨fL 37 2 I I (bA (r:=rH bv [(1,Y (i.h 0).1 (i.h 0).2 r.2.2.sources.length),(2,Y (i.h 1).1 (i.h 1).2 r.2.2.out.Tables.length),(3,Y (i.h 2).1 (i.h 2).2 r.2.2.out.Joins.length),(8,Y (i.h 3).1 (i.h 3).2 r.2.2.out.Keys.length),(9,Y (i.h 4).1 (i.h 4).2 r.2.2.out.Aggs.length),(10,Y (i.h 5).1 (i.h 5).2 r.2.2.out.Items.length)]) (x:=r.2.2) pl I I (nI mG) (.head _) (M I)),
     ⟨fv I I,
     ⟨fL 39 4 I I (bm (M I)),
     ⟨fL 40 5 I I (lu 2 eU I I I),
     ⟨fL 41 6 I I (bA (r:=rH bv [(1,Y (i.h 0).1 (i.h 0).2 r.2.2.sources.length),(2,Y (i.h 1).1 (i.h 1).2 r.2.2.out.Tables.length),(3,Y (i.h 2).1 (i.h 2).2 r.2.2.out.Joins.length),(8,Y (i.h 3).1 (i.h 3).2 r.2.2.out.Keys.length),(9,Y (i.h 4).1 (i.h 4).2 r.2.2.out.Aggs.length),(10,Y (i.h 5).1 (i.h 5).2 r.2.2.out.Items.length)]) (x:=r.2.2) BE I I (nI fP) (.head _) (M I)),
     ⟨eh 38 3 42 7 I I I (bq Ud (Ql _ _ q_r3) ⟨(M I),(M I),Q⟩),
     ⟨fL 43 8 I I (Cm I),
     Q⟩⟩⟩⟩⟩⟩⟩⟩⟩⟩ ?_
    refine ae<|ae<|ae<|ae<|ae<|ae<|ae<|dl ?_;exact cj (aw r3 h) (a8 I)
   ·refine bl<|ae<|ae<|ae<|ae<|ae<|ae<|ae<|dl ?_;exact cj (aw r1 h) (a8 I)

def aaA(b1:Nat)(ix:OI) b s{R}(h:oY b s=some R):ea bd 46 [tV (an b1 0),Z aW s] (kw b1 b ix) (fun _:OI=>tT [bf R.1,bf R.2.1]) (fun j=>kw b1 R.2.2 j):=by
 refine ea.of Tryz.func46 I I I fun w0 S0=>?_;refine(show CG _ _ _ [bx (rH bv (z11 ix b)) 137 b1 b,K be 48 (ix.h 0).1 (ix.h 0).2 b.sources,K aP 3 (ix.h 1).1 (ix.h 1).2 b.out.Tables,K av 71 (ix.h 2).1 (ix.h 2).2 b.out.Joins,K aP 3 (ix.h 3).1 (ix.h 3).2 b.out.Keys,K aT 73 (ix.h 4).1 (ix.h 4).2 b.out.Aggs,K ac 62 (ix.h 5).1 (ix.h 5).2 b.out.Items] _ from ?_);refine aV<|cL I<|bF<|bF<|bP<|aR<|aY I<|aU Ei rt tQ I<|cu h fun r q_r h=>jf (EffOK.fr6 (EffOK.fr6 (EffOK.fr6 (EffOK.fr6 (EffOK.fr6 (EffOK.fr6 (EffOK.fr6 (dY (xs:=[.tmp 18,.tmp 20]) (ts:=[tV (an b1 0),Z be s.From]) (kw b1 b ix) _ I XD (TN b1 ix b _ q_r) ⟨(M I),(M I),Q⟩ (fun _=>I))))))))) I fun i=>?_;refine(show RG _ _ _ _ [_,_,_,_,_,_,_] ((21,bf r.1)::_)from ?_);refine bh I<|aI I<|ib I<|bX h I (fun h=>?_) (fun h=>?_)
 ·exact aI I<|bF<|bj I<|af<|ae<|ae<|ae<|ae<|ae<|ae<|ae<|so h▸dc (ts:=[bf 0,bf r.1]) (rvs:=[.tmp 4,.tmp 5]) I I ⟨bH I,bH I,Q⟩ i I I
 ·refine gp<|aR<|aU mi eJ vD I<|bY rD I<|d (bB hI)<|bP<|ai<|aN (k:=26) I fun hN=>bp ?_;refine ay (xL (tD:=fun ls i1 ob l c l1 c1 l2 c2 l3 c3 l4 c4 l5 c5=>(s.Joins.drop i1=ls)/\dv s ls ob=some R) (Of:=fun _ i1 ob l c l1 c1 l2 c2 l3 c3 l4 c4 l5 c5=>[bx (rH bv [(1,Y l c ob.sources.length),(2,Y l1 c1 ob.out.Tables.length),(3,Y l2 c2 ob.out.Joins.length),(8,Y l3 c3 ob.out.Keys.length),(9,Y l4 c4 ob.out.Aggs.length),(10,Y l5 c5 ob.out.Items.length)]) 137 b1 ob,K be 48 l c ob.sources,K aP 3 l1 c1 ob.out.Tables,K av 71 l2 c2 ob.out.Joins,K aP 3 l3 c3 ob.out.Keys,K aT 73 l4 c4 ob.out.Aggs,K ac 62 l5 c5 ob.out.Items]) (Gf:=fun _ i1 ob l c l1 c1 l2 c2 l3 c3 l4 c4 l5 c5=>[(0,tV (an b1 0)),(3,bo aW s),(26,gb (dC) s.Joins),(27,iG s.Joins),(28,bf (i1:Int))]) (fun i1 ob l c l1 c1 l2 c2 l3 c3 l4 c4 l5 c5 h=>?_) (fun e tl ih i1 ob l c l1 c1 l2 c2 l3 c3 l4 c4 l5 c5 h=>?_) s.Joins 0 r.2 (i.h 0).1 (i.h 0).2 (i.h 1).1 (i.h 1).2 (i.h 2).1 (i.h 2).2 (i.h 3).1 (i.h 3).2 (i.h 4).1 (i.h 4).2 (i.h 5).1 (i.h 5).2 ⟨I,h⟩) (a8 I)
  ·obtain⟨D,h⟩:=h
   refine dh D I<|aq ?_;refine yI (tD:=fun ob1 l6 c6 l7 c7 l8 c8 l9 c9 l10 c10 l11 c11=>po s ob1=some R) (Of:=fun ob1 l6 c6 l7 c7 l8 c8 l9 c9 l10 c10 l11 c11=>[bx (rH bv [(1,Y l6 c6 ob1.sources.length),(2,Y l7 c7 ob1.out.Tables.length),(3,Y l8 c8 ob1.out.Joins.length),(8,Y l9 c9 ob1.out.Keys.length),(9,Y l10 c10 ob1.out.Aggs.length),(10,Y l11 c11 ob1.out.Items.length)]) 137 b1 ob1,K be 48 l6 c6 ob1.sources,K aP 3 l7 c7 ob1.out.Tables,K av 71 l8 c8 ob1.out.Joins,K aP 3 l9 c9 ob1.out.Keys,K aT 73 l10 c10 ob1.out.Aggs,K ac 62 l11 c11 ob1.out.Items]) (Gf:=fun ob1 l6 c6 l7 c7 l8 c8 l9 c9 l10 c10 l11 c11=>[(0,tV (an b1 0)),(3,bo aW s)]) (fun ob1 l6 c6 l7 c7 l8 c8 l9 c9 l10 c10 l11 c11 h=>?_) (fun aw=>?_)
   ·skip
    refine aR<|aU ri gk zp I<|bY wj I<|d (bB hI)<|bP<|ai<|aN (k:=86) I fun hN1=>bp ?_;refine ay (xL (tD:=fun ls1 i2 ob2 l12 c12 l13 c13 l14 c14 l15 c15 l16 c16 l17 c17=>(s.Group.drop i2=ls1)/\iS ls1 ob2=some R) (Of:=fun _ i2 ob2 l12 c12 l13 c13 l14 c14 l15 c15 l16 c16 l17 c17=>[bx (rH bv [(1,Y l12 c12 ob2.sources.length),(2,Y l13 c13 ob2.out.Tables.length),(3,Y l14 c14 ob2.out.Joins.length),(8,Y l15 c15 ob2.out.Keys.length),(9,Y l16 c16 ob2.out.Aggs.length),(10,Y l17 c17 ob2.out.Items.length)]) 137 b1 ob2,K be 48 l12 c12 ob2.sources,K aP 3 l13 c13 ob2.out.Tables,K av 71 l14 c14 ob2.out.Joins,K aP 3 l15 c15 ob2.out.Keys,K aT 73 l16 c16 ob2.out.Aggs,K ac 62 l17 c17 ob2.out.Items]) (Gf:=fun _ i2 ob2 l12 c12 l13 c13 l14 c14 l15 c15 l16 c16 l17 c17=>[(0,tV (an b1 0)),(86,gb (fI) s.Group),(87,iG s.Group),(88,bf (i2:Int))]) (fun i2 ob2 l12 c12 l13 c13 l14 c14 l15 c15 l16 c16 l17 c17 h=>?_) (fun e1 tl1 ih1 i2 ob2 l12 c12 l13 c13 l14 c14 l15 c15 l16 c16 l17 c17 h=>?_) s.Group 0 ob1 l6 c6 l7 c7 l8 c8 l9 c9 l10 c10 l11 c11 ⟨I,h⟩) (a8 I)
    ·obtain⟨hx1,h⟩:=h
     refine dh hx1 I<|aq<|aV<|bF<|dG<|ae<|ae<|ae<|ae ?_;exact ae<|ae<|ae<|so h▸dc (ts:=[bf 0,bf 0]) (rvs:=[.tmp 4,.tmp 5]) I I ⟨bH I,bH I,Q⟩ (Fy [(l12,c12),(l13,c13),(l14,c14),(l15,c15),(l16,c16),(l17,c17)]) I I
    ·obtain⟨hx1,h⟩:=h
     refine dg hx1 I<|aA<|ai<|aV<|d9 wj vB I (cW hx1)<|aX vB Ai I fun b2=>bM vB aj I<|aQ 15 I<|bP<|aI I ?_;refine aU Kc xG ja I<|aU Kb xF ja I<|cu h fun r1 q_r1 h=>jf (EffOK.fr6 (EffOK.fr6 (EffOK.fr6 (EffOK.fr6 (EffOK.fr6 (EffOK.fr6 (EffOK.fr6 (dY (xs:=[.tmp 93,.tmp 95,.tmp 97]) (ts:=[tV (an b1 0),Z rS e1.Table,Z rS e1.Name]) (kw b1 ob2 (Fy [(l12,c12),(l13,c13),(l14,c14),(l15,c15),(l16,c16),(l17,c17)])) _ I XC (TM b1 (Fy [(l12,c12),(l13,c13),(l14,c14),(l15,c15),(l16,c16),(l17,c17)]) ob2 _ _ q_r1) ⟨(M I),(M I),(M I),Q⟩ (fun _=>I))))))))) I fun i3=>?_;refine(show RG _ _ _ _ [_,_,_,_,_,_,_] ((98,tT [bf r1.1,bf r1.2])::_)from ?_);refine aY I<|cU I I<|cU I I<|gx I<|bh I<|aR<|aY I<|ib I<|bX h I (fun h=>?_) (fun h=>?_)
     ·exact aI I<|bF<|bj I<|af<|bT<|af<|bT<|ae<|ae<|ae<|ae<|ae<|ae<|ae<|so h▸dc (ts:=[bf 3,bf r1.2]) (rvs:=[.tmp 4,.tmp 5]) I I ⟨bH I,bH I,Q⟩ (Fy [(l12,c12),(l13,c13),(l14,c14),(l15,c15),(l16,c16),(l17,c17)]) I I
     ·refine gp<|aL<|aY I<|aY I<|d (bm (M I))<|bu 2 eU I<|bu 8 uD I<|d (cR fV I (.head _) (.tail _ (.tail _ (.tail _ (.tail _ (.head _))))) (M I))<|aY I<|d (ba (r:=aP) (ys:=[r1.1]) (xs:=[.tmp 110]) fH cF I I I I I ⟨(M I),Q⟩)<|qe<|cu h fun l18 q_l18 h=>md cF I I I I fH I I (M I) (M I) q_l18 fun l19 c18=>d (bm (M I))<|bu 2 eU I<|bu 8 uD I<|fZ (EffOK.fr1 (il (hs' :=[(1,Y l12 c12 ob2.sources.length),(2,Y l13 c13 ob2.out.Tables.length),(3,Y l14 c14 ob2.out.Joins.length),(8,Y l19 c18 l18.length),(9,Y l16 c16 ob2.out.Aggs.length),(10,Y l17 c17 ob2.out.Items.length)]) (u:=Y l19 c18 l18.length) fV I I (gc fP lz CE) I ⟨.inr ⟨I,I⟩,.inr ⟨I,I⟩,.inr ⟨I,I⟩,.inl ⟨I,I,I⟩,.inr ⟨I,I⟩,.inr ⟨I,I⟩,Q⟩ (M I) (kp (M I)) (tR (M I)))) fun i4=>?_;refine(show RG _ _ _ _ [_,_,_,_,_,_,_] _ from ?_);refine br<|cS hx1 hN1 I<|ae<|ae<|kc<|ae<|ae<|ae<|ae ?_;exact aO (ay (ih1 (i2+1) ({ob2 with out:=({ob2.out with Keys:=l18}:bb)}:aB) l12 c12 l13 c13 l14 c14 l19 c18 l16 c16 l17 c17 ⟨cO hx1,h⟩) (a8 I))
   ·skip
    refine aV<|oU xg nL I<|aU ik dX qi I<|bY nb I<|d (eX (M I) hI)<|bX h I (fun h=>?_) (fun h=>?_)
    ·refine aI I<|aU xg nL iw I<|cu h fun r2 q_r2 h=>jf (EffOK.fr6 (EffOK.fr6 (EffOK.fr6 (EffOK.fr6 (EffOK.fr6 (EffOK.fr6 (EffOK.fr6 (dY (xs:=[.tmp 71,.tmp 73,.const (.bool false)]) (ts:=[tV (an b1 0),Z bD s.Where,iD false]) (kw b1 ob (Fy [(l,c),(l1,c1),(l2,c2),(l3,c3),(l4,c4),(l5,c5)])) _ I Uf (Oi b1 (Fy [(l,c),(l1,c1),(l2,c2),(l3,c3),(l4,c4),(l5,c5)]) ob _ _ q_r2) ⟨(M I),(M I),hB,Q⟩ (fun _=>I))))))))) I fun i5=>?_;refine(show RG _ _ _ _ [_,_,_,_,_,_,_] ((74,tT [Z ac r2.1,bf r2.2.1])::_)from ?_);refine aY I<|cU I I<|cU I I<|aX bJ cZ I fun b3=>bM bJ aj I<|aQ 12 I<|bh I<|aR<|aY I<|ib I<|bX h I (fun h=>?_) (fun h=>?_)
     ·exact aI I<|bF<|bj I<|af<|af<|ae<|ae<|ae<|ae<|ae<|ae<|ae<|so h▸dc (ts:=[bf 2,bf r2.2.1]) (rvs:=[.tmp 4,.tmp 5]) I I ⟨bH I,bH I,Q⟩ i5 I I
     ·refine gp<|aL<|aY I<|cM bJ I<|d (bm (M I))<|bu 2 eU I<|bu 4 Kg I<|fZ (dr bJ I (wq (hs' :=[(1,Y (i5.h 0).1 (i5.h 0).2 r2.2.2.sources.length),(2,Y (i5.h 1).1 (i5.h 1).2 r2.2.2.out.Tables.length),(3,Y (i5.h 2).1 (i5.h 2).2 r2.2.2.out.Joins.length),(8,Y (i5.h 3).1 (i5.h 3).2 r2.2.2.out.Keys.length),(9,Y (i5.h 4).1 (i5.h 4).2 r2.2.2.out.Aggs.length),(10,Y (i5.h 5).1 (i5.h 5).2 r2.2.2.out.Items.length)]) (gc fP lz CJ) ⟨.inr ⟨I,I⟩,.inr ⟨I,I⟩,.inr ⟨I,I⟩,.inr ⟨I,I⟩,.inr ⟨I,I⟩,.inr ⟨I,I⟩,Q⟩ I) I (M I) (M I)) fun i6=>?_;refine(show RG _ _ _ _ [_,_,_,_,_,_,_] _ from ?_);refine br ?_;exact cj (aw ({r2.2.2 with out:=({r2.2.2.out with Where:=r2.1}:bb)}:aB) (i5.h 0).1 (i5.h 0).2 (i5.h 1).1 (i5.h 1).2 (i5.h 2).1 (i5.h 2).2 (i5.h 3).1 (i5.h 3).2 (i5.h 4).1 (i5.h 4).2 (i5.h 5).1 (i5.h 5).2 h) (a8 I)
    ·refine bl ?_;exact cj (aw ob l c l1 c1 l2 c2 l3 c3 l4 c4 l5 c5 h) (a8 I)
  ·obtain⟨D,h⟩:=h
   refine dg D I<|aA<|ai<|aV<|d9 rD my I (cW D)<|aX my uP I fun b4=>bM my aj I<|aQ 8 I<|bP<|aR ?_;refine aY I<|aU Eh vo tQ I<|cu h fun r3 q_r3 h=>jf (EffOK.fr6 (EffOK.fr6 (EffOK.fr6 (EffOK.fr6 (EffOK.fr6 (EffOK.fr6 (EffOK.fr6 (dY (xs:=[.tmp 32,.tmp 34]) (ts:=[tV (an b1 0),Z be e.Source]) (kw b1 ob (Fy [(l,c),(l1,c1),(l2,c2),(l3,c3),(l4,c4),(l5,c5)])) _ I XD (TN b1 (Fy [(l,c),(l1,c1),(l2,c2),(l3,c3),(l4,c4),(l5,c5)]) ob _ q_r3) ⟨(M I),(M I),Q⟩ (fun _=>I))))))))) I fun i7=>?_;refine(show RG _ _ _ _ [_,_,_,_,_,_,_] ((35,bf r3.1)::_)from ?_);refine bh I<|aI I<|ib I<|bX h I (fun h=>?_) (fun h=>?_)
   ·exact aI I<|bF<|bj I<|af<|bT<|af<|bT<|ae<|ae<|ae<|ae<|ae<|ae<|ae<|so h▸dc (ts:=[bf 1,bf r3.1]) (rvs:=[.tmp 4,.tmp 5]) I I ⟨bH I,bH I,Q⟩ i7 I I
   ·refine gp<|aI I<|aU zO sU iw I<|cu h fun r4 q_r4 h=>jf (EffOK.fr6 (EffOK.fr6 (EffOK.fr6 (EffOK.fr6 (EffOK.fr6 (EffOK.fr6 (EffOK.fr6 (dY (xs:=[.tmp 40,.tmp 42,.const (.bool false)]) (ts:=[tV (an b1 0),Z bD e.On,iD false]) (kw b1 r3.2 i7) _ I Uf (Oi b1 i7 r3.2 _ _ q_r4) ⟨(M I),(M I),hB,Q⟩ (fun _=>I))))))))) I fun i8=>?_;refine(show RG _ _ _ _ [_,_,_,_,_,_,_] ((43,tT [Z ac r4.1,bf r4.2.1])::_)from ?_);refine aY I<|cU I I<|cU I I<|aX bJ cZ I fun b5=>bM bJ aj I<|aQ 10 I<|bh I<|aR<|aY I<|ib I<|bX h I (fun h=>?_) (fun h=>?_)
    ·exact aI I<|bF<|bj I<|af<|bT<|af<|bT<|ae<|ae<|ae<|ae<|ae<|ae<|ae<|so h▸dc (ts:=[bf 1,bf r4.2.1]) (rvs:=[.tmp 4,.tmp 5]) I I ⟨bH I,bH I,Q⟩ i8 I I
    ·refine gp<|cu h fun l20 q_l20 h=>?_
     refine er 12 [tc (tV (an b1 0)),tc (tV (an b1 0)),tc (tV (an b1 0)),tc (tV (an b1 2)),tc (tV (an b1 3)),tc (tO av (i8.h 2).1 (i8.h 2).2 r4.2.2.out.Joins),tc (bo rB e.Left),tc (iD e.Left),tc (Z ac r4.1),tc (Z av (⟨e.Left,r4.1⟩:la)),tc (gb (av) ([(⟨e.Left,r4.1⟩:la)])),([11],fun s=>tO av ((s.getD 0 oD).h 0).1 ((s.getD 0 oD).h 0).2 l20)] [false,false,false,false,false,false,false,false,false,false,false,true] [fun _=>[bx (rH bv [(1,Y (i8.h 0).1 (i8.h 0).2 r4.2.2.sources.length),(2,Y (i8.h 1).1 (i8.h 1).2 r4.2.2.out.Tables.length),(3,Y (i8.h 2).1 (i8.h 2).2 r4.2.2.out.Joins.length),(8,Y (i8.h 3).1 (i8.h 3).2 r4.2.2.out.Keys.length),(9,Y (i8.h 4).1 (i8.h 4).2 r4.2.2.out.Aggs.length),(10,Y (i8.h 5).1 (i8.h 5).2 r4.2.2.out.Items.length)]) 137 b1 r4.2.2,K be 48 (i8.h 0).1 (i8.h 0).2 r4.2.2.sources,K aP 3 (i8.h 1).1 (i8.h 1).2 r4.2.2.out.Tables,K av 71 (i8.h 2).1 (i8.h 2).2 r4.2.2.out.Joins,K aP 3 (i8.h 3).1 (i8.h 3).2 r4.2.2.out.Keys,K aT 73 (i8.h 4).1 (i8.h 4).2 r4.2.2.out.Aggs,K ac 62 (i8.h 5).1 (i8.h 5).2 r4.2.2.out.Items],fun sg=>[K av 71 ((sg 11).h 0).1 ((sg 11).h 0).2 l20,bx (rH bv [(1,Y (i8.h 0).1 (i8.h 0).2 r4.2.2.sources.length),(2,Y (i8.h 1).1 (i8.h 1).2 r4.2.2.out.Tables.length),(3,Y (i8.h 2).1 (i8.h 2).2 r4.2.2.out.Joins.length),(8,Y (i8.h 3).1 (i8.h 3).2 r4.2.2.out.Keys.length),(9,Y (i8.h 4).1 (i8.h 4).2 r4.2.2.out.Aggs.length),(10,Y (i8.h 5).1 (i8.h 5).2 r4.2.2.out.Items.length)]) 137 b1 r4.2.2,K be 48 (i8.h 0).1 (i8.h 0).2 r4.2.2.sources,K aP 3 (i8.h 1).1 (i8.h 1).2 r4.2.2.out.Tables,K aP 3 (i8.h 3).1 (i8.h 3).2 r4.2.2.out.Keys,K aT 73 (i8.h 4).1 (i8.h 4).2 r4.2.2.out.Aggs,K ac 62 (i8.h 5).1 (i8.h 5).2 r4.2.2.out.Items]] I mixed I I I I I
      ⟨⟨[⟨0,fun _=>tV (an b1 0),none⟩],_,0,1,I,⟨(fun _=>I),Q⟩,I,I,I,I,I,fun _ sg _ _=>h2 I (fR I)⟩,
      ⟨⟨[⟨0,fun _=>tV (an b1 0),none⟩],_,0,0,I,⟨(fun _=>I),Q⟩,I,I,I,I,I,fun _ sg _ _=>h2 I (fR I)⟩,
      ⟨⟨[⟨50,fun _=>tV (an b1 0),some 1⟩],_,0,0,I,⟨(fun _=>I),Q⟩,I,I,I,I,I,fun _ sg _ _=>h2 I (bm (M I))⟩,
      ⟨⟨[⟨51,fun _=>tV (an b1 0),some 2⟩],_,0,0,I,⟨(fun _=>I),Q⟩,I,I,I,I,I,fun _ sg _ _=>h2 I (lu 2 eU I I I)⟩,
      ⟨⟨[⟨52,fun _=>tV (an b1 2),some 3⟩],_,0,0,I,⟨(fun _=>I),Q⟩,I,I,I,I,I,fun _ sg _ _=>h2 I (lu 3 vX I I I)⟩,
      ⟨⟨[⟨53,fun _=>tV (an b1 3),some 4⟩],_,0,0,I,⟨(fun _=>I),Q⟩,I,I,I,I,I,fM (fun sg=>h2 I (cR Gb I (.head _) (.tail _ (.tail _ (.tail _ (.head _)))) (M I)))⟩,
      ⟨⟨[⟨8,fun _=>bo dC e,none⟩],_,0,0,I,⟨(fun _=>I),Q⟩,I,I,I,I,I,fun _ sg _ _=>h2 I (kO Kd AA I I)⟩,
      ⟨⟨[⟨55,fun _=>bo rB e.Left,some 6⟩],_,0,0,I,⟨(fun _=>I),Q⟩,I,I,I,I,I,fun _ sg _ _=>h2 I (nM xV I I)⟩,
      ⟨⟨[⟨10,fun _=>bo ac r4.1,none⟩],_,0,0,I,⟨(fun _=>I),Q⟩,I,I,I,I,I,fun _ sg _ _=>h2 I (nM bJ I I)⟩,
      ⟨⟨[⟨56,fun _=>Z rB e.Left,some 7⟩,⟨57,fun _=>Z ac r4.1,some 8⟩],_,0,0,I,⟨(fun _=>I),(fun _=>I),Q⟩,I,I,I,I,I,fun _ sg _ _=>h2 I (bS (y:=(⟨e.Left,r4.1⟩:la)) H4 aah KW (⟨_,_,_,_,_,I,Gt,I,(M I),⟨_,_,_,_,_,I,Gs,I,(M I),I⟩⟩))⟩,
      ⟨⟨[⟨58,fun _=>Z av (⟨e.Left,r4.1⟩:la),some 9⟩],_,0,0,I,⟨(fun _=>I),Q⟩,I,I,I,I,I,fun _ sg _ _=>h2 I (ba (r:=av) (ys:=[(⟨e.Left,r4.1⟩:la)]) (xs:=[.tmp 58]) FP H4 I I I I I ⟨(M I),Q⟩)⟩,
      ⟨⟨[⟨54,fun _=>tO av (i8.h 2).1 (i8.h 2).2 r4.2.2.out.Joins,some 5⟩,⟨59,fun _=>Z (eM av) ([(⟨e.Left,r4.1⟩:la)]),some 10⟩],_,I,⟨(fun _=>I),(fun _=>I),Q⟩,I,I,I,fun sg=>bL I (EffOK.fr3 (iq H4 I I I I FP I (M I) (M I) q_l20))⟩,
      Q⟩⟩⟩⟩⟩⟩⟩⟩⟩⟩⟩⟩ (fun sg=>?_)
     refine(show RG _ _ _ _ [_,_,_,_,_,_,_] _ from ?_);refine d (bm (M I))<|bu 2 eU I<|bu 3 vX I<|fZ (EffOK.fr1 (il (hs' :=[(1,Y (i8.h 0).1 (i8.h 0).2 r4.2.2.sources.length),(2,Y (i8.h 1).1 (i8.h 1).2 r4.2.2.out.Tables.length),(3,Y ((sg 11).h 0).1 ((sg 11).h 0).2 l20.length),(8,Y (i8.h 3).1 (i8.h 3).2 r4.2.2.out.Keys.length),(9,Y (i8.h 4).1 (i8.h 4).2 r4.2.2.out.Aggs.length),(10,Y (i8.h 5).1 (i8.h 5).2 r4.2.2.out.Items.length)]) (u:=Y ((sg 11).h 0).1 ((sg 11).h 0).2 l20.length) Gb I I (gc fP lz CK) I ⟨.inr ⟨I,I⟩,.inr ⟨I,I⟩,.inl ⟨I,I,I⟩,.inr ⟨I,I⟩,.inr ⟨I,I⟩,.inr ⟨I,I⟩,Q⟩ (M I) (kp (M I)) (tR (M I)))) fun i9=>?_;refine(show RG _ _ _ _ [_,_,_,_,_,_,_] _ from ?_);refine br<|cS D hN I<|ae<|ae<|ae<|eb<|ae<|ae<|ae ?_;exact aO (ay (ih (i1+1) ({r4.2.2 with out:=({r4.2.2.out with Joins:=l20}:bb)}:aB) (i8.h 0).1 (i8.h 0).2 (i8.h 1).1 (i8.h 1).2 ((sg 11).h 0).1 ((sg 11).h 0).2 (i8.h 3).1 (i8.h 3).2 (i8.h 4).1 (i8.h 4).2 (i8.h 5).1 (i8.h 5).2 ⟨cO D,h⟩) (a8 I))

def YC t{R}(h:DZ t=some R):cN bd 81 [Z bD t] (iD R):=by
 refine dp Tryz.func81 I<|aV<|cL I<|bC<|bP<|aR<|aU ik dX qi I<|bY nb I<|d (bB hI)<|bP<|ai<|aN (k:=6) I fun hN=>bp ?_;refine ay (dx (tD:=fun ls i=>(t.Nodes.drop i=ls)/\rQ ls=some R) (Of:=fun _ i=>[]) (Gf:=fun _ i=>[(6,gb (dd) t.Nodes),(7,iG t.Nodes),(8,bf (i:Int))]) (fun i h=>?_) (fun e tl ih i h=>?_) t.Nodes 0 ⟨I,h⟩) (a8 I)
 ·obtain⟨D,h⟩:=h
  exact dh D I<|aq<|aV<|bC<|cA<|so h▸au I I
 ·obtain⟨D,h⟩:=h
  refine dg D I<|aA<|ai<|aV<|d9 nb ko I (cW D)<|aX ko wl I fun b=>bM ko aj I<|aQ 4 I<|bP<|aV<|oU mf gY I ?_;refine cM cF I<|eg h Xz (Qi _) (da I) fun r h=>bX h I (fun h=>?_) (fun h=>?_)
  ·exact aV<|bC<|cA<|bT<|af<|bT<|so h▸au I I
  ·refine bl<|cS D hN I ?_;exact aO (ay (ih (i+1) ⟨cO D,h⟩) (a8 I))

def Y1 s{R}(h:tk s=some R):cN bd 27 [Z aW s] (iD R):=by
 refine dp Tryz.func27 I<|aV<|cL I<|bC<|bP<|aV<|aU ri gk zp I<|bY wj I<|d (eX (M I) hI)<|aY I<|ap I (bQ uF lD I I)<|ap I (fun V=>gz ik I dX I (bE I V))<|ap I (bN qi I I)<|ap I (gy nb I)<|ap I (fun V=>eX (bE I V) hI)<|dU I<|bh I<|aA ?_;refine aV<|aU ma eK vE I<|bY pe I<|d (bB hI)<|bP<|ai<|aN (k:=18) I fun hN=>bp ?_;refine ay (jX (tD:=fun ls i out=>(s.Items.drop i=ls)/\lG ls out=some R) (Of:=fun _ i out=>[]) (Gf:=fun _ i out=>[(3,iD out),(18,gb (d5) s.Items),(19,iG s.Items),(20,bf (i:Int))]) (fun i out h=>?_) (fun e tl ih i out h=>?_) s.Items 0 ((decide ((0:Int)<(s.Group.length:Int)))||(decide ((0:Int)<(s.Having.Nodes.length:Int)))) ⟨I,h⟩) (a8 I)
 ·obtain⟨D,h⟩:=h
  exact dh D I<|aq<|aI I<|bj I<|so h▸au I I
 ·obtain⟨D,h⟩:=h
  refine dg D I<|aA<|ai<|aV<|d9 pe nH I (cW D)<|aX nH tg I fun b=>bM nH aj I<|aQ 5 I<|bP<|aL<|aY I<|aY I ?_;refine cu h fun t q_t h=>ap I (bQ ql j9 I I)<|ap I (bN iw I I) ?_
  obtain⟨r,h1t,h0t⟩:=og q_t
  have q_rg:=fun A=>(h1t A).1
  refine ap I (fun V=>bq acA (YC _ (q_rg V)) ⟨(bE I V),Q⟩)<|d (cD (M I) (fun A=>(bE I (mD A))) (fun A=>(h1t A).2) h0t)<|gx I<|br<|cS D hN I ?_;exact aO (ay (ih (i+1) t ⟨cO D,h⟩) (a8 I))

end Go.Proofs.YthbdkceckjihgaaGreatDoor

