/- du of this claim: P13. -/
import Derived.Test.YthbdkceckjihgaaGreatDoorBbT
import Derived.Test.YthbdkceckjihgaaGreatDoorBbP12
set_option linter.all false
namespace Go.Proofs.YthbdkceckjihgaaGreatDoor
open Go
abbrev z11(i:OI)(s:aA):=[(1,J (i.h 0).1 (i.h 0).2 s.sources.length),(2,J (i.h 1).1 (i.h 1).2 s.out.Tables.length),(3,J (i.h 2).1 (i.h 2).2 s.out.Joins.length),(8,J (i.h 3).1 (i.h 3).2 s.out.Keys.length),(9,J (i.h 4).1 (i.h 4).2 s.out.Aggs.length),(10,J (i.h 5).1 (i.h 5).2 s.out.Items.length)]
set_option maxRecDepth 100000

def Wd c name{R}(h:sM c name=some R):cI aZ 148 [H bK c,H rS name] (bd R):=by
 refine dm Tryz.func148 I<|aY<|cK I<|bG<|bO<|aT<|bG<|bO<|ai<|bp ?_;refine ay (sl (h2:=fun n i=>ql c name n i=some R) (Of:=fun i=>[]) (Gf:=fun i=>[(1,H rS name),(2,bt bK c),(5,bd i)]) (fun i h=>nn h) (fun n ih i h=>?_) gi (0:Int) h) (bb I);refine dX<|aT<|aX I<|ba nk eK vV I<|bW sF I<|sx I<|bY h I (fun h=>?_) (fun h=>?_)
 ·refine gC<|aD<|ai<|aY<|ba nk eK vV I<|aX I<|cq h fun e q_e h=>uC sF kM I q_e<|ba Aq sR jG I<|aX I<|Q (fW (M I) (M I))<|bY h I (fun h=>?_) (fun h=>?_)
  ·exact aH I<|be I<|bZ<|af<|bZ<|so h▸aq I I
  ·refine bk<|bq<|av<|aJ<|aX I<|Q (fX (M I) hI)<|gE I<|bz ?_;exact aS (ay (ih (IntKind.i64.wrap (i+(1:Int))) h) (bb I))
 ·exact eY<|aI<|aI<|cW<|av<|aY<|dJ<|so h▸aq I I

def Kh s{R}(h:pK s=some R):cI aZ 149 [H bg s] (H rS R):=by
 refine dm Tryz.func149 I<|aY<|cK I<|Q (cg hS)<|bO<|aT<|ba Ef re jG I<|Q (wk (M I) hS)<|bY h I (fun h=>?_) (fun h=>?_)
 ·exact aY<|ba Ef re jG I<|be I<|af<|so h▸aq I I
 ·exact gC<|aY<|ba Eg rf jG I<|be I<|so h▸aq I I

def TF(b1:Nat)(ix:OI) b s{R}(h:jI b s=some R):ea aZ 103 [tV (an b1 0),H bg s] (kE b1 b ix) (fun _:OI=>bd R.1) (fun j=>kE b1 R.2 j):=by
 refine ea.of Tryz.func103 I I I fun w0 S0=>?_;refine(show CG _ _ _ [bx (rH bA (z11 ix b)) 137 b1 b,K bg 48 (ix.h 0).1 (ix.h 0).2 b.sources,K aP 3 (ix.h 1).1 (ix.h 1).2 b.out.Tables,K aw 71 (ix.h 2).1 (ix.h 2).2 b.out.Joins,K aP 3 (ix.h 3).1 (ix.h 3).2 b.out.Keys,K aN 73 (ix.h 4).1 (ix.h 4).2 b.out.Aggs,K ac 62 (ix.h 5).1 (ix.h 5).2 b.out.Items] _ from ?_);refine aY<|cK I<|bG<|bO<|aD<|cq h fun r q_r h=>?_
 refine eI (ts:=[_,_,_,_,_,_,_,_]) mixed I I
  ⟨f8 I I,
  ⟨ga 8 0 I I (bl (M I)),
  ⟨ga 9 1 I I (lv 0 wz I I I),
  ⟨ga 10 2 I I (bB (r:=rH bA (z11 ix b)) (x:=b) qa I I (nD mH) (.head _) (M I)),
  ⟨ug 3 I I (oJ Eg rf I I),
  ⟨jX 4 jG I I,
  ⟨fg 11 3 13 5 I I I (bn abq (Wd _ _ q_r) ⟨(M I),(M I),d⟩),
  ⟨ga 14 6 I I (AW I),
  d⟩⟩⟩⟩⟩⟩⟩⟩ ?_
 refine av<|aT<|aX I<|Q (eP (M I) hI)<|bY h I (fun h=>?_) (fun h=>?_)
 ·exact aY<|dJ<|af<|ae<|ae<|ae<|ae<|ae<|ae<|ae<|so h▸er I ix I I (fun _ _ h=>h)
 ·refine gC<|aT<|aX I<|Q (bl (M I))<|bv 1 FI I<|Q (cP OY I (.head _) (.tail _ (.head _)) (M I))<|Q (fN Ir (kB (M I)))<|Q (bC hI)<|bO<|ai<|Jr<|vk 20 I<|aO (k:=20) I fun hN=>bp<|ic<|ic<|ic<|ic<|ic<|vi ?_;refine ic ?_;refine ay (dz (h2:=fun ls i=>(b.sources.drop i=ls)/\gZ b s r ls=some R) (Of:=fun _ i=>[bx (rH bA (z11 ix b)) 137 b1 b,K bg 48 (ix.h 0).1 (ix.h 0).2 b.sources,K aP 3 (ix.h 1).1 (ix.h 1).2 b.out.Tables,K aw 71 (ix.h 2).1 (ix.h 2).2 b.out.Joins,K aP 3 (ix.h 3).1 (ix.h 3).2 b.out.Keys,K aN 73 (ix.h 4).1 (ix.h 4).2 b.out.Aggs,K ac 62 (ix.h 5).1 (ix.h 5).2 b.out.Items]) (Gf:=fun _ i=>[(0,tV (an b1 0)),(3,bt bg s),(5,bd r),(20,fm (bg) b.sources),(21,iK b.sources),(22,bd (i:Int))]) (fun i h=>?_) (fun e tl ih i h=>?_) b.sources 0 ⟨I,h⟩) (bb I)
  ·obtain⟨A,h⟩:=h
   refine dh A I<|av<|aD<|cq h fun l q_l h=>?_
   refine ek 8 [tc (tV (an b1 0)),tc (tV (an b1 0)),tc (tV (an b1 0)),tc (tV (an b1 1)),tc (tO bg (ix.h 0).1 (ix.h 0).2 b.sources),tc (H bg s),tc (fm (bg) ([s])),([7],fun s=>tO bg ((s.getD 0 oF).h 0).1 ((s.getD 0 oF).h 0).2 l)] [false,false,false,false,false,false,false,true] [fun _=>[bx (rH bA (z11 ix b)) 137 b1 b,K bg 48 (ix.h 0).1 (ix.h 0).2 b.sources,K aP 3 (ix.h 1).1 (ix.h 1).2 b.out.Tables,K aw 71 (ix.h 2).1 (ix.h 2).2 b.out.Joins,K aP 3 (ix.h 3).1 (ix.h 3).2 b.out.Keys,K aN 73 (ix.h 4).1 (ix.h 4).2 b.out.Aggs,K ac 62 (ix.h 5).1 (ix.h 5).2 b.out.Items],fun sg=>[K bg 48 ((sg 7).h 0).1 ((sg 7).h 0).2 l,bx (rH bA (z11 ix b)) 137 b1 b,K aP 3 (ix.h 1).1 (ix.h 1).2 b.out.Tables,K aw 71 (ix.h 2).1 (ix.h 2).2 b.out.Joins,K aP 3 (ix.h 3).1 (ix.h 3).2 b.out.Keys,K aN 73 (ix.h 4).1 (ix.h 4).2 b.out.Aggs,K ac 62 (ix.h 5).1 (ix.h 5).2 b.out.Items]] I mixed I I I I I
    ⟨⟨[⟨0,fun _=>tV (an b1 0),none⟩],_,0,1,I,⟨(fun _=>I),d⟩,I,I,I,I,I,fun _ sg _ _=>aa I (gH I)⟩,
    ⟨⟨[⟨0,fun _=>tV (an b1 0),none⟩],_,0,0,I,⟨(fun _=>I),d⟩,I,I,I,I,I,fun _ sg _ _=>aa I (gH I)⟩,
    ⟨⟨[⟨33,fun _=>tV (an b1 0),some 1⟩],_,0,0,I,⟨(fun _=>I),d⟩,I,I,I,I,I,fun _ sg _ _=>aa I (bl (M I))⟩,
    ⟨⟨[⟨34,fun _=>tV (an b1 0),some 2⟩],_,0,0,I,⟨(fun _=>I),d⟩,I,I,I,I,I,fun _ sg _ _=>aa I (lv 1 FI I I I)⟩,
    ⟨⟨[⟨35,fun _=>tV (an b1 1),some 3⟩],_,0,0,I,⟨(fun _=>I),d⟩,I,I,I,I,I,fK (fun sg=>aa I (cP OY I (.head _) (.tail _ (.head _)) (M I)))⟩,
    ⟨⟨[⟨3,fun _=>bt bg s,none⟩],_,0,0,I,⟨(fun _=>I),d⟩,I,I,I,I,I,fun _ sg _ _=>aa I (qN vU I I)⟩,
    ⟨⟨[⟨37,fun _=>H bg s,some 5⟩],_,0,0,I,⟨(fun _=>I),d⟩,I,I,I,I,I,fun _ sg _ _=>aa I (a8 (r:=bg) (ys:=[s]) (xs:=[.tmp 37]) Ir vU I I I I I ⟨(M I),d⟩)⟩,
    ⟨⟨[⟨36,fun _=>tO bg (ix.h 0).1 (ix.h 0).2 b.sources,some 4⟩,⟨38,fun _=>H (eO bg) ([s]),some 6⟩],_,I,⟨(fun _=>I),(fun _=>I),d⟩,I,I,I,fun sg=>bS I (EffOK.fr1 (iw vU I I I I Ir I (M I) (M I) q_l))⟩,
    d⟩⟩⟩⟩⟩⟩⟩⟩ (fun sg=>?_)
   refine(show RG _ _ _ _ [_,_,_,_,_,_,_] _ from ?_);refine Q (bl (M I))<|bv 1 FI I<|fA (EffOK.fr1 (ip (hs' :=[(1,J ((sg 7).h 0).1 ((sg 7).h 0).2 l.length),(2,J (ix.h 1).1 (ix.h 1).2 b.out.Tables.length),(3,J (ix.h 2).1 (ix.h 2).2 b.out.Joins.length),(8,J (ix.h 3).1 (ix.h 3).2 b.out.Keys.length),(9,J (ix.h 4).1 (ix.h 4).2 b.out.Aggs.length),(10,J (ix.h 5).1 (ix.h 5).2 b.out.Items.length)]) (u:=J ((sg 7).h 0).1 ((sg 7).h 0).2 l.length) OY I I K6 I ⟨.inl ⟨I,I,I⟩,.inr ⟨I,I⟩,.inr ⟨I,I⟩,.inr ⟨I,I⟩,.inr ⟨I,I⟩,.inr ⟨I,I⟩,d⟩ (M I) (kB (M I)) (tQ (M I)))) fun i1=>?_;refine(show RG _ _ _ _ [_,_,_,_,_,_,_] _ from ?_);refine bO<|aH I<|aX I<|Q (bl (M I))<|bv 2 eW I<|bv 2 pu I<|Q (cP fL I (.head _) (.tail _ (.tail _ (.head _))) (M I))<|aX I<|Q (a8 (r:=aP) (ys:=[r]) (xs:=[.tmp 48]) fH cF I I I I I ⟨(M I),d⟩)<|ib<|cq h fun l1 q_l1 h=>me cF I I I I fH I I (M I) (M I) q_l1 fun l2 c=>Q (bl (M I))<|bv 2 eW I<|bv 2 pu I<|fA (EffOK.fr1 (ip (hs' :=[(1,J ((sg 7).h 0).1 ((sg 7).h 0).2 l.length),(2,J l2 c l1.length),(3,J (ix.h 2).1 (ix.h 2).2 b.out.Joins.length),(8,J (ix.h 3).1 (ix.h 3).2 b.out.Keys.length),(9,J (ix.h 4).1 (ix.h 4).2 b.out.Aggs.length),(10,J (ix.h 5).1 (ix.h 5).2 b.out.Items.length)]) (u:=J l2 c l1.length) fL I I (gm fO lC CH) I ⟨.inr ⟨I,I⟩,.inl ⟨I,I,I⟩,.inr ⟨I,I⟩,.inr ⟨I,I⟩,.inr ⟨I,I⟩,.inr ⟨I,I⟩,d⟩ (M I) (kB (M I)) (tQ (M I)))) fun i2=>?_;refine(show RG _ _ _ _ [_,_,_,_,_,_,_] _ from ?_);exact bO<|aY<|dJ<|ae<|ae<|ae<|ae<|fG<|ae<|ae<|so h▸er I (FE [(((sg 7).h 0).1,((sg 7).h 0).2),(l2,c),((ix.h 2).1,(ix.h 2).2),((ix.h 3).1,(ix.h 3).2),((ix.h 4).1,(ix.h 4).2),((ix.h 5).1,(ix.h 5).2)]) I I (fun _ _ h=>h)
  ·obtain⟨A,h⟩:=h
   refine dg A I<|aD<|ai<|aY<|dE Ir vU I (df A)<|aV vU ve I fun b2=>bL vU aj I<|aK 7 I<|bO<|aD<|cq h fun r1 q_r1 h=>cq h fun r2 q_r2 h=>?_
   refine eI (ts:=[_,_,_,_,_]) mixed I I
    ⟨ug 7 I I (qN vU I I),
    ⟨ga 26 0 I I (bn T4 (Kh _ q_r1) ⟨(M I),d⟩),
    ⟨ug 3 I I (qN vU I I),
    ⟨ga 28 2 I I (bn T4 (Kh _ q_r2) ⟨(M I),d⟩),
    ⟨fg 27 1 29 3 I I I (fW (M I) (M I)),
    d⟩⟩⟩⟩⟩ ?_
   refine av<|mA h I (fun h=>?_) (fun h=>?_)
   ·exact aY<|dJ<|bZ<|af<|bZ<|ae<|ae<|ae<|ae<|ae<|ae<|ae<|so h▸er I ix I I (fun _ _ h=>h)
   ·refine bk<|cR A hN I ?_;exact aS (ay (ih (i+1) ⟨cM A,h⟩) (bb I))

def Kc c tables{R}(h:jV c tables=some R):jE aZ 24 [H bK c,pE tables] false aP 3 R:=by
 refine jE.of Tryz.func24 I I I fun w0 S0=>aY<|cK I<|cj false aP 3<|Q (cg y6)<|bO<|aY<|cj false aP 3<|Q (cg y6)<|bO<|aT<|aX I<|bW fH I<|Q (bC hI)<|bO<|ai<|aO (k:=10) I fun hN=>?_;refine bp<|ie<|yA ?_;refine ay (jF (h2:=fun ls i out l c1=>(tables.drop i=ls)/\lW c ls out=some R) (Of:=fun _ i out l c1=>[gb aP 3 l c1 out]) (Gf:=fun _ i out l c1=>[(2,bt bK c),(5,sn l c1 out),(10,pE tables),(11,iK tables),(12,bd (i:Int))]) (fun i out l c1 h=>?_) (fun e tl ih i out l c1 h=>?_) tables 0 w9 none 0 ⟨I,h⟩) (bb I)
 ·obtain⟨A,h⟩:=h
  exact dh A I<|av<|aH I<|be I<|so h▸m6 I I
 ·obtain⟨A,h⟩:=h
  refine dg A I<|aD<|ai<|aY<|dE fH cF I (df A)<|bj I<|aY<|ba nk eK vV I<|aX I ?_;refine cq h fun e1 q_e1 h=>uC sF kM I q_e1<|ba kR fY q9 I<|bW p8 I<|Q (bC hI)<|bO<|ai<|aO (k:=21) I fun hN1=>bp ?_;refine ay (jF (h2:=fun ls1 i1 out1 l1 c2=>(e1.Columns.drop i1=ls1)/\o7 (lW c tl) ls1 out1=some R) (Of:=fun _ i1 out1 l1 c2=>[gb aP 3 l1 c2 out1]) (Gf:=fun _ i1 out1 l1 c2=>[(2,bt bK c),(5,sn l1 c2 out1),(10,pE tables),(11,iK tables),(12,bd (i:Int)),(21,fm (cZ) e1.Columns),(22,iK e1.Columns),(23,bd (i1:Int))]) (fun i1 out1 l1 c2 h=>?_) (fun e2 tl1 ih1 i1 out1 l1 c2 h=>?_) e1.Columns 0 out l c1 ⟨I,h⟩) (bb I)
  ·obtain⟨hx1,h⟩:=h
   refine dh hx1 I<|cR A hN I ?_;exact aS (ay (ih (i+1) out1 l1 c2 ⟨cM A,h⟩) (bb I))
  ·obtain⟨hx1,h⟩:=h
   refine dg hx1 I<|aD<|ai<|aY<|dE p8 kl I (df hx1)<|aV kl oq I fun b=>bL kl aj I<|aK 9 I<|bO<|aJ<|aX I<|oK FJ wx I ?_;refine cC cF I<|Q (a8 (r:=aP) (ys:=[e2.Kind]) (xs:=[.tmp 29]) fH cF I I I I I ⟨(M I),d⟩)<|cq h fun out2 q_out2 h=>d8 cF I I I I fH I I (M I) (M I) q_out2 fun l2 c3=>gE I<|bz<|cR hx1 hN1 I ?_;exact aS (ay (ih1 (i1+1) out2 l2 c3 ⟨cM hx1,h⟩) (bb I))
def Kd c tables{R}(h:jV c tables=some R):cI aZ 24 [H bK c,pE tables] (pE R):=(Kc _ _ h).spec

def Wc t name{R}(h:uS t name=some R):cI aZ 150 [H cG t,H rS name] (bd R):=by
 refine dm Tryz.func150 I<|aY<|cK I<|bG<|bO<|aT<|bG<|bO<|ai<|bp ?_;refine ay (sl (h2:=fun n i=>oh t name n i=some R) (Of:=fun i=>[]) (Gf:=fun i=>[(1,H rS name),(2,bt cG t),(5,bd i)]) (fun i h=>nn h) (fun n ih i h=>?_) gi (0:Int) h) (bb I);refine dX<|aT<|aX I<|ba kR fY q9 I<|bW p8 I<|sx I<|bY h I (fun h=>?_) (fun h=>?_)
 ·refine gC<|aD<|ai<|aY<|ba kR fY q9 I<|aX I<|cq h fun e q_e h=>uC p8 kl I q_e<|ba tA lF jG I<|aX I<|Q (fW (M I) (M I))<|bY h I (fun h=>?_) (fun h=>?_)
  ·exact aH I<|be I<|bZ<|af<|bZ<|so h▸aq I I
  ·refine bk<|bq<|av<|aJ<|aX I<|Q (fX (M I) hI)<|gE I<|bz ?_;exact aS (ay (ih (IntKind.i64.wrap (i+(1:Int))) h) (bb I))
 ·exact eY<|aI<|aI<|cW<|av<|aY<|dJ<|so h▸aq I I

def TE(b1:Nat)(ix:OI) b table name{R}(h:jJ b table name=some R):ea aZ 105 [tV (an b1 0),H rS table,H rS name] (kE b1 b ix) (fun _:OI=>tT [bd R.1,bd R.2]) (fun _=>(kE b1 b ix)):=by
 refine ea.of Tryz.func105 I I I fun w0 S0=>?_;refine(show CG _ _ _ [bx (rH bA (z11 ix b)) 137 b1 b,K bg 48 (ix.h 0).1 (ix.h 0).2 b.sources,K aP 3 (ix.h 1).1 (ix.h 1).2 b.out.Tables,K aw 71 (ix.h 2).1 (ix.h 2).2 b.out.Joins,K aP 3 (ix.h 3).1 (ix.h 3).2 b.out.Keys,K aN 73 (ix.h 4).1 (ix.h 4).2 b.out.Aggs,K ac 62 (ix.h 5).1 (ix.h 5).2 b.out.Items] _ from ?_);refine aY<|bG<|bG<|bO<|aY<|bG<|bG<|bG<|bO<|aT<|aX I<|Q (bl (M I))<|bv 1 FI I<|Q (cP OY I (.head _) (.tail _ (.head _)) (M I))<|Q (fN Ir (kB (M I)))<|Q (bC hI)<|bO ?_;refine ai<|Jr<|vk 18 I<|aO (k:=18) I fun hN=>bp<|ic<|ic<|ic<|ic<|ic<|vi<|ic ?_;refine ay (jF (h2:=fun ls i found many first=>(b.sources.drop i=ls)/\fe b table name ls i found many first=some R) (Of:=fun _ i found many first=>[bx (rH bA (z11 ix b)) 137 b1 b,K bg 48 (ix.h 0).1 (ix.h 0).2 b.sources,K aP 3 (ix.h 1).1 (ix.h 1).2 b.out.Tables,K aw 71 (ix.h 2).1 (ix.h 2).2 b.out.Joins,K aP 3 (ix.h 3).1 (ix.h 3).2 b.out.Keys,K aN 73 (ix.h 4).1 (ix.h 4).2 b.out.Aggs,K ac 62 (ix.h 5).1 (ix.h 5).2 b.out.Items]) (Gf:=fun _ i found many first=>[(0,tV (an b1 0)),(1,H rS table),(2,H rS name),(8,bd found),(9,bd many),(10,bd first),(18,fm (bg) b.sources),(19,iK b.sources),(20,bd (i:Int))]) (fun i found many first h=>?_) (fun e tl ih i found many first h=>?_) b.sources 0 (0:Int) (0:Int) (0:Int) ⟨I,h⟩) (bb I)
 ·obtain⟨A,h⟩:=h
  refine dh A I<|av<|aT<|aX I<|bO<|ai<|aY<|dw I<|gE I ?_;refine bY h I (fun h=>?_) (fun h=>?_)
  ·exact aY<|bG<|dJ<|bZ<|ae<|ae<|ae<|ae<|ae<|ae<|ae<|so h▸c0 (ts:=[bd 0,bd 222]) (rvs:=[.tmp 6,.tmp 7]) I I ⟨bE I,bE I,d⟩ oF I I
  ·refine aY<|dw I<|bj I<|mA h I (fun h=>?_) (fun h=>?_)
   ·exact aH I<|gE I<|dJ<|bZ<|ae<|ae<|ae<|ae<|ae<|ae<|ae<|so h▸c0 (ts:=[bd found,bd 0]) (rvs:=[.tmp 6,.tmp 7]) I I ⟨bE I,bE I,d⟩ oF I I
   ·exact bk<|bq<|av<|aY<|bG<|dJ<|ae<|ae<|ae<|ae<|ae<|ae<|ae<|so h▸c0 (ts:=[bd 0,bd 223]) (rvs:=[.tmp 6,.tmp 7]) I I ⟨bE I,bE I,d⟩ oF I I
 ·obtain⟨A,h⟩:=h
  refine dg A I<|aD<|ai<|aH I<|dE Ir vU I (df A)<|aV vU ve I fun b2=>gE I<|bL vU aj I<|aK 12 I<|bO<|aD ?_;refine cq h fun e1 q_e1 h=>cq h fun e2 q_e2 h=>?_
  refine ek 16 [tc (tV (an b1 0)),tc (tV (an b1 0)),tc (tV (an b1 0)),tc (tV (an b1 0)),tc (fm (cG) b.c.Tables),tc (tV (an b1 0)),tc (tV (an b1 0)),tc (tV (an b1 2)),tc (tV (an b1 2)),tc (tO aP (ix.h 1).1 (ix.h 1).2 b.out.Tables),tc (bd (i:Int)),tc (bt aP e1),tc (bd e1),tc (bt cG e2),tc (H cG e2),([15],fun s=>tV (an ((s.getD 0 oF).h 0).2 0))] [false,false,false,false,false,false,false,false,false,false,false,false,false,false,false,true] [fun _=>[bx (rH bA (z11 ix b)) 137 b1 b,K bg 48 (ix.h 0).1 (ix.h 0).2 b.sources,K aP 3 (ix.h 1).1 (ix.h 1).2 b.out.Tables,K aw 71 (ix.h 2).1 (ix.h 2).2 b.out.Joins,K aP 3 (ix.h 3).1 (ix.h 3).2 b.out.Keys,K aN 73 (ix.h 4).1 (ix.h 4).2 b.out.Aggs,K ac 62 (ix.h 5).1 (ix.h 5).2 b.out.Items],fun sg=>[bx cG 110 ((sg 15).h 0).2 (⟨[],[],[]⟩:ce),bx (rH bA (z11 ix b)) 137 b1 b,K bg 48 (ix.h 0).1 (ix.h 0).2 b.sources,K aP 3 (ix.h 1).1 (ix.h 1).2 b.out.Tables,K aw 71 (ix.h 2).1 (ix.h 2).2 b.out.Joins,K aP 3 (ix.h 3).1 (ix.h 3).2 b.out.Keys,K aN 73 (ix.h 4).1 (ix.h 4).2 b.out.Aggs,K ac 62 (ix.h 5).1 (ix.h 5).2 b.out.Items]] I mixed I I I I I
   ⟨⟨[⟨0,fun _=>tV (an b1 0),none⟩],_,0,1,I,⟨(fun _=>I),d⟩,I,I,I,I,I,fun _ sg _ _=>aa I (gH I)⟩,
   ⟨⟨[⟨25,fun _=>tV (an b1 0),some 0⟩],_,0,1,I,⟨(fun _=>I),d⟩,I,I,I,I,I,fun _ sg _ _=>aa I (bl (M I))⟩,
   ⟨⟨[⟨26,fun _=>tV (an b1 0),some 1⟩],_,0,1,I,⟨(fun _=>I),d⟩,I,I,I,I,I,fun _ sg _ _=>aa I (lv 0 wz I I I)⟩,
   ⟨⟨[⟨27,fun _=>tV (an b1 0),some 2⟩],_,0,1,I,⟨(fun _=>I),d⟩,I,I,I,I,I,fun _ sg _ _=>aa I (lv 0 nk I I I)⟩,
   ⟨⟨[⟨28,fun _=>tV (an b1 0),some 3⟩],_,0,1,I,⟨(fun _=>I),d⟩,I,I,I,I,I,um (fun sg=>aa I (bB (r:=rH bA (z11 ix b)) (x:=b) vV I I (nD (fq mH eK)) (.head _) (M I))) (fK (fun sg=>aa I (bB (r:=rH bA (z11 ix b)) (x:=b) vV I I (nD (fq mH eK)) (.tail _ (.head _)) (M I))))⟩,
   ⟨⟨[⟨0,fun _=>tV (an b1 0),none⟩],_,0,1,I,⟨(fun _=>I),d⟩,I,I,I,I,I,fun _ sg _ _=>aa I (gH I)⟩,
   ⟨⟨[⟨30,fun _=>tV (an b1 0),some 5⟩],_,0,1,I,⟨(fun _=>I),d⟩,I,I,I,I,I,fun _ sg _ _=>aa I (bl (M I))⟩,
   ⟨⟨[⟨31,fun _=>tV (an b1 0),some 6⟩],_,0,1,I,⟨(fun _=>I),d⟩,I,I,I,I,I,fun _ sg _ _=>aa I (lv 2 eW I I I)⟩,
   ⟨⟨[⟨32,fun _=>tV (an b1 2),some 7⟩],_,0,1,I,⟨(fun _=>I),d⟩,I,I,I,I,I,fun _ sg _ _=>aa I (lv 2 pu I I I)⟩,
   ⟨⟨[⟨33,fun _=>tV (an b1 2),some 8⟩],_,0,1,I,⟨(fun _=>I),d⟩,I,I,I,I,I,um (fun sg=>aa I (cP fL I (.head _) (.tail _ (.tail _ (.head _))) (M I))) (fK (fun sg=>aa I (cP fL I (.tail _ (.head _)) (.tail _ (.tail _ (.tail _ (.head _)))) (M I))))⟩,
   ⟨⟨[⟨11,fun _=>H aP (i:Int),none⟩],_,0,1,I,⟨(fun _=>I),d⟩,I,I,I,I,I,fun _ sg _ _=>aa I (gH I)⟩,
   ⟨⟨[⟨34,fun _=>tO aP (ix.h 1).1 (ix.h 1).2 b.out.Tables,some 9⟩,⟨35,fun _=>H aP (i:Int),some 10⟩],_,0,1,I,⟨(fun _=>I),(fun _=>I),d⟩,I,I,I,I,I,fun _ sg _ _=>aa I (ev fH cF I (kB (M I)) (M I) q_e1)⟩,
   ⟨⟨[⟨36,fun _=>bt aP e1,some 11⟩],_,0,1,I,⟨(fun _=>I),d⟩,I,I,I,I,I,fun _ sg _ _=>aa I (qN cF I I)⟩,
   ⟨⟨[⟨29,fun _=>H (eO cG) b.c.Tables,some 4⟩,⟨37,fun _=>H aP e1,some 12⟩],_,0,1,I,⟨(fun _=>I),(fun _=>I),d⟩,I,I,I,I,I,fun _ sg _ _=>aa I (Cc sF kM I I I q_e2)⟩,
   ⟨⟨[⟨38,fun _=>bt cG e2,some 13⟩],_,0,1,I,⟨(fun _=>I),d⟩,I,I,I,I,I,fun _ sg _ _=>aa I (qN kM I I)⟩,
   ⟨⟨[],_,I,d,I,I,I,fun sg=>bS I (oB kM zd)⟩,
   d⟩⟩⟩⟩⟩⟩⟩⟩⟩⟩⟩⟩⟩⟩⟩⟩ (fun sg=>?_)
  refine(show RG _ _ _ _ [_,_,_,_,_,_,_,_] _ from ?_);refine bL kM aj I<|aK 13 I<|bO<|aY<|cC kM I<|aX I<|eo h abp (Wc _ _) (dd I) fun r h=>bj I ?_;refine xD (h2:=fun found1 many1=>g9 (fe b table name tl) i first e2 found1 many1=some R) (Of:=fun found1 many1=>[bx (rH bA (z11 ix b)) 137 b1 b,K bg 48 (ix.h 0).1 (ix.h 0).2 b.sources,K aP 3 (ix.h 1).1 (ix.h 1).2 b.out.Tables,K aw 71 (ix.h 2).1 (ix.h 2).2 b.out.Joins,K aP 3 (ix.h 3).1 (ix.h 3).2 b.out.Keys,K aN 73 (ix.h 4).1 (ix.h 4).2 b.out.Aggs,K ac 62 (ix.h 5).1 (ix.h 5).2 b.out.Items]) (Gf:=fun found1 many1=>[(0,tV (an b1 0)),(1,H rS table),(2,H rS name),(8,bd found1),(9,bd many1),(10,bd first),(13,bt cG e2),(18,fm (bg) b.sources),(19,iK b.sources),(20,bd (i:Int))]) (fun found1 many1 h=>?_) (fun ax=>?_)
  ·skip
   refine aJ<|aX I<|ba kR fY q9 I<|bW p8 I<|Q (fX (M I) (M I))<|gE I<|bz<|cR A hN I ?_;exact aS (ay (ih (i+1) found1 many1 (IntKind.i64.wrap (first+(e2.Columns.length:Int))) ⟨cM A,h⟩) (bb I))
  ·skip
   refine aH I<|Q (fh (M I) hI)<|aX I<|cq h fun t q_t h=>ap I (da I)<|ap I (fun D=>fW (bF I D) hS)<|ap I (q7 I) ?_
   obtain⟨t1,h1t,h0t⟩:=og q_t
   have q_t1g:=fun Y=>(h1t Y).1
   refine ft I I I I (fun D=>gH I)<|ft I I I I (fun D=>qN vU I I) ?_
   obtain⟨r1,h1t1,h0t1⟩:=Yd q_t1g
   have q_r1g:=fun Y=>(h1t1 Y).1
   refine ft I I I I (fun D=>bn T4 (Kh _ (q_r1g D)) ⟨(bF I D),d⟩)<|ft I I I I (fun D=>fW (bF I D) (bF I D))<|ap I (fun D=>cV (bF I D) (fun Y=>(bF I (si D (nR Y)))) (fun Y=>(h1t1 (si D Y)).2) (fun Y=>h0t1 D Y))<|Q (bJ (M I) (fun Y=>(bF I Y)) (fun Y=>(h1t Y).2) h0t)<|bY h I (fun h=>?_) (fun h=>?_)
   ·refine aH I<|aX I<|Q (fX (M I) (M I))<|bj I<|aJ<|aX I<|Q (fX (M I) hI)<|gE I<|bz ?_;exact cm (ax (IntKind.i64.wrap (first+r)) (IntKind.i64.wrap (many+(1:Int))) h) (bb I)
   ·refine bk ?_;exact cm (ax found many h) (bb I)

def At root l{R}(h:gA root l=some R):cI aZ 106 [H br root,fm (ac) l] (H ac R):=by
 refine dm Tryz.func106 I<|aY<|AB (M I) I fun b=>aV bD cQ I fun b1=>bO<|aY<|cj true br 106<|aV (r:=ot) (x:=pP tk (J none 0 (([]:List aC).length))) bD Qq I fun b2=>bO<|aY<|bv 1 oW I<|kh<|mw cF I vq I (M I) hI<|bv 2 nX I<|mw cF I vp I (M I) hI<|bO<|aD<|aD ?_;refine aJ<|aX I<|bW mX I<|Q (bC hI)<|bO<|ai<|aO (k:=13) I fun hN=>bp<|ki<|ki<|rm<|rm ?_;refine ay (Dq (h2:=fun ls i root1 out l1 c=>(l.drop i=ls)/\iD ls i root1 out=some R) (Of:=fun _ i root1 out l1 c=>[bx br 106 b root1,bx ac 62 b1 tk,bx ot 62 b2 (pP out (J l1 c out.Nodes.length)),K br 106 l1 c out.Nodes]) (Gf:=fun _ i root1 out l1 c=>[(2,tV (an b 0)),(4,tV (an b1 0)),(5,tV (an b2 0)),(13,fm (ac) l),(14,iK l),(15,bd (i:Int))]) (fun i root1 out l1 c h=>?_) (fun e tl ih i root1 out l1 c h=>?_) l 0 (aC.mk root.Tag mi mi root.Col root.Value) ({tk with Nodes:=([]:List aC)}:aW) none 0 ⟨I,h⟩) (bb I)
 ·obtain⟨A,h⟩:=h
  refine dh A I<|av<|aY<|bv 0 j4 I<|Q (pO sv t8 (.tail _ (.tail _ (.head _))) (.tail _ (.tail _ (.tail _ (.head _)))) I (M I))<|Q (bB eJ I I cD (.head _) (M I))<|Q (a8 (r:=br) (ys:=[root1]) (xs:=[.tmp 68]) mz eJ I I I I I ⟨(M I),d⟩)<|kh<|cq h fun l2 q_l2 h=>me eJ I I I I mz I I (M I) (M I) q_l2 fun l3 c1=>bv 0 j4 I<|kh ?_;exact iR sv I (uD out _ _) I (M I) (Pw (tQ (M I)))<|bO<|aY<|dW<|Q (qS (q:=ac) (y:=({out with Nodes:=l2}:aW)) bD I I I I (.tail _ (.head _)) (fun _ _ _ ho h=>Ho (rN ho (.head _)) h) (M I))<|kh<|bL bD aj I<|aK 4 I<|cw<|aM<|aM<|aM<|so h▸sm I bD I I I
 ·obtain⟨A,h⟩:=h
  refine dg A I<|aD<|ai<|aH I<|dE mX bD I (df A)<|aV bD cQ I fun b3=>gE I<|bL bD aj I<|aK 7 I<|bO<|aD ?_;refine aJ<|bv 0 j4 I<|Q (pO sv t8 (.tail _ (.tail _ (.head _))) (.tail _ (.tail _ (.tail _ (.head _)))) I (M I))<|Q (fN mz (kB (M I)))<|bj I<|aT<|ba j4 gn sv I<|bW mz I<|Q (bC hI)<|bO<|ai<|aO (k:=24) I fun hN1=>bp ?_;refine ay (jF (h2:=fun ls1 i1 out1 l4 c2=>(e.Nodes.drop i1=ls1)/\eU (iD tl) i root1 out ls1 out1=some R) (Of:=fun _ i1 out1 l4 c2=>[bx br 106 b root1,bx ac 62 b1 tk,bx ot 62 b2 (pP out1 (J l4 c2 out1.Nodes.length)),K br 106 l4 c2 out1.Nodes]) (Gf:=fun _ i1 out1 l4 c2=>[(2,tV (an b 0)),(4,tV (an b1 0)),(5,tV (an b2 0)),(6,bd (i:Int)),(8,iK out.Nodes),(13,fm (ac) l),(14,iK l),(15,bd (i:Int)),(24,fm (br) e.Nodes),(25,iK e.Nodes),(26,bd (i1:Int))]) (fun i1 out1 l4 c2 h=>?_) (fun e1 tl1 ih1 i1 out1 l4 c2 h=>?_) e.Nodes 0 out l1 c ⟨I,h⟩) (bb I)
  ·obtain⟨hx1,h⟩:=h
   refine dh hx1 I<|av<|aH I<|dw I<|bY h I (fun h=>?_) (fun h=>?_)
   ·refine aJ<|bv 0 j4 I<|Q (pO sv t8 (.tail _ (.tail _ (.head _))) (.tail _ (.tail _ (.tail _ (.head _)))) I (M I))<|Q (fN mz (kB (M I)))<|Q (fv (M I) hI)<|bv 1 oW I<|bL cF vq I<|bz<|cR A hN I ?_;exact aS (ay (ih (i+1) (aC.mk root1.Tag (IntKind.i64.wrap ((out1.Nodes.length:Int)-(1:Int))) root1.R root1.Col root1.Value) out1 l4 c2 ⟨cM A,h⟩) (bb I))
   ·refine aJ<|bv 0 j4 I<|Q (pO sv t8 (.tail _ (.tail _ (.head _))) (.tail _ (.tail _ (.tail _ (.head _)))) I (M I))<|Q (fN mz (kB (M I)))<|Q (fv (M I) hI)<|bv 2 nX I<|bL cF vp I<|bz<|cR A hN I ?_;exact aS (ay (ih (i+1) (aC.mk root1.Tag root1.L (IntKind.i64.wrap ((out1.Nodes.length:Int)-(1:Int))) root1.Col root1.Value) out1 l4 c2 ⟨cM A,h⟩) (bb I))
  ·obtain⟨hx1,h⟩:=h
   refine dg hx1 I<|aD<|ai<|aY<|dE mz eJ I (df hx1)<|aV eJ iS I fun b4=>bL eJ aj I<|bO ?_;refine ig (h2:=fun n=>tp out (eU (iD tl) i root1 out tl1) out1 n=some R) (Of:=fun n=>[bx br 106 b root1,bx ac 62 b1 tk,bx br 106 b4 n,bx ot 62 b2 (pP out1 (J l4 c2 out1.Nodes.length)),K br 106 l4 c2 out1.Nodes]) (Gf:=fun n=>[(2,tV (an b 0)),(4,tV (an b1 0)),(5,tV (an b2 0)),(6,bd (i:Int)),(8,iK out.Nodes),(10,tV (an b4 0)),(13,fm (ac) l),(14,iK l),(15,bd (i:Int)),(24,fm (br) e.Nodes),(25,iK e.Nodes),(26,bd (i1:Int))]) (fun n h=>?_) (fun ax=>?_)
   ·skip
    refine ig (h2:=fun n1=>qn (eU (iD tl) i root1 out tl1) out1 n1=some R) (Of:=fun n1=>[bx br 106 b root1,bx ac 62 b1 tk,bx br 106 b4 n1,bx ot 62 b2 (pP out1 (J l4 c2 out1.Nodes.length)),K br 106 l4 c2 out1.Nodes]) (Gf:=fun n1=>[(2,tV (an b 0)),(4,tV (an b1 0)),(5,tV (an b2 0)),(6,bd (i:Int)),(8,iK out.Nodes),(10,tV (an b4 0)),(13,fm (ac) l),(14,iK l),(15,bd (i:Int)),(24,fm (br) e.Nodes),(25,iK e.Nodes),(26,bd (i1:Int))]) (fun n1 h=>?_) (fun K1=>?_)
    ·skip
     refine aJ<|bv 0 j4 I<|Q (pO sv t8 (.tail _ (.tail _ (.tail _ (.head _)))) (.tail _ (.tail _ (.tail _ (.tail _ (.head _))))) I (M I))<|Q (bB eJ I I cD (.tail _ (.tail _ (.head _))) (M I))<|Q (a8 (r:=br) (ys:=[n1]) (xs:=[.tmp 48]) mz eJ I I I I I ⟨(M I),d⟩)<|p5<|cq h fun l5 q_l5 h=>me eJ I I I I mz I I (M I) (M I) q_l5 fun l6 c3=>bv 0 j4 I<|p5<|iR sv I (uD out1 _ _) I (M I) (Pw (tQ (M I)))<|bz<|cR hx1 hN1 I<|eb<|aM<|dM<|dM<|kj<|kj ?_;exact aS (ay (ih1 (i1+1) ({out1 with Nodes:=l5}:aW) l6 c3 ⟨cM hx1,h⟩) (bb I))
    ·skip
     refine aY<|bv 2 nX I<|Q (bB cF I I mb (.tail _ (.tail _ (.head _))) (M I))<|Q (fh (M I) hI)<|bY h I (fun h=>?_) (fun h=>?_)
     ·refine aJ<|bv 2 nX I<|Q (bB cF I I mb (.tail _ (.tail _ (.head _))) (M I))<|aX I<|Q (fX (M I) (M I))<|bv 2 nX I<|ib<|bL cF vp I<|bz<|eb<|eb<|gu<|eb<|eb ?_;exact cm (K1 (aC.mk n.Tag n.L (IntKind.i64.wrap (n.R+(out.Nodes.length:Int))) n.Col n.Value) h) (bb I)
     ·refine bk ?_;exact cm (K1 n h) (bb I)
   ·skip
    refine aY<|bv 1 oW I<|Q (bB cF I I mQ (.head _) (M I))<|Q (fh (M I) hI)<|bY h I (fun h=>?_) (fun h=>?_)
    ·refine aJ<|bv 1 oW I<|Q (bB cF I I mQ (.head _) (M I))<|aX I<|Q (fX (M I) (M I))<|bv 1 oW I<|bL cF vq I<|bz<|eb<|eb<|gu<|eb<|eb ?_;exact cm (ax (aC.mk e1.Tag (IntKind.i64.wrap (e1.L+(out.Nodes.length:Int))) e1.R e1.Col e1.Value) h) (bb I)
    ·refine bk<|eb<|eb<|gu<|eb<|eb ?_;exact cm (ax e1 h) (bb I)

end Go.Proofs.YthbdkceckjihgaaGreatDoor

