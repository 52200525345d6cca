import Derived.Test.YtdohlidddcgfjaaGreatFgT
import Derived.Test.YtdohlidddcgfjaaGreatFgP3
set_option linter.all false
namespace Go.Proofs.YtdohlidddcgfjaaGreat
open Go IntKind Tryz EffOK
set_option maxRecDepth 100000
def acz(b:Nat)(ix:OI) l{R}(h:gn l=some R):bU bt 167 [Q (M b 0)] (gx b l ix) (fun _:OI=>fU R.1) (fun j=>gx b R.2 j):=by
 refine bU.of func167 J J J fun w0 S0=>?_;refine(show CG _ _ _ [s (rH ce [(1,aI (ix.h 0).1 (ix.h 0).2 l.g'.length),(2,aI (ix.h 1).1 (ix.h 1).2 l.m'.length)]) 168 b l,lP oH 69 (ix.h 0).1 (ix.h 0).2 l.g',d5 cj 3 (ix.h 1).1 (ix.h 1).2 l.m'] _ from ?_);refine O<|bo<|bC<|aw J<|X (aL (D J))<|aR 3 js J<|X (aA (r:=rH ce [(1,aI (ix.h 0).1 (ix.h 0).2 l.g'.length),(2,aI (ix.h 1).1 (ix.h 1).2 l.m'.length)]) (x:=l) dL J J (eF ij) (.head _) (D J))<|bD dL jd J fun b1=>be dL aq J<|bj 3 J<|bC<|O<|aU kp fv cV J<|bX eh J<|X (ft (D J) hI)<|Z J<|ac J (bu iS d6 J J) ?_;refine ac J (bp qT J J)<|ac J (hM ny J)<|ac J (fun Y=>ft (bg J Y) hI)<|cm J<|Z J<|ac J (bu kp fv J J)<|ac J (bp cV J J)<|ac J (hM eh J)<|ac J (bu iS d6 J J)<|ac J (bp qT J J)<|ac J (hM ny J)<|ac J (fun Y=>cU (bg J Y) (bg J Y))<|ac J (fun Y=>d8 (bg J Y) hI)<|cm J<|aK J<|aw J<|X (aL (D J))<|aR 17 iE J<|cn false cj 3<|bf ?_;refine gi cV J (wQ (hs' :=[(1,aI (ix.h 0).1 (ix.h 0).2 l.g'.length),(2,aI (ix.h 1).1 (ix.h 1).2 l.m'.length)]) (nM _ _) ⟨.inr ⟨J,J⟩,.inr ⟨J,J⟩,aV⟩ J) J (D J) (Fb (show bk _ _ _ (Q CN)from vk)) ?_;refine(show RG _ _ _ _ [_,_,_,_] _ from ?_);refine bC<|aN<|aU kp fv cV J<|bX eh J<|X (cB hI)<|bC<|ak<|bJ (k:=40) J fun hN=>bK<|fT<|gB<|gB<|gB ?_;refine aM (yY (aH:=fun ls i ob l1 c l2 c1 l3 c2=>(l.n.v'.drop i=ls)/\eW l ls ob=some R) (Of:=fun _ i ob l1 c l2 c1 l3 c2=>[s (rH dh [(1,aI l1 c ob.g'.length),(2,aI l2 c1 ob.m'.length)]) 168 b (dy ob (aI l3 c2 ob.j'.length)),lP oH 69 l1 c ob.g',d5 cj 3 l2 c1 ob.m',d5 cj 3 l3 c2 ob.j']) (Gf:=fun _ i ob l1 c l2 c1 l3 c2=>[(0,Q (M b 0)),(3,da aQ l.n),(4,fU (((decide ((l.n.v'.length:Int)<=3))&&(decide ((l.n.u'.length:Int)<=12)))&&(decide (0<(i64.wrap ((l.n.v'.length:Int)+(l.n.u'.length:Int))))))),(40,lk l.n.v'),(41,mR l.n.v'),(42,bI (i:Int))]) (fun i ob l1 c l2 c1 l3 c2 h=>?_) (fun e tl ih i ob l1 c l2 c1 l3 c2 h=>?_) l.n.v' 0 ({l with j':=y6}:aE) (ix.h 0).1 (ix.h 0).2 (ix.h 1).1 (ix.h 1).2 none 0 ⟨J,h⟩) (aX J)
 ·obtain⟨K,h⟩:=h;refine gk K J<|an<|aN<|aU iS d6 qT J<|bX ny J<|X (cB hI)<|bC<|ak<|bJ (k:=75) J fun hN1=>?_;refine bK ?_;refine aM (EF (aH:=fun ls1 i1 ok F' l4 c3 l5 c4 l6 c5=>(l.n.u'.drop i1=ls1)/\du ls1 ok F'=some R) (Of:=fun _ i1 ok F' l4 c3 l5 c4 l6 c5=>[s (rH dh [(1,aI l4 c3 F'.g'.length),(2,aI l5 c4 F'.m'.length)]) 168 b (dy F' (aI l6 c5 F'.j'.length)),lP oH 69 l4 c3 F'.g',d5 cj 3 l5 c4 F'.m',d5 cj 3 l6 c5 F'.j']) (Gf:=fun _ i1 ok F' l4 c3 l5 c4 l6 c5=>[(0,Q (M b 0)),(4,fU ok),(75,ek (eO) l.n.u'),(76,mR l.n.u'),(77,bI (i1:Int))]) (fun i1 ok F' l4 c3 l5 c4 l6 c5 h=>?_) (fun e1 tl1 ih1 i1 ok F' l4 c3 l5 c4 l6 c5 h=>?_) l.n.u' 0 (((decide ((l.n.v'.length:Int)<=3))&&(decide ((l.n.u'.length:Int)<=12)))&&(decide (0<(i64.wrap ((l.n.v'.length:Int)+(l.n.u'.length:Int)))))) ob l1 c l2 c1 l3 c2 ⟨J,h⟩) (aX J)
  ·obtain⟨l_,h⟩:=h;refine gk l_ J<|an<|aw J<|ba J<|aZ<|dE<|ap<|yz (r' :=rH ce [(1,aI l4 c3 F'.g'.length),(2,aI l5 c4 F'.m'.length)]) (x' :=F') (fun _ _ _ ho h=>XF h (fun h=>j9 (f7 ho (.head _)) h)) ?_;exact ap<|aF<|aP<|aP<|aP<|so h▸ci J (y7 [(l4,c3),(l5,c4)]) J J (fun _ _ h=>h)
  ·obtain⟨l_,h⟩:=h;refine gj l_ J<|aS<|ak<|O<|eE ny jt J (fh l_)<|bD jt wJ J fun b2=>be jt aq J<|bj 8 J<|bC<|O<|bP ?_;refine bC ?_;refine u7 (aH:=fun ok1 k=>gy (du tl1) F' ok1 k=some R) (Of:=fun ok1 k=>[s (rH dh [(1,aI l4 c3 F'.g'.length),(2,aI l5 c4 F'.m'.length)]) 168 b (dy F' (aI l6 c5 F'.j'.length)),lP oH 69 l4 c3 F'.g',d5 cj 3 l5 c4 F'.m',d5 cj 3 l6 c5 F'.j']) (Gf:=fun ok1 k=>[(0,Q (M b 0)),(4,fU ok1),(9,bI k),(75,ek (eO) l.n.u'),(76,mR l.n.u'),(77,bI (i1:Int))]) (fun ok1 k h=>?_) (fun hx=>?_)
   ·skip;refine ai<|Z J<|Z J<|X (aL (D J))<|aR 17 iE J<|X (oT cV (eF nT) (.head _) J (D J))<|Z J<|X (aT (r:=cj) (ys:=[k]) (xs:=[.tmp 139]) eh bH J J J J J ⟨(D J),aV⟩)<|dI<|bR h fun l7 q_l7 h=>bA bH J J J J eh J J (D J) (D J) q_l7 fun l8 c6=>X (aL (D J))<|aR 17 iE J<|bf<|gi cV J (wQ (hs' :=[(1,aI l4 c3 F'.g'.length),(2,aI l5 c4 F'.m'.length)]) (kc _ _ _) ⟨.inr ⟨J,J⟩,.inr ⟨J,J⟩,aV⟩ J) J (D J) (Fb (D J)) ?_;refine(show RG _ _ _ _ [_,_,_,_] _ from ?_);refine aJ<|eN l_ hN1 J<|ap<|aZ<|aZ<|aZ ?_;exact aY (aM (ih1 (i1+1) ok1 ({F' with j':=l7}:aE) l4 c3 l5 c4 l8 c6 ⟨ei l_,h⟩) (aX J))
   ·skip;refine O<|aU kz je bH J<|bl J<|bV h J (fun h=>?_) (fun h=>?_)
    ·refine ai<|Z J<|Z J<|ac J (bu sm oX J J)<|ac J (fun Y=>eg ia J fD J (bg J Y))<|ac J (bp pO J J)<|ac J (hM mo J)<|ac J (iq J)<|cm J<|dM J<|aJ ?_;exact bE (hx (ok&&((e1.Arg.i'.length:Int)==0)) 2 h) (aX J)
    ·refine aS<|bR h fun r q_ h=>?_;refine ga (ts:=[_,_,_,_,_,_,_,_,_,_,_,_]) mixed J J
      ⟨Dm 8 J J (sP sm oX J J),
      ⟨kF 0 hY J J,
      ⟨fc J J,
      ⟨eS 95 2 J J (aL (D J)),
      ⟨eS 96 3 J J (pL 15 li J J J),
      ⟨eS 97 4 J J (aA (r:=rH dh [(1,aI l4 c3 F'.g'.length),(2,aI l5 c4 F'.m'.length)]) (x:=dy F' (aI l6 c5 F'.j'.length)) cV J J (eF mG) (.head _) (D J)),
      ⟨fR 94 1 98 5 J J J (cC Sw (GI _ _ q_) ⟨(D J),(D J),aV⟩),
      ⟨eS 99 6 J J (ki J),
      ⟨eS 92 7 J J (GW J J),
      ⟨eS 92 7 J J (GW J J),
      ⟨eS 100 8 J J (CO J),
      ⟨eS 101 9 J J (CO J),
      aV⟩⟩⟩⟩⟩⟩⟩⟩⟩⟩⟩⟩ ?_
     refine an<|aw J<|Z J<|ac J (ca J)<|ac J (iq J)<|cm J<|Z J<|ac J (bu kz je J J)<|ac J (bp bH J J)<|ac J (fun Y=>d8 (bg J Y) hI)<|cm J<|Z J<|ac J (bu kz je J J)<|ac J (bp bH J J)<|ac J (fun Y=>ft (bg J Y) hI)<|cm J<|aK J<|O<|qX kz je J ?_;refine eb bH J<|bC<|ak<|O<|bl J<|aK J<|fz h J (fun h=>?_) (fun h=>?_)
     ·refine ai<|Z J<|Z J<|ac J (ca J)<|ac J (iq J)<|ac J (ov J)<|cO J J J J (fun Y=>ki J)<|cO J J J J (fun Y=>dW (bg J Y) hI)<|ac J (fun Y=>ke (bg J Y) (fun V=>(bg J (ub Y (sL V)))))<|cm J<|dM J<|aJ<|ah ?_;exact bE (hx ((((ok&&(r.2==0))&&(decide (1<e1.Tag)))&&(decide (e1.Tag<=5)))&&((r.1==2)||(r.1==0))) 2 h) (aX J)
     ·refine dP (aH:=fun x=>ju (du tl1) e1 ok F' r x=some R) (Of:=fun x=>[s (rH dh [(1,aI l4 c3 F'.g'.length),(2,aI l5 c4 F'.m'.length)]) 168 b (dy F' (aI l6 c5 F'.j'.length)),lP oH 69 l4 c3 F'.g',d5 cj 3 l5 c4 F'.m',d5 cj 3 l6 c5 F'.j']) (Gf:=fun x=>[(0,Q (M b 0)),(4,fU (((ok&&(r.2==0))&&(decide (1<e1.Tag)))&&(decide (e1.Tag<=5)))),(9,bI 2),(10,bI r.1),(75,ek (eO) l.n.u'),(76,mR l.n.u'),(77,bI (i1:Int)),(130,fU x)]) (fun x h=>?_) (fun K1=>?_)
      ·skip;refine fz h J (fun h=>?_) (fun h=>?_)
       ·refine ai<|Z J<|dM J<|aJ<|ah ?_;exact bE (hx (((ok&&(r.2==0))&&(decide (1<e1.Tag)))&&(decide (e1.Tag<=5))) r.1 h) (aX J)
       ·refine aW<|ah ?_;exact bE (hx (((ok&&(r.2==0))&&(decide (1<e1.Tag)))&&(decide (e1.Tag<=5))) 2 h) (aX J)
      ·skip;refine O<|bl J<|aK J<|fz h J (fun h=>?_) (fun h=>?_)
       ·refine aW ?_;exact bE (K1 (e1.Tag==4) h) (aX J)
       ·refine ai<|bl J<|dM J<|aJ ?_;exact bE (K1 (e1.Tag==5) h) (aX J)
 ·obtain⟨K,h⟩:=h;refine gj K J<|aS<|ak<|O<|eE eh bH J (fh K)<|aK J<|aN<|Z J<|X (eC (D J) hI) ?_;refine Z J<|aB J (ca J)<|aB J (ca J)<|aB J (fun Y=>aL (bg J Y))<|aB J (fun Y=>bY (n:=15) li J (bg J Y) J)<|aB J (fun Y=>aA (r:=rH dh [(1,aI l1 c ob.g'.length),(2,aI l2 c1 ob.m'.length)]) (x:=dy ob (aI l3 c2 ob.j'.length)) cV J J (eF mG) (.head _) (bg J Y))<|aB J (hM eh J)<|aB J (fun Y=>d9 (bg J Y) (bg J Y))<|dG J<|bV h J (fun h=>?_) (fun h=>?_)
  ·exact O<|bo<|bF<|ae<|cF<|ae<|cF<|aZ<|dE<|ap<|yz (r' :=rH ce [(1,aI l1 c ob.g'.length),(2,aI l2 c1 ob.m'.length)]) (x' :=ob) (fun _ _ _ ho h=>XF h (fun h=>j9 (f7 ho (.head _)) h))<|ap<|aF<|aP<|aP<|aP<|so h▸ci J (y7 [(l1,c),(l2,c1)]) J J (fun _ _ h=>h)
  ·refine fy<|bR h fun e2 I_ h=>bR h fun l9 q_l9 h=>?_;refine jK 14 [tc (Q (M b 0)),tc (Q (M b 0)),tc (Q (M b 0)),tc (Q (M b 17)),tc (oI l3 c2 ob.j'),tc (Q (M b 0)),tc (Q (M b 0)),tc (Q (M b 15)),tc (lk ob.a_),tc (bI e),tc (da cj e2),tc (bI e2),tc (lk ([e2])),([13],fun bx=>Q (aI ((bx.getD 0 fe).h 0).1 ((bx.getD 0 fe).h 0).2 l9.length))] [false,false,false,false,false,false,false,false,false,false,false,false,false,true] [fun _=>[s (rH dh [(1,aI l1 c ob.g'.length),(2,aI l2 c1 ob.m'.length)]) 168 b (dy ob (aI l3 c2 ob.j'.length)),lP oH 69 l1 c ob.g',d5 cj 3 l2 c1 ob.m',d5 cj 3 l3 c2 ob.j'],fun sg=>[d5 cj 3 ((sg 13).h 0).1 ((sg 13).h 0).2 l9,s (rH dh [(1,aI l1 c ob.g'.length),(2,aI l2 c1 ob.m'.length)]) 168 b (dy ob (aI l3 c2 ob.j'.length)),lP oH 69 l1 c ob.g',d5 cj 3 l2 c1 ob.m']] J mixed J J J J J
    ⟨⟨[⟨0,fun _=>Q (M b 0),none⟩],_,0,1,J,⟨(fun _=>J),aV⟩,J,J,J,J,J,fun _ sg _ _=>af J (ki J)⟩,
    ⟨⟨[⟨0,fun _=>Q (M b 0),none⟩],_,0,0,J,⟨(fun _=>J),aV⟩,J,J,J,J,J,fun _ sg _ _=>af J (ki J)⟩,
    ⟨⟨[⟨58,fun _=>Q (M b 0),some 1⟩],_,0,0,J,⟨(fun _=>J),aV⟩,J,J,J,J,J,fun _ sg _ _=>af J (aL (D J))⟩,
    ⟨⟨[⟨59,fun _=>Q (M b 0),some 2⟩],_,0,0,J,⟨(fun _=>J),aV⟩,J,J,J,J,J,fun _ sg _ _=>af J (pL 17 iE J J J)⟩,
    ⟨⟨[⟨60,fun _=>Q (M b 17),some 3⟩],_,0,0,J,⟨(fun _=>J),aV⟩,J,J,J,J,J,qv (fun sg=>af J (oT cV (eF nT) (.head _) J (D J)))⟩,
    ⟨⟨[⟨0,fun _=>Q (M b 0),none⟩],_,0,0,J,⟨(fun _=>J),aV⟩,J,J,J,J,J,fun _ sg _ _=>af J (ki J)⟩,
    ⟨⟨[⟨62,fun _=>Q (M b 0),some 5⟩],_,0,0,J,⟨(fun _=>J),aV⟩,J,J,J,J,J,fun _ sg _ _=>af J (aL (D J))⟩,
    ⟨⟨[⟨63,fun _=>Q (M b 0),some 6⟩],_,0,0,J,⟨(fun _=>J),aV⟩,J,J,J,J,J,fun _ sg _ _=>af J (pL 15 li J J J)⟩,
    ⟨⟨[⟨64,fun _=>Q (M b 15),some 7⟩],_,0,0,J,⟨(fun _=>J),aV⟩,J,J,J,J,J,qv (fun sg=>af J (aA (r:=rH dh [(1,aI l1 c ob.g'.length),(2,aI l2 c1 ob.m'.length)]) (x:=dy ob (aI l3 c2 ob.j'.length)) cV J J (eF mG) (.head _) (D J)))⟩,
    ⟨⟨[⟨6,fun _=>tD cj e,none⟩],_,0,0,J,⟨(fun _=>J),aV⟩,J,J,J,J,J,fun _ sg _ _=>af J (ki J)⟩,
    ⟨⟨[⟨65,fun _=>tD yj ob.a_,some 8⟩,⟨66,fun _=>tD cj e,some 9⟩],_,0,0,J,⟨(fun _=>J),(fun _=>J),aV⟩,J,J,J,J,J,fun _ sg _ _=>af J (Aq eh bH J J J I_)⟩,
    ⟨⟨[⟨67,fun _=>da cj e2,some 10⟩],_,0,0,J,⟨(fun _=>J),aV⟩,J,J,J,J,J,fun _ sg _ _=>af J (CM bH J J)⟩,
    ⟨⟨[⟨68,fun _=>tD cj e2,some 11⟩],_,0,0,J,⟨(fun _=>J),aV⟩,J,J,J,J,J,fun _ sg _ _=>af J (aT (r:=cj) (ys:=[e2]) (xs:=[.tmp 68]) eh bH J J J J J ⟨(D J),aV⟩)⟩,
    ⟨⟨[⟨61,fun _=>Q (aI l3 c2 ob.j'.length),some 4⟩,⟨69,fun _=>tD yj ([e2]),some 12⟩],_,J,⟨(fun _=>J),(fun _=>J),aV⟩,J,J,J,fun sg=>cG J (fr3 (vH bH J J J J eh J (D J) (D J) q_l9))⟩,
    aV⟩⟩⟩⟩⟩⟩⟩⟩⟩⟩⟩⟩⟩⟩ (fun sg=>?_)
   refine(show RG _ _ _ _ [_,_,_,_] _ from ?_);refine X (aL (D J))<|aR 17 iE J<|bf<|gi cV J (wQ (hs' :=[(1,aI l1 c ob.g'.length),(2,aI l2 c1 ob.m'.length)]) (kc _ _ _) ⟨.inr ⟨J,J⟩,.inr ⟨J,J⟩,aV⟩ J) J (D J) (Fb (D J)) ?_;refine(show RG _ _ _ _ [_,_,_,_] _ from ?_);refine aJ<|eN K hN J<|ap<|aZ<|aZ<|aZ ?_;exact aY (aM (ih (i+1) ({ob with j':=l9}:aE) l1 c l2 c1 ((sg 13).h 0).1 ((sg 13).h 0).2 ⟨ei K,h⟩) (aX J))
def acy(b:Nat)(ix:OI) l{R}(h:gn l=some R):bU bt 167 [Q (M b 0)] (gx b l ix) (fun _:OI=>fU R.1) (fun j=>abq b R.2 j):=by
 refine bU.of func167 J J J fun w0 S0=>?_;refine(show CG _ _ _ [s (rH ce [(1,aI (ix.h 0).1 (ix.h 0).2 l.g'.length),(2,aI (ix.h 1).1 (ix.h 1).2 l.m'.length)]) 168 b l,lP oH 69 (ix.h 0).1 (ix.h 0).2 l.g',d5 cj 3 (ix.h 1).1 (ix.h 1).2 l.m'] _ from ?_);refine O<|bo<|bC<|aw J<|X (aL (D J))<|aR 3 js J<|X (aA (r:=rH ce [(1,aI (ix.h 0).1 (ix.h 0).2 l.g'.length),(2,aI (ix.h 1).1 (ix.h 1).2 l.m'.length)]) (x:=l) dL J J (eF ij) (.head _) (D J))<|bD dL jd J fun b1=>be dL aq J<|bj 3 J<|bC<|O<|aU kp fv cV J<|bX eh J<|X (ft (D J) hI)<|Z J<|ac J (bu iS d6 J J) ?_;refine ac J (bp qT J J)<|ac J (hM ny J)<|ac J (fun Y=>ft (bg J Y) hI)<|cm J<|Z J<|ac J (bu kp fv J J)<|ac J (bp cV J J)<|ac J (hM eh J)<|ac J (bu iS d6 J J)<|ac J (bp qT J J)<|ac J (hM ny J)<|ac J (fun Y=>cU (bg J Y) (bg J Y))<|ac J (fun Y=>d8 (bg J Y) hI)<|cm J<|aK J<|aw J<|X (aL (D J))<|aR 17 iE J<|cn false cj 3<|bf ?_;refine gi cV J (wQ (hs' :=[(1,aI (ix.h 0).1 (ix.h 0).2 l.g'.length),(2,aI (ix.h 1).1 (ix.h 1).2 l.m'.length)]) (nM _ _) ⟨.inr ⟨J,J⟩,.inr ⟨J,J⟩,aV⟩ J) J (D J) (Fb (show bk _ _ _ (Q CN)from vk)) ?_;refine(show RG _ _ _ _ [_,_,_,_] _ from ?_);refine bC<|aN<|aU kp fv cV J<|bX eh J<|X (cB hI)<|bC<|ak<|bJ (k:=40) J fun hN=>bK<|fT<|gB<|gB<|gB ?_;refine aM (yY (aH:=fun ls i ob l1 c l2 c1 l3 c2=>(l.n.v'.drop i=ls)/\eW l ls ob=some R) (Of:=fun _ i ob l1 c l2 c1 l3 c2=>[s (rH dh [(1,aI l1 c ob.g'.length),(2,aI l2 c1 ob.m'.length)]) 168 b (dy ob (aI l3 c2 ob.j'.length)),lP oH 69 l1 c ob.g',d5 cj 3 l2 c1 ob.m',d5 cj 3 l3 c2 ob.j']) (Gf:=fun _ i ob l1 c l2 c1 l3 c2=>[(0,Q (M b 0)),(3,da aQ l.n),(4,fU (((decide ((l.n.v'.length:Int)<=3))&&(decide ((l.n.u'.length:Int)<=12)))&&(decide (0<(i64.wrap ((l.n.v'.length:Int)+(l.n.u'.length:Int))))))),(40,lk l.n.v'),(41,mR l.n.v'),(42,bI (i:Int))]) (fun i ob l1 c l2 c1 l3 c2 h=>?_) (fun e tl ih i ob l1 c l2 c1 l3 c2 h=>?_) l.n.v' 0 ({l with j':=y6}:aE) (ix.h 0).1 (ix.h 0).2 (ix.h 1).1 (ix.h 1).2 none 0 ⟨J,h⟩) (aX J)
 ·obtain⟨K,h⟩:=h;refine gk K J<|an<|aN<|aU iS d6 qT J<|bX ny J<|X (cB hI)<|bC<|ak<|bJ (k:=75) J fun hN1=>?_;refine bK ?_;refine aM (EF (aH:=fun ls1 i1 ok F' l4 c3 l5 c4 l6 c5=>(l.n.u'.drop i1=ls1)/\du ls1 ok F'=some R) (Of:=fun _ i1 ok F' l4 c3 l5 c4 l6 c5=>[s (rH dh [(1,aI l4 c3 F'.g'.length),(2,aI l5 c4 F'.m'.length)]) 168 b (dy F' (aI l6 c5 F'.j'.length)),lP oH 69 l4 c3 F'.g',d5 cj 3 l5 c4 F'.m',d5 cj 3 l6 c5 F'.j']) (Gf:=fun _ i1 ok F' l4 c3 l5 c4 l6 c5=>[(0,Q (M b 0)),(4,fU ok),(75,ek (eO) l.n.u'),(76,mR l.n.u'),(77,bI (i1:Int))]) (fun i1 ok F' l4 c3 l5 c4 l6 c5 h=>?_) (fun e1 tl1 ih1 i1 ok F' l4 c3 l5 c4 l6 c5 h=>?_) l.n.u' 0 (((decide ((l.n.v'.length:Int)<=3))&&(decide ((l.n.u'.length:Int)<=12)))&&(decide (0<(i64.wrap ((l.n.v'.length:Int)+(l.n.u'.length:Int)))))) ob l1 c l2 c1 l3 c2 ⟨J,h⟩) (aX J)
  ·obtain⟨l_,h⟩:=h;exact gk l_ J<|an<|aw J<|ba J<|aZ<|aZ<|aZ<|aZ<|so h▸ci J (y7 [(l4,c3),(l5,c4),(l6,c5)]) J J (fun _ _ h=>h)
  ·obtain⟨l_,h⟩:=h;refine gj l_ J<|aS<|ak<|O<|eE ny jt J (fh l_)<|bD jt wJ J fun b2=>be jt aq J<|bj 8 J<|bC<|O<|bP ?_;refine bC ?_;refine u7 (aH:=fun ok1 k=>gy (du tl1) F' ok1 k=some R) (Of:=fun ok1 k=>[s (rH dh [(1,aI l4 c3 F'.g'.length),(2,aI l5 c4 F'.m'.length)]) 168 b (dy F' (aI l6 c5 F'.j'.length)),lP oH 69 l4 c3 F'.g',d5 cj 3 l5 c4 F'.m',d5 cj 3 l6 c5 F'.j']) (Gf:=fun ok1 k=>[(0,Q (M b 0)),(4,fU ok1),(9,bI k),(75,ek (eO) l.n.u'),(76,mR l.n.u'),(77,bI (i1:Int))]) (fun ok1 k h=>?_) (fun hx=>?_)
   ·skip;refine ai<|Z J<|Z J<|X (aL (D J))<|aR 17 iE J<|X (oT cV (eF nT) (.head _) J (D J))<|Z J<|X (aT (r:=cj) (ys:=[k]) (xs:=[.tmp 139]) eh bH J J J J J ⟨(D J),aV⟩)<|dI<|bR h fun l7 q_l7 h=>bA bH J J J J eh J J (D J) (D J) q_l7 fun l8 c6=>X (aL (D J))<|aR 17 iE J<|bf<|gi cV J (wQ (hs' :=[(1,aI l4 c3 F'.g'.length),(2,aI l5 c4 F'.m'.length)]) (kc _ _ _) ⟨.inr ⟨J,J⟩,.inr ⟨J,J⟩,aV⟩ J) J (D J) (Fb (D J)) ?_;refine(show RG _ _ _ _ [_,_,_,_] _ from ?_);refine aJ<|eN l_ hN1 J<|ap<|aZ<|aZ<|aZ ?_;exact aY (aM (ih1 (i1+1) ok1 ({F' with j':=l7}:aE) l4 c3 l5 c4 l8 c6 ⟨ei l_,h⟩) (aX J))
   ·skip;refine O<|aU kz je bH J<|bl J<|bV h J (fun h=>?_) (fun h=>?_)
    ·refine ai<|Z J<|Z J<|ac J (bu sm oX J J)<|ac J (fun Y=>eg ia J fD J (bg J Y))<|ac J (bp pO J J)<|ac J (hM mo J)<|ac J (iq J)<|cm J<|dM J<|aJ ?_;exact bE (hx (ok&&((e1.Arg.i'.length:Int)==0)) 2 h) (aX J)
    ·refine aS<|bR h fun r q_ h=>?_;refine ga (ts:=[_,_,_,_,_,_,_,_,_,_,_,_]) mixed J J
      ⟨Dm 8 J J (sP sm oX J J),
      ⟨kF 0 hY J J,
      ⟨fc J J,
      ⟨eS 95 2 J J (aL (D J)),
      ⟨eS 96 3 J J (pL 15 li J J J),
      ⟨eS 97 4 J J (aA (r:=rH dh [(1,aI l4 c3 F'.g'.length),(2,aI l5 c4 F'.m'.length)]) (x:=dy F' (aI l6 c5 F'.j'.length)) cV J J (eF mG) (.head _) (D J)),
      ⟨fR 94 1 98 5 J J J (cC Sw (GI _ _ q_) ⟨(D J),(D J),aV⟩),
      ⟨eS 99 6 J J (ki J),
      ⟨eS 92 7 J J (GW J J),
      ⟨eS 92 7 J J (GW J J),
      ⟨eS 100 8 J J (CO J),
      ⟨eS 101 9 J J (CO J),
      aV⟩⟩⟩⟩⟩⟩⟩⟩⟩⟩⟩⟩ ?_
     refine an<|aw J<|Z J<|ac J (ca J)<|ac J (iq J)<|cm J<|Z J<|ac J (bu kz je J J)<|ac J (bp bH J J)<|ac J (fun Y=>d8 (bg J Y) hI)<|cm J<|Z J<|ac J (bu kz je J J)<|ac J (bp bH J J)<|ac J (fun Y=>ft (bg J Y) hI)<|cm J<|aK J<|O<|qX kz je J ?_;refine eb bH J<|bC<|ak<|O<|bl J<|aK J<|fz h J (fun h=>?_) (fun h=>?_)
     ·refine ai<|Z J<|Z J<|ac J (ca J)<|ac J (iq J)<|ac J (ov J)<|cO J J J J (fun Y=>ki J)<|cO J J J J (fun Y=>dW (bg J Y) hI)<|ac J (fun Y=>ke (bg J Y) (fun V=>(bg J (ub Y (sL V)))))<|cm J<|dM J<|aJ<|ah ?_;exact bE (hx ((((ok&&(r.2==0))&&(decide (1<e1.Tag)))&&(decide (e1.Tag<=5)))&&((r.1==2)||(r.1==0))) 2 h) (aX J)
     ·refine dP (aH:=fun x=>ju (du tl1) e1 ok F' r x=some R) (Of:=fun x=>[s (rH dh [(1,aI l4 c3 F'.g'.length),(2,aI l5 c4 F'.m'.length)]) 168 b (dy F' (aI l6 c5 F'.j'.length)),lP oH 69 l4 c3 F'.g',d5 cj 3 l5 c4 F'.m',d5 cj 3 l6 c5 F'.j']) (Gf:=fun x=>[(0,Q (M b 0)),(4,fU (((ok&&(r.2==0))&&(decide (1<e1.Tag)))&&(decide (e1.Tag<=5)))),(9,bI 2),(10,bI r.1),(75,ek (eO) l.n.u'),(76,mR l.n.u'),(77,bI (i1:Int)),(130,fU x)]) (fun x h=>?_) (fun K1=>?_)
      ·skip;refine fz h J (fun h=>?_) (fun h=>?_)
       ·refine ai<|Z J<|dM J<|aJ<|ah ?_;exact bE (hx (((ok&&(r.2==0))&&(decide (1<e1.Tag)))&&(decide (e1.Tag<=5))) r.1 h) (aX J)
       ·refine aW<|ah ?_;exact bE (hx (((ok&&(r.2==0))&&(decide (1<e1.Tag)))&&(decide (e1.Tag<=5))) 2 h) (aX J)
      ·skip;refine O<|bl J<|aK J<|fz h J (fun h=>?_) (fun h=>?_)
       ·refine aW ?_;exact bE (K1 (e1.Tag==4) h) (aX J)
       ·refine ai<|bl J<|dM J<|aJ ?_;exact bE (K1 (e1.Tag==5) h) (aX J)
 ·obtain⟨K,h⟩:=h;refine gj K J<|aS<|ak<|O<|eE eh bH J (fh K)<|aK J<|aN<|Z J<|X (eC (D J) hI) ?_;refine Z J<|aB J (ca J)<|aB J (ca J)<|aB J (fun Y=>aL (bg J Y))<|aB J (fun Y=>bY (n:=15) li J (bg J Y) J)<|aB J (fun Y=>aA (r:=rH dh [(1,aI l1 c ob.g'.length),(2,aI l2 c1 ob.m'.length)]) (x:=dy ob (aI l3 c2 ob.j'.length)) cV J J (eF mG) (.head _) (bg J Y))<|aB J (hM eh J)<|aB J (fun Y=>d9 (bg J Y) (bg J Y))<|dG J<|bV h J (fun h=>?_) (fun h=>?_)
  ·exact O<|bo<|bF<|ae<|cF<|ae<|cF<|aZ<|aZ<|aZ<|aZ<|so h▸ci J (y7 [(l1,c),(l2,c1),(l3,c2)]) J J (fun _ _ h=>h)
  ·refine fy<|bR h fun e2 I_ h=>bR h fun l9 q_l9 h=>?_;refine jK 14 [tc (Q (M b 0)),tc (Q (M b 0)),tc (Q (M b 0)),tc (Q (M b 17)),tc (oI l3 c2 ob.j'),tc (Q (M b 0)),tc (Q (M b 0)),tc (Q (M b 15)),tc (lk ob.a_),tc (bI e),tc (da cj e2),tc (bI e2),tc (lk ([e2])),([13],fun bx=>Q (aI ((bx.getD 0 fe).h 0).1 ((bx.getD 0 fe).h 0).2 l9.length))] [false,false,false,false,false,false,false,false,false,false,false,false,false,true] [fun _=>[s (rH dh [(1,aI l1 c ob.g'.length),(2,aI l2 c1 ob.m'.length)]) 168 b (dy ob (aI l3 c2 ob.j'.length)),lP oH 69 l1 c ob.g',d5 cj 3 l2 c1 ob.m',d5 cj 3 l3 c2 ob.j'],fun sg=>[d5 cj 3 ((sg 13).h 0).1 ((sg 13).h 0).2 l9,s (rH dh [(1,aI l1 c ob.g'.length),(2,aI l2 c1 ob.m'.length)]) 168 b (dy ob (aI l3 c2 ob.j'.length)),lP oH 69 l1 c ob.g',d5 cj 3 l2 c1 ob.m']] J mixed J J J J J
    ⟨⟨[⟨0,fun _=>Q (M b 0),none⟩],_,0,1,J,⟨(fun _=>J),aV⟩,J,J,J,J,J,fun _ sg _ _=>af J (ki J)⟩,
    ⟨⟨[⟨0,fun _=>Q (M b 0),none⟩],_,0,0,J,⟨(fun _=>J),aV⟩,J,J,J,J,J,fun _ sg _ _=>af J (ki J)⟩,
    ⟨⟨[⟨58,fun _=>Q (M b 0),some 1⟩],_,0,0,J,⟨(fun _=>J),aV⟩,J,J,J,J,J,fun _ sg _ _=>af J (aL (D J))⟩,
    ⟨⟨[⟨59,fun _=>Q (M b 0),some 2⟩],_,0,0,J,⟨(fun _=>J),aV⟩,J,J,J,J,J,fun _ sg _ _=>af J (pL 17 iE J J J)⟩,
    ⟨⟨[⟨60,fun _=>Q (M b 17),some 3⟩],_,0,0,J,⟨(fun _=>J),aV⟩,J,J,J,J,J,qv (fun sg=>af J (oT cV (eF nT) (.head _) J (D J)))⟩,
    ⟨⟨[⟨0,fun _=>Q (M b 0),none⟩],_,0,0,J,⟨(fun _=>J),aV⟩,J,J,J,J,J,fun _ sg _ _=>af J (ki J)⟩,
    ⟨⟨[⟨62,fun _=>Q (M b 0),some 5⟩],_,0,0,J,⟨(fun _=>J),aV⟩,J,J,J,J,J,fun _ sg _ _=>af J (aL (D J))⟩,
    ⟨⟨[⟨63,fun _=>Q (M b 0),some 6⟩],_,0,0,J,⟨(fun _=>J),aV⟩,J,J,J,J,J,fun _ sg _ _=>af J (pL 15 li J J J)⟩,
    ⟨⟨[⟨64,fun _=>Q (M b 15),some 7⟩],_,0,0,J,⟨(fun _=>J),aV⟩,J,J,J,J,J,qv (fun sg=>af J (aA (r:=rH dh [(1,aI l1 c ob.g'.length),(2,aI l2 c1 ob.m'.length)]) (x:=dy ob (aI l3 c2 ob.j'.length)) cV J J (eF mG) (.head _) (D J)))⟩,
    ⟨⟨[⟨6,fun _=>tD cj e,none⟩],_,0,0,J,⟨(fun _=>J),aV⟩,J,J,J,J,J,fun _ sg _ _=>af J (ki J)⟩,
    ⟨⟨[⟨65,fun _=>tD yj ob.a_,some 8⟩,⟨66,fun _=>tD cj e,some 9⟩],_,0,0,J,⟨(fun _=>J),(fun _=>J),aV⟩,J,J,J,J,J,fun _ sg _ _=>af J (Aq eh bH J J J I_)⟩,
    ⟨⟨[⟨67,fun _=>da cj e2,some 10⟩],_,0,0,J,⟨(fun _=>J),aV⟩,J,J,J,J,J,fun _ sg _ _=>af J (CM bH J J)⟩,
    ⟨⟨[⟨68,fun _=>tD cj e2,some 11⟩],_,0,0,J,⟨(fun _=>J),aV⟩,J,J,J,J,J,fun _ sg _ _=>af J (aT (r:=cj) (ys:=[e2]) (xs:=[.tmp 68]) eh bH J J J J J ⟨(D J),aV⟩)⟩,
    ⟨⟨[⟨61,fun _=>Q (aI l3 c2 ob.j'.length),some 4⟩,⟨69,fun _=>tD yj ([e2]),some 12⟩],_,J,⟨(fun _=>J),(fun _=>J),aV⟩,J,J,J,fun sg=>cG J (fr3 (vH bH J J J J eh J (D J) (D J) q_l9))⟩,
    aV⟩⟩⟩⟩⟩⟩⟩⟩⟩⟩⟩⟩⟩⟩ (fun sg=>?_)
   refine(show RG _ _ _ _ [_,_,_,_] _ from ?_);refine X (aL (D J))<|aR 17 iE J<|bf<|gi cV J (wQ (hs' :=[(1,aI l1 c ob.g'.length),(2,aI l2 c1 ob.m'.length)]) (kc _ _ _) ⟨.inr ⟨J,J⟩,.inr ⟨J,J⟩,aV⟩ J) J (D J) (Fb (D J)) ?_;refine(show RG _ _ _ _ [_,_,_,_] _ from ?_);refine aJ<|eN K hN J<|ap<|aZ<|aZ<|aZ ?_;exact aY (aM (ih (i+1) ({ob with j':=l9}:aE) l1 c l2 c1 ((sg 13).h 0).1 ((sg 13).h 0).2 ⟨ei K,h⟩) (aX J))
def acx(b:Nat)(ix:OI) l{R}(h:fW l=some R):bU bt 168 [Q (M b 0)] (gx b l ix) (fun _:OI=>fU R.1) (fun j=>gx b R.2 j):=by
 refine bU.of func168 J J J fun w0 S0=>?_;refine(show CG _ _ _ [s (rH ce [(1,aI (ix.h 0).1 (ix.h 0).2 l.g'.length),(2,aI (ix.h 1).1 (ix.h 1).2 l.m'.length)]) 168 b l,lP oH 69 (ix.h 0).1 (ix.h 0).2 l.g',d5 cj 3 (ix.h 1).1 (ix.h 1).2 l.m'] _ from ?_);refine O<|bo<|bC<|aw J<|bR h fun r q_ h=>bc (fr2 (fr2 (fr2 (ay (xs:=[.tmp 6]) (ts:=[Q (M b 0)]) (gx b l ix) _ J aaM (acy b ix l q_) ⟨(D J),aV⟩ (fun _=>J))))) J fun i=>?_;refine(show RG _ _ _ _ [_,_,_,_] ((7,fU r.1)::_)from ?_);refine aK J<|aN<|Z J<|X (fq (D J))<|bV h J (fun h=>?_) (fun h=>?_)
 ·exact O<|bo<|bF<|ae<|aZ<|dE<|ap<|yz (r' :=rH ce [(1,aI (i.h 0).1 (i.h 0).2 r.2.g'.length),(2,aI (i.h 1).1 (i.h 1).2 r.2.m'.length)]) (x' :=r.2) (fun _ _ _ ho h=>XF h (fun h=>j9 (f7 ho (.head _)) h))<|ap<|aF<|aP<|aP<|aP<|so h▸ci J i J J (fun _ _ h=>h)
 ·refine fy<|aN<|Z J<|X (aL (D J))<|aR 3 js J<|aR 11 iS J<|X (aA (r:=rH dh [(1,aI (i.h 0).1 (i.h 0).2 r.2.g'.length),(2,aI (i.h 1).1 (i.h 1).2 r.2.m'.length)]) (x:=dy r.2 (aI (i.h 2).1 (i.h 2).2 r.2.j'.length)) qT J J (eF (fY Bf d6)) (.head _) (D J))<|bX ny J<|X (cB hI)<|bC<|ak<|bJ (k:=14) J fun hN=>bK ?_;refine aM (yY (aH:=fun ls i1 ob l1 c l2 c1 l3 c2=>(r.2.n.u'.drop i1=ls)/\gT ls i1 ob=some R) (Of:=fun _ i1 ob l1 c l2 c1 l3 c2=>[s (rH dh [(1,aI l1 c ob.g'.length),(2,aI l2 c1 ob.m'.length)]) 168 b (dy ob (aI l3 c2 ob.j'.length)),lP oH 69 l1 c ob.g',d5 cj 3 l2 c1 ob.m',d5 cj 3 l3 c2 ob.j']) (Gf:=fun _ i1 ob l1 c l2 c1 l3 c2=>[(0,Q (M b 0)),(14,ek (eO) r.2.n.u'),(15,mR r.2.n.u'),(16,bI (i1:Int))]) (fun i1 ob l1 c l2 c1 l3 c2 h=>?_) (fun e tl ih i1 ob l1 c l2 c1 l3 c2 h=>?_) r.2.n.u' 0 r.2 (i.h 0).1 (i.h 0).2 (i.h 1).1 (i.h 1).2 (i.h 2).1 (i.h 2).2 ⟨J,h⟩) (aX J)
  ·obtain⟨K,h⟩:=h;refine gk K J<|an<|O<|bo<|bF<|aZ<|dE<|ap<|yz (r' :=rH ce [(1,aI l1 c ob.g'.length),(2,aI l2 c1 ob.m'.length)]) (x' :=ob) (fun _ _ _ ho h=>XF h (fun h=>j9 (f7 ho (.head _)) h))<|ap ?_;exact aF<|aP<|aP<|aP<|so h▸ci J (y7 [(l1,c),(l2,c1)]) J J (fun _ _ h=>h)
  ·obtain⟨K,h⟩:=h;refine gj K J<|aS<|ak<|aw J<|eE ny jt J (fh K)<|bD jt wJ J fun b1=>dM J<|be jt aq J<|bj 5 J<|bC<|aS ?_;refine ai<|aU kz je bH J<|bl J<|bV h J (fun h=>?_) (fun h=>?_)
   ·refine bR h fun e1 Z' h=>?_;refine rK 13 (ts:=[Q (M b 0),Q (M b 0),Q (M b 17),oI l3 c2 ob.j',Q (M b 0),Q (M b 0),Q (M b 3),Q (M b 10),lk ob.n.v',mR ob.n.v',bI (i1:Int),bI (i64.wrap ((ob.n.v'.length:Int)+(i1:Int))),Q (Dd l3 ((i64.wrap ((ob.n.v'.length:Int)+(i1:Int))).toNat*1+0))]) mixed J J J
     ⟨fc J J,
     ⟨eS 24 0 J J (aL (D J)),
     ⟨eS 25 1 J J (pL 17 iE J J J),
     ⟨eS 26 2 J J (oT cV (eF nT) (.head _) J (D J)),
     ⟨fc J J,
     ⟨eS 28 4 J J (aL (D J)),
     ⟨eS 29 5 J J (pL 3 js J J J),
     ⟨eS 30 6 J J (pL 10 kp J J J),
     ⟨eS 31 7 J J (aA (r:=rH dh [(1,aI l1 c ob.g'.length),(2,aI l2 c1 ob.m'.length)]) (x:=dy ob (aI l3 c2 ob.j'.length)) cV J J (eF (fY Bf fv)) (.head _) (D J)),
     ⟨eS 32 8 J J (zln eh J),
     ⟨fc J J,
     ⟨fR 33 9 34 10 J J J (cU (D J) (D J)),
     ⟨fR 27 3 35 11 J J J (fP eh bH (.tail _ (.tail _ (.tail _ (.head _)))) (D J) (D J) Z'),
     aV⟩⟩⟩⟩⟩⟩⟩⟩⟩⟩⟩⟩⟩ ?_
    refine dI<|bR h fun st W_ h=>B2 bH J aq J Z' (so W_) (D J) hI<|tU (va (so W_)) 27 J<|IB (O' :=[d5 cj 3 l3 c2 st,s (rH dh [(1,aI l1 c ob.g'.length),(2,aI l2 c1 ob.m'.length)]) 168 b (dy ob (aI l3 c2 st.length)),lP oH 69 l1 c ob.g',d5 cj 3 l2 c1 ob.m']) (by first|(rw [va (so W_)];done)|(rw [va (so W_)];exact J)|exact J)<|aJ<|eN K hN J<|aZ<|aZ<|aZ ?_;exact aY (aM (ih (i1+1) ({ob with j':=st}:aE) l1 c l2 c1 l3 c2 ⟨ei K,h⟩) (aX J))
   ·refine aW<|eN K hN J ?_;exact aY (aM (ih (i1+1) ob l1 c l2 c1 l3 c2 ⟨ei K,h⟩) (aX J))
