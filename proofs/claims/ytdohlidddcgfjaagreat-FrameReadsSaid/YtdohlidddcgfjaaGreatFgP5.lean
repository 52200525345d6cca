import Derived.Test.YtdohlidddcgfjaaGreatFgT
import Derived.Test.YtdohlidddcgfjaaGreatFgP4
set_option linter.all false
namespace Go.Proofs.YtdohlidddcgfjaaGreat
open Go Tryz
set_option maxRecDepth 100000
def acw(b:Nat)(ix:OI) l{R}(h:ff l=some R):bU bt 169 [Q (M b 0)] (gx b l ix) (fun _:OI=>fU R.1) (fun j=>gx b R.2 j):=by
 refine bU.of func169 J J J fun w0 S0=>?_;refine(show CG _ _ _ [s (rH ce [(1,aI (ix.h 0).1 (ix.h 0).2 l.g'.length),(2,aI (ix.h 1).1 (ix.h 1).2 l.m'.length)]) 168 b l,lP oH 69 (ix.h 0).1 (ix.h 0).2 l.g',d5 cj 3 (ix.h 1).1 (ix.h 1).2 l.m'] _ from ?_);refine O<|bo<|bC<|aw J<|X (aL (D J))<|aR 3 js J<|X (aA (r:=rH ce [(1,aI (ix.h 0).1 (ix.h 0).2 l.g'.length),(2,aI (ix.h 1).1 (ix.h 1).2 l.m'.length)]) (x:=l) dL J J (eF ij) (.head _) (D J))<|bD dL jd J fun b1=>be dL aq J<|bj 3 J<|bC<|O<|aU kp fv cV J<|bX eh J<|aK J ?_;refine aS<|bR h fun e N_ h=>?_;refine ga (ts:=[_,_,_,_,_,_,_,_,_,_,_,_,_,_,_,_,_,_,_,_,_,_,_,_,_,_,_,_,_,_,_,_,_,_]) mixed J J
  ⟨fc J J,
  ⟨eS 18 0 J J (aL (D J)),
  ⟨eS 19 1 J J (pL 0 LP J J J),
  ⟨eS 20 2 J J (aA (r:=rH ce [(1,aI (ix.h 0).1 (ix.h 0).2 l.g'.length),(2,aI (ix.h 1).1 (ix.h 1).2 l.m'.length)]) (x:=l) sE J J (eF Fh) (.head _) (D J)),
  ⟨Dm 3 J J (sP jP gH J J),
  ⟨kF 4 bH J J,
  ⟨fR 21 3 23 5 J J J (Aq mn dL J J J N_),
  ⟨eS 24 6 J J (sP gq db J J),
  ⟨kF 7 bH J J,
  ⟨eS 26 8 J J (zei J),
  ⟨eS 27 9 J J (ki J),
  ⟨te 4 28 10 J J J (eZ J J J J (fun Y=>ki J)),
  ⟨iX 29 11 28 10 J J J (eZ J J J J (fun Y=>ft (bg J Y) hI)),
  ⟨fR 28 10 30 12 J J J (UK J J),
  ⟨eS 31 13 J J (ki J),
  ⟨te 3 32 14 J J J (eZ J J J J (fun Y=>sP iS d6 J J)),
  ⟨iX 33 15 32 14 J J J (eZ J J J J (fun Y=>fC qT J J (bg J Y))),
  ⟨iX 34 16 32 14 J J J (eZ J J J J (fun Y=>fK ny (bg J Y))),
  ⟨iX 35 17 32 14 J J J (eZ J J J J (fun Y=>ft (bg J Y) hI)),
  ⟨fR 32 14 36 18 J J J (UK J J),
  ⟨eS 37 19 J J (ki J),
  ⟨te 4 38 20 J J J (eZ J J J J (fun Y=>ki J)),
  ⟨te 3 38 20 J J J (eZ J J J J (fun Y=>sP iS d6 J J)),
  ⟨iX 40 22 38 20 J J J (eZ J J J J (fun Y=>fC qT J J (bg J Y))),
  ⟨iX 41 23 38 20 J J J (eZ J J J J (fun Y=>fK ny (bg J Y))),
  ⟨AC 39 21 42 24 38 20 J J J J (eZ J J J J (fun Y=>cU (bg J Y) (bg J Y))),
  ⟨te 0 38 20 J J J (eZ J J J J (fun Y=>ki J)),
  ⟨iX 44 26 38 20 J J J (eZ J J J J (fun Y=>aL (bg J Y))),
  ⟨iX 45 27 38 20 J J J (eZ J J J J (fun Y=>bY (n:=15) li J (bg J Y) J)),
  ⟨iX 46 28 38 20 J J J (eZ J J J J (fun Y=>aA (r:=rH ce [(1,aI (ix.h 0).1 (ix.h 0).2 l.g'.length),(2,aI (ix.h 1).1 (ix.h 1).2 l.m'.length)]) (x:=l) cV J J (eF sf) (.head _) (bg J Y))),
  ⟨iX 47 29 38 20 J J J (eZ J J J J (fun Y=>fK eh (bg J Y))),
  ⟨AC 43 25 48 30 38 20 J J J J (eZ J J J J (fun Y=>dW (bg J Y) (bg J Y))),
  ⟨fR 38 20 49 31 J J J (UK J J),
  ⟨eS 50 32 J J (CO J),
  aV⟩⟩⟩⟩⟩⟩⟩⟩⟩⟩⟩⟩⟩⟩⟩⟩⟩⟩⟩⟩⟩⟩⟩⟩⟩⟩⟩⟩⟩⟩⟩⟩⟩⟩ ?_
 refine an<|aN<|Z J<|X (fq (D J))<|bV h J (fun h=>?_) (fun h=>?_)
 ·exact O<|bo<|bF<|ae<|aP<|aP<|aP<|so h▸ci J ix J J (fun _ _ h=>h)
 ·refine fy<|aw J<|Z J<|X (aL (D J))<|aR 15 li J<|X (aA (r:=rH ce [(1,aI (ix.h 0).1 (ix.h 0).2 l.g'.length),(2,aI (ix.h 1).1 (ix.h 1).2 l.m'.length)]) (x:=l) cV J J (eF sf) (.head _) (D J))<|lp h Xg (Ow _) (co J) fun r h l1 c=>X (aL (D J))<|aR 17 iE J<|bf<|gi cV J (wQ (hs' :=[(1,aI (ix.h 0).1 (ix.h 0).2 l.g'.length),(2,aI (ix.h 1).1 (ix.h 1).2 l.m'.length)]) (nM _ _) ⟨.inr ⟨J,J⟩,.inr ⟨J,J⟩,aV⟩ J) J (D J) (Fb (D J)) ?_;refine(show RG _ _ _ _ [_,_,_,_] _ from ?_);refine bC<|aN<|aU kp fv cV J<|bX eh J<|X (cB hI)<|bC<|ak<|bJ (k:=62) J fun hN=>bK<|fT<|gB<|gB<|gB ?_;refine aM (uE (aH:=fun ls i ok=>(l.n.v'.drop i=ls)/\fX l r ls i ok=some R) (Of:=fun _ i ok=>[s (rH dh [(1,aI (ix.h 0).1 (ix.h 0).2 l.g'.length),(2,aI (ix.h 1).1 (ix.h 1).2 l.m'.length)]) 168 b (dy l (aI l1 c r.length)),lP oH 69 (ix.h 0).1 (ix.h 0).2 l.g',d5 cj 3 (ix.h 1).1 (ix.h 1).2 l.m',d5 cj 3 l1 c r]) (Gf:=fun _ i ok=>[(0,Q (M b 0)),(3,da aQ l.n),(4,mR l.n.v'),(5,fU ok),(62,lk l.n.v'),(63,mR l.n.v'),(64,bI (i:Int))]) (fun i ok h=>?_) (fun e1 tl ih i ok h=>?_) l.n.v' 0 ((((e.Op==9)&&(decide ((l.n.v'.length:Int)<=3)))&&(decide ((l.n.u'.length:Int)<=12)))&&((IntKind.i64.wrap ((l.n.v'.length:Int)+(l.n.u'.length:Int)))==(l.a_.length:Int))) ⟨J,h⟩) (aX J)
  ·obtain⟨K,h⟩:=h;refine gk K J<|an<|aN<|aU iS d6 qT J<|bX ny J<|X (cB hI)<|bC<|ak<|bJ (k:=87) J fun hN1=>?_;refine bK ?_;refine aM (EF (aH:=fun ls1 i1 ok1 ob l2 c1 l3 c2 l4 c3=>(l.n.u'.drop i1=ls1)/\cW l ls1 i1 ok1 ob=some R) (Of:=fun _ i1 ok1 ob l2 c1 l3 c2 l4 c3=>[s (rH dh [(1,aI l2 c1 ob.g'.length),(2,aI l3 c2 ob.m'.length)]) 168 b (dy ob (aI l4 c3 ob.j'.length)),lP oH 69 l2 c1 ob.g',d5 cj 3 l3 c2 ob.m',d5 cj 3 l4 c3 ob.j']) (Gf:=fun _ i1 ok1 ob l2 c1 l3 c2 l4 c3=>[(0,Q (M b 0)),(4,mR l.n.v'),(5,fU ok1),(87,ek (eO) l.n.u'),(88,mR l.n.u'),(89,bI (i1:Int))]) (fun i1 ok1 ob l2 c1 l3 c2 l4 c3 h=>?_) (fun e2 tl1 ih1 i1 ok1 ob l2 c1 l3 c2 l4 c3 h=>?_) l.n.u' 0 ok ({l with j':=r}:aE) (ix.h 0).1 (ix.h 0).2 (ix.h 1).1 (ix.h 1).2 l1 c ⟨J,h⟩) (aX J)
   ·obtain⟨l_,h⟩:=h;refine gk l_ J<|an<|aw J<|ba J<|aZ<|dE<|ap<|yz (r' :=rH ce [(1,aI l2 c1 ob.g'.length),(2,aI l3 c2 ob.m'.length)]) (x' :=ob) (fun _ _ _ ho h=>XF h (fun h=>j9 (f7 ho (.head _)) h)) ?_;exact ap<|aF<|aP<|aP<|aP<|so h▸ci J (y7 [(l2,c1),(l3,c2)]) J J (fun _ _ h=>h)
   ·obtain⟨l_,h⟩:=h;refine gj l_ J<|aS<|ak<|aw J<|eE ny jt J (fh l_)<|bD jt wJ J fun b2=>dM J<|be jt aq J<|bj 9 J<|bC<|aS ?_;refine ai<|Z J<|X (aL (D J))<|aR 15 li J<|X (aA (r:=rH dh [(1,aI l2 c1 ob.g'.length),(2,aI l3 c2 ob.m'.length)]) (x:=dy ob (aI l4 c3 ob.j'.length)) cV J J (eF mG) (.head _) (D J))<|Z J<|Z J<|X (cU (D J) (D J))<|bR h fun e3 H_ h=>eE eh bH J H_<|aK J<|aw J<|Z J<|ac J (bu sm oX J J)<|ac J (fun Y=>eg ia J fD J (bg J Y))<|ac J (bp pO J J)<|ac J (hM mo J)<|ac J (iq J)<|cm J ?_;refine aK J<|O<|aU kz je bH J<|bC<|ak ?_;refine dP (aH:=fun x=>hD l (cW l tl1) i1 e2 ok1 ob e3 x=some R) (Of:=fun x=>[s (rH dh [(1,aI l2 c1 ob.g'.length),(2,aI l3 c2 ob.m'.length)]) 168 b (dy ob (aI l4 c3 ob.j'.length)),lP oH 69 l2 c1 ob.g',d5 cj 3 l3 c2 ob.m',d5 cj 3 l4 c3 ob.j']) (Gf:=fun x=>[(0,Q (M b 0)),(4,mR l.n.v'),(5,fU (ok1&&((e2.Arg.i'.length:Int)==0))),(8,bI (i1:Int)),(10,bI e3),(87,ek (eO) l.n.u'),(88,mR l.n.u'),(89,bI (i1:Int)),(112,bI e2.Tag),(113,fU x)]) (fun x h=>?_) (fun hx=>?_)
    ·skip;refine fz h J (fun h=>?_) (fun h=>?_)
     ·refine ai<|Z J<|Z J<|ac J (ca J)<|ac J (iq J)<|cm J<|dM J<|aJ<|ah<|eN l_ hN1 J ?_;exact aY (aM (ih1 (i1+1) ((ok1&&((e2.Arg.i'.length:Int)==0))&&(e3==2)) ob l2 c1 l3 c2 l4 c3 ⟨ei l_,h⟩) (aX J))
     ·refine O<|bl J<|aK J<|fz h J (fun h=>?_) (fun h=>?_)
      ·refine aw J<|Z J<|ac J (ca J)<|ac J (iq J)<|cm J<|aK J<|ai<|Z J<|X (aL (D J))<|aR 17 iE J<|X (oT cV (eF nT) (.head _) J (D J))<|Z J<|Z J<|X (cU (D J) (D J))<|bR h fun e4 O_ h=>X (fP eh bH (.tail _ (.tail _ (.tail _ (.head _)))) (D J) (D J) O_)<|dI<|bR h fun st W_ h=>B2 bH J aq J O_ (so W_) (D J) hI<|tU (va (so W_)) 131 J ?_;refine IB (O' :=[d5 cj 3 l4 c3 st,s (rH dh [(1,aI l2 c1 ob.g'.length),(2,aI l3 c2 ob.m'.length)]) 168 b (dy ob (aI l4 c3 st.length)),lP oH 69 l2 c1 ob.g',d5 cj 3 l3 c2 ob.m']) (by first|(rw [va (so W_)];done)|(rw [va (so W_)];exact J)|exact J)<|aJ<|ah<|eN l_ hN1 J<|aZ<|aZ<|aZ ?_;exact aY (aM (ih1 (i1+1) ((ok1&&((e2.Arg.i'.length:Int)==0))&&(e3==4)) ({ob with j':=st}:aE) l2 c1 l3 c2 l4 c3 ⟨ei l_,h⟩) (aX J))
      ·refine dP (aH:=fun x1=>jv (cW l tl1) i1 e2 ok1 ob e3 x1=some R) (Of:=fun x1=>[s (rH dh [(1,aI l2 c1 ob.g'.length),(2,aI l3 c2 ob.m'.length)]) 168 b (dy ob (aI l4 c3 ob.j'.length)),lP oH 69 l2 c1 ob.g',d5 cj 3 l3 c2 ob.m',d5 cj 3 l4 c3 ob.j']) (Gf:=fun x1=>[(0,Q (M b 0)),(4,mR l.n.v'),(5,fU (ok1&&((e2.Arg.i'.length:Int)==0))),(10,bI e3),(87,ek (eO) l.n.u'),(88,mR l.n.u'),(89,bI (i1:Int)),(136,fU x1)]) (fun x1 h=>?_) (fun K1=>?_)
       ·skip;refine fz h J (fun h=>?_) (fun h=>?_)
        ·refine ai<|Z J<|Z J<|ac J (ca J)<|ac J (ud J)<|cm J<|dM J<|aJ<|ah<|eN l_ hN1 J ?_;exact aY (aM (ih1 (i1+1) ((ok1&&((e2.Arg.i'.length:Int)==0))&&(e3 !=4)) ob l2 c1 l3 c2 l4 c3 ⟨ei l_,h⟩) (aX J))
        ·refine ai<|bo<|aJ<|ah<|eN l_ hN1 J ?_;exact aY (aM (ih1 (i1+1) false ob l2 c1 l3 c2 l4 c3 ⟨ei l_,h⟩) (aX J))
       ·skip;refine O<|bl J<|aK J<|fz h J (fun h=>?_) (fun h=>?_)
        ·refine aW ?_;exact bE (K1 (e2.Tag==4) h) (aX J)
        ·refine ai<|bl J<|dM J<|aJ ?_;exact bE (K1 (e2.Tag==5) h) (aX J)
    ·skip;refine O<|bl J<|aK J<|fz h J (fun h=>?_) (fun h=>?_)
     ·refine aW ?_;exact bE (hx (e2.Tag==1) h) (aX J)
     ·refine ai<|bl J<|dM J<|aJ ?_;exact bE (hx (e2.Tag==2) h) (aX J)
  ·obtain⟨K,h⟩:=h;refine gj K J<|aS<|ak<|aw J<|eE eh bH J (fh K)<|dM J<|aK J<|ai<|Z J<|Z J ?_;refine ac J (ca J)<|ac J (ca J)<|ac J (fun Y=>dW (bg J Y) (bg J Y))<|cm J<|Z J<|bR h fun t u_ h=>ac J (ca J)<|ac J (fun Y=>aL (bg J Y))<|ac J (fun Y=>bY (n:=15) li J (bg J Y) J)<|ac J (fun Y=>aA (r:=rH dh [(1,aI (ix.h 0).1 (ix.h 0).2 l.g'.length),(2,aI (ix.h 1).1 (ix.h 1).2 l.m'.length)]) (x:=dy l (aI l1 c r.length)) cV J J (eF mG) (.head _) (bg J Y))<|ac J (ca J) ?_;obtain⟨e5,h_,v_⟩:=og u_;have q_e5g:=fun V=>(h_ V).1;refine ac J (fun Y=>dV eh bH J (bg J Y) (bg J Y) (q_e5g Y))<|ac J (bp bH J J)<|ac J (ud J)<|X (cw (D J) (fun V=>(bg J V)) (fun V=>(h_ V).2) v_)<|dM J<|aJ<|eN K hN J ?_;exact aY (aM (ih (i+1) t ⟨ei K,h⟩) (aX J))
def acu(b:Nat)(ix:OI) l{R}(h:j0 l=some R):bU bt 170 [Q (M b 0)] (gx b l ix) (fun _:OI=>fU R.1) (fun j=>gx b R.2 j):=by
 refine bU.of func170 J J J fun w0 S0=>?_;refine(show CG _ _ _ [s (rH ce [(1,aI (ix.h 0).1 (ix.h 0).2 l.g'.length),(2,aI (ix.h 1).1 (ix.h 1).2 l.m'.length)]) 168 b l,lP oH 69 (ix.h 0).1 (ix.h 0).2 l.g',d5 cj 3 (ix.h 1).1 (ix.h 1).2 l.m'] _ from ?_);refine O<|bo<|bC<|aw J<|X (aL (D J))<|aR 17 iE J<|cn false cj 3<|bf<|gi cV J (wQ (hs' :=[(1,aI (ix.h 0).1 (ix.h 0).2 l.g'.length),(2,aI (ix.h 1).1 (ix.h 1).2 l.m'.length)]) (nM _ _) ⟨.inr ⟨J,J⟩,.inr ⟨J,J⟩,aV⟩ J) J (D J) (Fb (show bk _ _ _ (Q CN)from vk)) ?_;refine(show RG _ _ _ _ [_,_,_,_] _ from ?_);refine bC<|aN<|Z J<|X (aL (D J))<|aR 3 js J<|aR 12 sM J<|X (aA (r:=rH dh [(1,aI (ix.h 0).1 (ix.h 0).2 l.g'.length),(2,aI (ix.h 1).1 (ix.h 1).2 l.m'.length)]) (x:=dy l (aI none 0 (y6.length))) Cf J J (eF (fY Bf lW)) (.head _) (D J))<|bX uL J<|X (cB hI)<|bC<|ak<|bJ (k:=14) J fun hN=>bK<|fT<|gB<|gB<|gB ?_;refine aM (yY (aH:=fun ls i ob l1 c l2 c1 l3 c2=>(l.n.D'.drop i=ls)/\go ls ob=some R) (Of:=fun _ i ob l1 c l2 c1 l3 c2=>[s (rH dh [(1,aI l1 c ob.g'.length),(2,aI l2 c1 ob.m'.length)]) 168 b (dy ob (aI l3 c2 ob.j'.length)),lP oH 69 l1 c ob.g',d5 cj 3 l2 c1 ob.m',d5 cj 3 l3 c2 ob.j']) (Gf:=fun _ i ob l1 c l2 c1 l3 c2=>[(0,Q (M b 0)),(14,ek (bT) l.n.D'),(15,mR l.n.D'),(16,bI (i:Int))]) (fun i ob l1 c l2 c1 l3 c2 h=>?_) (fun e tl ih i ob l1 c l2 c1 l3 c2 h=>?_) l.n.D' 0 ({l with j':=y6}:aE) (ix.h 0).1 (ix.h 0).2 (ix.h 1).1 (ix.h 1).2 none 0 ⟨J,h⟩) (aX J)
 ·obtain⟨K,h⟩:=h;refine gk K J<|an<|aw J<|X (aL (D J))<|aR 17 iE J<|X (oT cV (eF nT) (.head _) J (D J))<|X (jg eh (.tail _ (.tail _ (.tail _ (.head _)))) (D J))<|X (d8 (D J) hI)<|aK J ?_;exact qH<|aZ<|dE<|bS 45 J<|ap<|yz (r' :=rH ce [(1,aI l1 c ob.g'.length),(2,aI l2 c1 ob.m'.length)]) (x' :=ob) (fun _ _ _ ho h=>XF h (fun h=>j9 (f7 ho (.head _)) h))<|ap<|aF<|aP<|aP<|aP<|so h▸ci J (y7 [(l1,c),(l2,c1)]) J J (fun _ _ h=>h)
 ·obtain⟨K,h⟩:=h;refine gj K J<|aS<|ak<|O<|eE uL hY J (fh K)<|bD hY s4 J fun b1=>be hY aq J<|bj 4 J<|bC<|aS<|bR h fun r q_ h=>?_;refine ga (ts:=[_,_,_,_,_,_,_,_,_,_,_]) mixed J J
   ⟨Dm 4 J J (CM hY J J),
   ⟨fc J J,
   ⟨eS 22 1 J J (aL (D J)),
   ⟨eS 23 2 J J (pL 15 li J J J),
   ⟨eS 24 3 J J (aA (r:=rH dh [(1,aI l1 c ob.g'.length),(2,aI l2 c1 ob.m'.length)]) (x:=dy ob (aI l3 c2 ob.j'.length)) cV J J (eF mG) (.head _) (D J)),
   ⟨fR 21 0 25 4 J J J (cC Sw (GI _ _ q_) ⟨(D J),(D J),aV⟩),
   ⟨eS 26 5 J J (ki J),
   ⟨eS 20 6 J J (GW J J),
   ⟨eS 20 6 J J (GW J J),
   ⟨eS 27 7 J J (CO J),
   ⟨eS 28 8 J J (CO J),
   aV⟩⟩⟩⟩⟩⟩⟩⟩⟩⟩⟩ ?_
  refine an<|aN<|Z J<|mV J<|bV h J (fun h=>?_) (fun h=>?_)
  ·exact O<|bo<|bF<|ae<|cF<|ae<|cF<|aZ<|dE<|ap<|yz (r' :=rH ce [(1,aI l1 c ob.g'.length),(2,aI l2 c1 ob.m'.length)]) (x' :=ob) (fun _ _ _ ho h=>XF h (fun h=>j9 (f7 ho (.head _)) h))<|ap<|aF<|aP<|aP<|aP<|so h▸ci J (y7 [(l1,c),(l2,c1)]) J J (fun _ _ h=>h)
  ·refine fy<|ai<|Z J<|Z J<|X (aL (D J))<|aR 17 iE J<|X (oT cV (eF nT) (.head _) J (D J))<|Z J<|X (aT (r:=cj) (ys:=[r.1]) (xs:=[.tmp 36]) eh bH J J J J J ⟨(D J),aV⟩)<|dI<|bR h fun l4 q_l4 h=>bA bH J J J J eh J J (D J) (D J) q_l4 fun l5 c3=>X (aL (D J))<|aR 17 iE J<|bf<|gi cV J (wQ (hs' :=[(1,aI l1 c ob.g'.length),(2,aI l2 c1 ob.m'.length)]) (kc _ _ _) ⟨.inr ⟨J,J⟩,.inr ⟨J,J⟩,aV⟩ J) J (D J) (Fb (D J)) ?_;refine(show RG _ _ _ _ [_,_,_,_] _ from ?_);refine aJ<|eN K hN J<|ap<|aZ<|aZ<|aZ ?_;exact aY (aM (ih (i+1) ({ob with j':=l4}:aE) l1 c l2 c1 l5 c3 ⟨ei K,h⟩) (aX J))
def act(b:Nat)(ix:OI) l{R}(h:nI l=some R):bU bt 171 [Q (M b 0)] (gx b l ix) (fun _:OI=>fU R.1) (fun j=>gx b R.2 j):=by
 refine bU.of func171 J J J fun w0 S0=>?_;refine(show CG _ _ _ [s (rH ce [(1,aI (ix.h 0).1 (ix.h 0).2 l.g'.length),(2,aI (ix.h 1).1 (ix.h 1).2 l.m'.length)]) 168 b l,lP oH 69 (ix.h 0).1 (ix.h 0).2 l.g',d5 cj 3 (ix.h 1).1 (ix.h 1).2 l.m'] _ from ?_);refine O<|bo<|bC<|aw J<|Z J<|X (aL (D J))<|aR 15 li J<|X (aA (r:=rH ce [(1,aI (ix.h 0).1 (ix.h 0).2 l.g'.length),(2,aI (ix.h 1).1 (ix.h 1).2 l.m'.length)]) (x:=l) cV J J (eF sf) (.head _) (D J))<|X (aL (D J))<|aR 17 iE J<|f8 (cY cV J (lG (hs' :=[(1,aI (ix.h 0).1 (ix.h 0).2 l.g'.length),(2,aI (ix.h 1).1 (ix.h 1).2 l.m'.length)]) wz ⟨.inr ⟨J,J⟩,.inr ⟨J,J⟩,aV⟩ J) J (D J) (D J)) fun i=>?_;refine(show RG _ _ _ _ [_,_,_] _ from ?_);exact bC<|O<|bo<|bF<|aP<|aP<|aP<|so h▸ci J ix J J (fun _ _ h=>h)
def acs(b:Nat)(ix:OI) l{R}(h:km l=some R):bU bt 172 [Q (M b 0)] (gx b l ix) (fun _:OI=>fU R.1) (fun j=>gx b R.2 j):=by
 refine bU.of func172 J J J fun w0 S0=>?_;refine(show CG _ _ _ [s (rH ce [(1,aI (ix.h 0).1 (ix.h 0).2 l.g'.length),(2,aI (ix.h 1).1 (ix.h 1).2 l.m'.length)]) 168 b l,lP oH 69 (ix.h 0).1 (ix.h 0).2 l.g',d5 cj 3 (ix.h 1).1 (ix.h 1).2 l.m'] _ from ?_);refine O<|bo<|bC<|aS<|aS ?_;refine ga (ts:=[_,_,_,_,_,_,_,_,_,_,_]) mixed J J
  ⟨fc J J,
  ⟨eS 6 0 J J (aL (D J)),
  ⟨eS 7 1 J J (pL 15 li J J J),
  ⟨eS 8 2 J J (aA (r:=rH ce [(1,aI (ix.h 0).1 (ix.h 0).2 l.g'.length),(2,aI (ix.h 1).1 (ix.h 1).2 l.m'.length)]) (x:=l) cV J J (eF sf) (.head _) (D J)),
  ⟨eS 9 3 J J (zln eh J),
  ⟨fc J J,
  ⟨eS 11 5 J J (aL (D J)),
  ⟨eS 12 6 J J (pL 16 Es J J J),
  ⟨eS 13 7 J J (aA (r:=rH ce [(1,aI (ix.h 0).1 (ix.h 0).2 l.g'.length),(2,aI (ix.h 1).1 (ix.h 1).2 l.m'.length)]) (x:=l) cV J J (eF Ko) (.head _) (D J)),
  ⟨eS 14 8 J J (zln eh J),
  ⟨fR 10 4 15 9 J J J (dc (D J) (D J)),
  aV⟩⟩⟩⟩⟩⟩⟩⟩⟩⟩⟩ ?_
 refine an<|fz h J (fun h=>?_) (fun h=>?_)
 ·exact O<|bo<|bF<|ae<|aP<|aP<|aP<|so h▸ci J ix J J (fun _ _ h=>h)
 ·refine fy<|aw J<|X (aL (D J))<|aR 17 iE J<|cn false cj 3<|bf<|gi cV J (wQ (hs' :=[(1,aI (ix.h 0).1 (ix.h 0).2 l.g'.length),(2,aI (ix.h 1).1 (ix.h 1).2 l.m'.length)]) (nM _ _) ⟨.inr ⟨J,J⟩,.inr ⟨J,J⟩,aV⟩ J) J (D J) (Fb (show bk _ _ _ (Q CN)from vk)) ?_;refine(show RG _ _ _ _ [_,_,_,_] _ from ?_);refine bC<|aN<|Z J<|X (aL (D J))<|aR 15 li J<|X (aA (r:=rH dh [(1,aI (ix.h 0).1 (ix.h 0).2 l.g'.length),(2,aI (ix.h 1).1 (ix.h 1).2 l.m'.length)]) (x:=dy l (aI none 0 (y6.length))) cV J J (eF mG) (.head _) (D J))<|bX eh J<|X (cB hI)<|bC<|ak<|bJ (k:=23) J fun hN=>bK<|fT<|gB<|gB<|gB ?_;refine aM (yY (aH:=fun ls i ob l1 c l2 c1 l3 c2=>(l.a_.drop i=ls)/\eV ls i ob=some R) (Of:=fun _ i ob l1 c l2 c1 l3 c2=>[s (rH dh [(1,aI l1 c ob.g'.length),(2,aI l2 c1 ob.m'.length)]) 168 b (dy ob (aI l3 c2 ob.j'.length)),lP oH 69 l1 c ob.g',d5 cj 3 l2 c1 ob.m',d5 cj 3 l3 c2 ob.j']) (Gf:=fun _ i ob l1 c l2 c1 l3 c2=>[(0,Q (M b 0)),(23,lk l.a_),(24,mR l.a_),(25,bI (i:Int))]) (fun i ob l1 c l2 c1 l3 c2 h=>?_) (fun e tl ih i ob l1 c l2 c1 l3 c2 h=>?_) l.a_ 0 ({l with j':=y6}:aE) (ix.h 0).1 (ix.h 0).2 (ix.h 1).1 (ix.h 1).2 none 0 ⟨J,h⟩) (aX J)
  ·obtain⟨K,h⟩:=h;refine gk K J<|an<|O<|bo<|bF<|aZ<|dE<|ap<|yz (r' :=rH ce [(1,aI l1 c ob.g'.length),(2,aI l2 c1 ob.m'.length)]) (x' :=ob) (fun _ _ _ ho h=>XF h (fun h=>j9 (f7 ho (.head _)) h))<|ap ?_;exact aF<|aP<|aP<|aP<|so h▸ci J (y7 [(l1,c),(l2,c1)]) J J (fun _ _ h=>h)
  ·obtain⟨K,h⟩:=h;refine gj K J<|aS<|ak<|aw J<|eE eh bH J (fh K)<|dM J<|aK J<|aw J ?_;refine X (aL (D J))<|aR 16 Es J<|X (aA (r:=rH dh [(1,aI l1 c ob.g'.length),(2,aI l2 c1 ob.m'.length)]) (x:=dy ob (aI l3 c2 ob.j'.length)) cV J J (eF Ol) (.head _) (D J))<|Z J<|bR h fun e1 Z' h=>eE eh bH J Z'<|aK J ?_;refine dP (aH:=fun k=>g9 (eV tl) i ob e1 k=some R) (Of:=fun k=>[s (rH dh [(1,aI l1 c ob.g'.length),(2,aI l2 c1 ob.m'.length)]) 168 b (dy ob (aI l3 c2 ob.j'.length)),lP oH 69 l1 c ob.g',d5 cj 3 l2 c1 ob.m',d5 cj 3 l3 c2 ob.j']) (Gf:=fun k=>[(0,Q (M b 0)),(4,bI k),(5,bI e1),(23,lk l.a_),(24,mR l.a_),(25,bI (i:Int))]) (fun k h=>?_) (fun hx=>?_)
   ·skip;refine aN<|Z J<|mV J<|Z J<|ac J (ca J)<|ac J (ca J)<|ac J (fun Y=>dc (bg J Y) (bg J Y))<|cm J<|bV h J (fun h=>?_) (fun h=>?_)
    ·exact O<|bo<|bF<|ae<|cF<|ae<|cF<|aZ<|dE<|ap<|yz (r' :=rH ce [(1,aI l1 c ob.g'.length),(2,aI l2 c1 ob.m'.length)]) (x' :=ob) (fun _ _ _ ho h=>XF h (fun h=>j9 (f7 ho (.head _)) h))<|ap<|aF<|aP<|aP<|aP<|so h▸ci J (y7 [(l1,c),(l2,c1)]) J J (fun _ _ h=>h)
    ·refine fy<|ai<|Z J<|Z J<|X (aL (D J))<|aR 17 iE J<|X (oT cV (eF nT) (.head _) J (D J))<|Z J<|X (aT (r:=cj) (ys:=[k]) (xs:=[.tmp 52]) eh bH J J J J J ⟨(D J),aV⟩)<|dI<|bR h fun l4 q_l4 h=>bA bH J J J J eh J J (D J) (D J) q_l4 fun l5 c3=>X (aL (D J))<|aR 17 iE J<|bf<|gi cV J (wQ (hs' :=[(1,aI l1 c ob.g'.length),(2,aI l2 c1 ob.m'.length)]) (kc _ _ _) ⟨.inr ⟨J,J⟩,.inr ⟨J,J⟩,aV⟩ J) J (D J) (Fb (D J)) ?_;refine(show RG _ _ _ _ [_,_,_,_] _ from ?_);refine aJ<|eN K hN J<|ap<|aZ<|aZ<|aZ ?_;exact aY (aM (ih (i+1) ({ob with j':=l4}:aE) l1 c l2 c1 l5 c3 ⟨ei K,h⟩) (aX J))
   ·skip;refine aw J<|bl J<|bV h J (fun h=>?_) (fun h=>?_)
    ·refine ai<|Z J<|dM J<|aJ ?_;exact bE (hx e1 h) (aX J)
    ·refine aW ?_;exact bE (hx e h) (aX J)
def Y9 bx f{R}(h:jT bx f=some R):dk bt 238 [ek (fI) bx,(nL bt U3 td (fun(x:jJ)=>f x))] (bI R):=by
 refine dX func238 J<|O<|bP<|bC<|aN<|Z J<|bX uM J<|X (cB hI)<|bC<|ak<|bJ (k:=6) J fun hN=>bK ?_;refine aM (f0 (aH:=fun ls i=>(bx.drop i=ls)/\fM f ls i=some R) (Of:=fun _ i=>[]) (Gf:=fun _ i=>[(0,ek (fI) bx),(1,(nL bt U3 td (fun(x:jJ)=>f x))),(7,mR bx),(8,bI (i:Int))]) (fun i h=>?_) (fun e tl ih i h=>?_) bx 0 ⟨J,h⟩) (aX J)
 ·obtain⟨K,h⟩:=h;exact gk K J<|an<|O<|ea<|so h▸aC J J
 ·obtain⟨K,h⟩:=h;refine gj K J<|aS<|ak<|aw J<|aK J<|aw J<|Z J<|Z J<|FF uM qY J (fh K) ?_;refine eb qY J<|bR h fun r q_ h=>X (nP (args:=U3) (res:=DB) (f:=(fun(x:jJ)=>f x)) (x:=((e):jJ)) (D J) q_ ⟨(D J),aV⟩)<|bV h J (fun h=>?_) (fun h=>?_)
  ·exact aw J<|ba J<|cF<|ae<|cF<|so h▸aC J J
  ·refine aW<|eN K hN J ?_;exact aY (aM (ih (i+1) ⟨ei K,h⟩) (aX J))
def Zk bx f{R}(h:gK bx f=some R):dk bt 207 [ek (fI) bx,(nL bt U3 td (fun(x:jJ)=>f x))] (fU R):=by
 exact dX func207 J<|O<|bo<|bC<|aw J<|Z J<|ej h aei (Y9 _ _) (co J) fun r h=>X (d9 (D J) hI)<|ba J<|so h▸aC J J
