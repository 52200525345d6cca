import Derived.Test.YtdohlidddcgfjaaGreatFgT
import Derived.Test.YtdohlidddcgfjaaGreatFgP24
set_option linter.all false
namespace Go.Proofs.YtdohlidddcgfjaaGreat
open Go IntKind Tryz EffOK
set_option maxRecDepth 100000
def acb b{R}(h:mC b=some R):dk bt 25 [ek ((rI .u8)) b] (tT [tD ew R.1,bI R.2]):=by
 refine dX func25 J<|O<|bD fj mU J fun b1=>bP<|bC<|aw J<|ej h agv (ab1 _) (co J) fun r h=>Z J<|dJ J J<|dJ J J<|dM J<|aK J<|aN<|Z J<|mV J ?_;refine bV h J (fun h=>?_) (fun h=>?_)
 ·exact O<|X (cI fj Gi mU J)<|Z J<|be fj aq J<|ba J<|ae<|cJ 2 J<|so h▸kD J J ⟨hZ fj J J J,dH J,aV⟩
 ·refine fy<|aw J<|bR h fun r1 I' h=>bc (ay (xs:=[.tmp 17]) (ts:=[ek ((rI .u8)) r.1]) [] _ J agA (adJ _ I') ⟨(D J),aV⟩ (fun _=>J)) J fun i=>?_;refine(show RG _ _ _ _ [_,_,_] ((18,Q (M (i.h 0).2 0))::_)from ?_);refine aK J<|aw J<|bR h fun r2 Y' h=>bc (fr1 (fr1 (ay (xs:=[.tmp 19]) (ts:=[Q (M (i.h 0).2 0)]) [s (rH ax [(0,M (i.h 1).2 0)]) 146 (i.h 0).2 r1.1,s dv 183 (i.h 1).2 r1.2] _ J agu (adG _ _ _ _ Y') ⟨(D J),aV⟩ (fun _=>J)))) J fun i1=>?_;refine(show RG _ _ _ _ [_,_,_] ((20,tD ew r2.1)::_)from ?_);refine bD fj mU J fun b2=>be fj aq J<|bj 7 J<|bC<|aN<|Z J<|bR h fun r3 C_ h=>bc (fr1 (fr1 (ay (xs:=[.tmp 21]) (ts:=[Q (M (i.h 0).2 0)]) [s (rH ax [(0,M (i.h 1).2 0)]) 146 (i.h 0).2 r2.2.1,s dv 183 (i.h 1).2 r2.2.2] _ J agy (adH _ _ _ _ C_) ⟨(D J),aV⟩ (fun _=>J)))) J fun i2=>?_;refine(show RG _ _ _ _ [_,_,_] ((22,fU r3)::_)from ?_);refine X (fq (D J))<|Z J<|bR h fun t u_ h=>aB J (fun Y=>CM fj J J) ?_;obtain⟨r4,h_,v_⟩:=og u_;have q_r4g:=fun V=>(h_ V).1;refine aB J (fun Y=>cC adW (Ws _ (q_r4g Y)) ⟨(bg J Y),aV⟩)<|aB J (nt J)<|X (iQ (D J) (fun V=>(bg J (sL V))) (fun V=>(h_ V).2) v_)<|Z J<|aB J (ca J)<|aB J (hM gV J)<|aB J (fun Y=>d8 (bg J Y) hI)<|dG J<|bV h J (fun h=>?_) (fun h=>?_)
  ·exact O<|X (cI fj Gi mU J)<|cd<|be fj aq J<|ea<|ae<|cJ 2 J<|aF<|aF<|so h▸kD J J ⟨hZ fj J J J,dH J,aV⟩
  ·exact fy<|O<|eb fj J<|cd<|be fj aq J<|ea<|cJ 2 J<|aF<|aF<|so h▸kD J J ⟨hZ fj J J J,dH J,aV⟩
def ZY a1 b{R}(h:zx a1 b=some R):dk bt 107 [ek ((rI .u8)) a1,ek ((rI .u8)) b] (fU R):=by
 refine dX func107 J<|O<|bo<|bC<|aN<|Z J<|bX gV J<|Z J<|bX gV J<|X (dc (D J) (D J))<|bV h J (fun h=>?_) (fun h=>?_)
 ·exact O<|bo<|bF<|ae<|so h▸aC J J
 ·refine fy<|aN<|bP<|bC<|ak<|bJ (k:=0) J fun hN=>bK ?_;refine aM (f0 (aH:=fun ls i=>(a1.drop i=ls)/\sW b ls i=some R) (Of:=fun _ i=>[]) (Gf:=fun _ i=>[(0,ek ((rI .u8)) a1),(1,ek ((rI .u8)) b),(5,bI (i:Int))]) (fun i h=>?_) (fun e tl ih i h=>?_) a1 0 ⟨J,h⟩) (aX J)
  ·obtain⟨K,h⟩:=h;exact JK gV K J<|an<|O<|bo<|bF<|so h▸aC J J
  ·obtain⟨K,h⟩:=h;refine JJ gV K J<|aS<|ak<|aS<|bR h fun e1 Z' h=>?_;refine ga (ts:=[_,_,_,_,_,_,_,_,_]) mixed J J
    ⟨fc J J,
    ⟨fc J J,
    ⟨fR 17 0 18 1 J J J (Aq gV iV J J J (fh K)),
    ⟨kF 2 iV J J,
    ⟨fc J J,
    ⟨fc J J,
    ⟨fR 21 4 22 5 J J J (Aq gV iV J J J Z'),
    ⟨kF 6 iV J J,
    ⟨fR 20 3 24 7 J J J (dc (D J) (D J)),
    aV⟩⟩⟩⟩⟩⟩⟩⟩⟩ ?_
   refine an<|fz h J (fun h=>?_) (fun h=>?_)
   ·exact O<|bo<|bF<|cF<|ae<|cF<|so h▸aC J J
   ·refine aW<|GX K hN J ?_;exact aY (aM (ih (i+1) ⟨ei K,h⟩) (aX J))
def ab0 b{R}(h:xH b=some R):dk bt 52 [ek ((rI .u8)) b] (fU R):=by
 refine dX func52 J<|O<|bo<|bC<|aw J<|bX gV J<|X (d9 (D J) hI)<|Z J<|bR h fun t u_ h=>ac J (ca J)<|ac J (ca J)<|ac J (hM gV J)<|ac J (fun Y=>ec (bg J Y) hI) ?_;obtain⟨y,h_,v_⟩:=og u_;have q_yg:=fun V=>(h_ V).1;refine ac J (fun Y=>w4 gV iV J (bg J Y) (bg J Y) (q_yg Y)) ?_;obtain⟨r,h_⟩:=og2 (fun V=>(h_ V).2);have x_:=fun V=>(h_ V).1;refine ac J (fun Y=>cC Q3 (ab5 _ (x_ Y)) ⟨(bg J Y),aV⟩)<|ac J (ca J) ?_;obtain⟨r1,h_⟩:=og2 (fun V=>(h_ V).2);have k_:=fun V=>(h_ V).1;exact ac J (fun Y=>cC afy (ZY _ _ (k_ Y)) ⟨(bg J Y),(bg J Y),aV⟩)<|X (cw (D J) (fun V=>(bg J V)) (fun V=>(h_ V).2) v_)<|ba J<|so h▸aC J J
def Bj(b:Nat)(ix:OI) c width{R}(h:bW c width=some R):bU bt 149 [Q (M b 0),bI width] (jf b c ix) (fun _:OI=>tD mp R.1) (fun j=>jf b R.2 j):=by
 refine bU.of func149 J J J fun w0 S0=>?_;refine(show CG _ _ _ [s sD 98 b c] _ from ?_);refine O<|bP<|bC<|aS<|aS ?_;refine ga (ts:=[_,_,_,_,_,_,_,_,_,_,_,_,_,_,_,_,_,_]) mixed J J
  ⟨fc J J,
  ⟨eS 7 0 J J (aL (D J)),
  ⟨eS 8 1 J J (pL 2 oq J J J),
  ⟨eS 9 2 J J (aA (r:=rH dO []) (x:=c) ua J J (eF jF) (.head _) (D J)),
  ⟨eS 10 3 J J (ki J),
  ⟨te 0 11 4 J J J (eQ J J J J (fun Y=>ki J)),
  ⟨iX 12 5 11 4 J J J (eQ J J J J (fun Y=>aL (bg J Y))),
  ⟨iX 13 6 11 4 J J J (eQ J J J J (fun Y=>bY (n:=1) xc J (bg J Y) J)),
  ⟨iX 14 7 11 4 J J J (eQ J J J J (fun Y=>aA (r:=rH dO []) (x:=c) bH J J (eF nV) (.head _) (bg J Y))),
  ⟨te 1 11 4 J J J (eQ J J J J (fun Y=>ki J)),
  ⟨AC 15 8 16 9 11 4 J J J J (eQ J J J J (fun Y=>cU (bg J Y) (bg J Y))),
  ⟨te 0 11 4 J J J (eQ J J J J (fun Y=>ki J)),
  ⟨iX 18 11 11 4 J J J (eQ J J J J (fun Y=>aL (bg J Y))),
  ⟨iX 19 12 11 4 J J J (eQ J J J J (fun Y=>bY (n:=0) Id J (bg J Y) J)),
  ⟨iX 20 13 11 4 J J J (eQ J J J J (fun Y=>aA (r:=rH dO []) (x:=c) wN J J (eF tS) (.head _) (bg J Y))),
  ⟨iX 21 14 11 4 J J J (eQ J J J J (fun Y=>fK gV (bg J Y))),
  ⟨AC 17 10 22 15 11 4 J J J J (eQ J J J J (fun Y=>d8 (bg J Y) (bg J Y))),
  ⟨fR 11 4 23 16 J J J (zpo J J),
  aV⟩⟩⟩⟩⟩⟩⟩⟩⟩⟩⟩⟩⟩⟩⟩⟩⟩⟩ ?_
 refine an<|fz h J (fun h=>?_) (fun h=>?_)
 ·refine aw J<|X (aL (D J))<|aR 2 oq J<|f8 (cY ua J (lG (hs' :=[]) o7 trivial J) J (D J) hB) fun i=>?_;refine(show RG _ _ _ _ [_] _ from ?_);exact bC<|O<|ea<|ae<|so h▸ci J fe J J (fun _ _ h=>h)
 ·refine fy<|O<|bP<|bC<|aN<|bP<|bC<|ak<|bK ?_;refine aM (z6 (aH:=fun n1 n i1=>iZ c width n1 n i1=some R) (Of:=fun n i1=>[s sD 98 b c]) (Gf:=fun n i1=>[(0,Q (M b 0)),(1,bI width),(5,tD mp n),(6,bI i1)]) (fun n i1 h=>nn h) (fun n1 ih n i1 h=>?_) de 0 0 h) (aX J);refine cy<|aN<|Z J<|Z J<|im J<|bV h J (fun h=>?_) (fun h=>?_)
  ·refine fy<|aS<|ak<|bR h fun e N_ h=>?_;refine ga (ts:=[_,_,_,_,_,_,_,_,_,_,_,_,_,_,_,_,_]) mixed J J
    ⟨fc J J,
    ⟨eS 33 0 J J (HK (D J) hI),
    ⟨fc J J,
    ⟨eS 35 2 J J (aL (D J)),
    ⟨eS 36 3 J J (pL 0 Id J J J),
    ⟨eS 37 4 J J (aA (r:=rH dO []) (x:=c) wN J J (eF tS) (.head _) (D J)),
    ⟨fc J J,
    ⟨eS 39 6 J J (aL (D J)),
    ⟨eS 40 7 J J (pL 1 xc J J J),
    ⟨eS 41 8 J J (aA (r:=rH dO []) (x:=c) bH J J (eF nV) (.head _) (D J)),
    ⟨fc J J,
    ⟨fR 42 9 43 10 J J J (cU (D J) (D J)),
    ⟨fR 38 5 44 11 J J J (Aq gV iV J J J N_),
    ⟨kF 12 iV J J,
    ⟨eS 46 13 J J (cT ln wG (D J)),
    ⟨fR 34 1 47 14 J J J (cU (D J) (D J)),
    ⟨eS 48 15 J J (CO J),
    aV⟩⟩⟩⟩⟩⟩⟩⟩⟩⟩⟩⟩⟩⟩⟩⟩⟩ ?_
   refine ah<|an<|ai<|Z J<|X (cU (D J) hI)<|dM J<|aJ ?_;exact aY (aM (ih (u64.wrap ((u64.wrap (n*256))+(u64.wrap e))) (i64.wrap (i1+1)) h) (aX J))
  ·refine cL<|am<|am<|bL<|an<|aw J<|Z J<|X (aL (D J))<|aR 1 xc J<|X (aA (r:=rH dO []) (x:=c) bH J J (eF nV) (.head _) (D J))<|Z J<|X (cU (D J) (D J))<|X (aL (D J))<|aR 1 xc J<|f8 (cY bH J (lG (hs' :=[]) AO trivial J) J (D J) (D J)) fun i2=>?_;refine(show RG _ _ _ _ [_] _ from ?_);exact bC<|aw J<|ba J<|so h▸ci J fe J J (fun _ _ h=>h)
def nC(b:Nat)(ix:OI) c{R}(h:br c=some R):bU bt 108 [Q (M b 0)] (jf b c ix) (fun _:OI=>bI R.1) (fun j=>jf b R.2 j):=by
 refine bU.of func108 J J J fun w0 S0=>?_;refine(show CG _ _ _ [s sD 98 b c] _ from ?_);refine O<|bP<|bC<|aw J<|bR h fun r q_ h=>bc (ay (xs:=[.tmp 3,.const (.int .i64 (1))]) (ts:=[Q (M b 0),bI 1]) (jf b c fe) _ J FW (Bj b fe c _ q_) ⟨(D J),hI,aV⟩ (fun _=>J)) J fun i=>?_;refine(show RG _ _ _ _ [_] ((4,tD mp r.1)::_)from ?_);exact X (cT wG jm (D J))<|ba J<|so h▸ci J fe J J (fun _ _ h=>h)
def QD(b:Nat)(ix:OI) c{R}(h:iN c=some R):bU bt 150 [Q (M b 0)] (jf b c ix) (fun _:OI=>lk R.1) (fun j=>jf b R.2 j):=by
 refine bU.of func150 J J J fun w0 S0=>?_;refine(show CG _ _ _ [s sD 98 b c] _ from ?_);refine O<|fb cj<|bC<|O<|cn false cj 3<|X (cg vk)<|bC<|aw J<|bR h fun r q_ h=>bc (fr1 (ay (xs:=[.tmp 6]) (ts:=[Q (M b 0)]) (jf b c fe) _ J sx (nC b fe c q_) ⟨(D J),aV⟩ (fun _=>J))) J fun i=>?_;refine(show RG _ _ _ _ [_,_] ((7,bI r.1)::_)from ?_);refine aK J<|aN<|bP<|bC<|ak<|bK<|fT ?_;refine aM (uF (aH:=fun n out l c1 i1 ob=>gb r n out i1 ob=some R) (Of:=fun out l c1 i1 ob=>[d5 cj 3 l c1 out,s sD 98 b ob]) (Gf:=fun out l c1 i1 ob=>[(0,Q (M b 0)),(3,oI l c1 out),(4,bI r.1),(5,bI i1)]) (fun out l c1 i1 ob h=>nn h) (fun n ih out l c1 i1 ob h=>?_) de y6 none 0 0 r.2 h) (aX J);refine cy<|aN<|Z J<|Z J<|im J<|Z J<|ac J (ca J)<|ac J (fun Y=>aL (bg J Y))<|ac J (fun Y=>bY (n:=2) oq J (bg J Y) J)<|ac J (fun Y=>aA (r:=rH dO []) (x:=ob) ua J J (eF jF) (.tail _ (.head _)) (bg J Y))<|ac J (nt J)<|cm J<|bV h J (fun h=>?_) (fun h=>?_)
 ·refine fy<|aS<|ak<|ai<|Z J<|Z J<|bR h fun r1 I' h=>bc (fr1 (ay (xs:=[.tmp 21]) (ts:=[Q (M b 0)]) (jf b ob fe) _ J sx (nC b fe ob I') ⟨(D J),aV⟩ (fun _=>J))) J fun i2=>?_;refine(show RG _ _ _ _ [_,_] ((22,bI r1.1)::_)from ?_);refine X (aT (r:=cj) (ys:=[r1.1]) (xs:=[.tmp 22]) eh bH J J J J J ⟨(D J),aV⟩)<|bf<|bR h fun n' X' h=>bA bH J J J J eh J J (D J) (D J) X' fun l1 c2=>dM J<|aJ<|ah<|an<|ai<|Z J<|X (cU (D J) hI)<|dM J<|aJ ?_;exact aY (aM (ih n' l1 c2 (i64.wrap (i1+1)) r1.2 h) (aX J))
 ·exact cL<|am<|am<|bL<|an<|aw J<|ba J<|dE<|bS 3 J<|bS 25 J<|bS 2 J<|fa 2 J<|aF<|so h▸ci J fe J J (fun _ _ h=>h)
def L7(b:Nat)(ix:OI) c{R}(h:fV c=some R):bU bt 111 [Q (M b 0)] (jf b c ix) (fun _:OI=>fU R.1) (fun j=>jf b R.2 j):=by
 refine bU.of func111 J J J fun w0 S0=>?_;refine(show CG _ _ _ [s sD 98 b c] _ from ?_);refine O<|bo<|bC<|aw J<|bR h fun r q_ h=>bc (ay (xs:=[.tmp 4,.const (.int .i64 (1))]) (ts:=[Q (M b 0),bI 1]) (jf b c fe) _ J FW (Bj b fe c _ q_) ⟨(D J),hI,aV⟩ (fun _=>J)) J fun i=>?_;refine(show RG _ _ _ _ [_] ((5,tD mp r.1)::_)from ?_);refine aK J ?_;refine dP (aH:=fun ob=>lu r ob=some R) (Of:=fun ob=>[s sD 98 b ob]) (Gf:=fun ob=>[(3,tD mp r.1)]) (fun ob h=>?_) (fun hx=>?_)
 ·skip;exact aw J<|bl J<|ba J<|so h▸ci J fe J J (fun _ _ h=>h)
 ·skip;refine aw J<|X (d8 (D J) hI)<|bV h J (fun h=>?_) (fun h=>?_)
  ·refine ai<|Z J<|X (aL (D J))<|aR 2 oq J<|f8 (cY ua J (lG (hs' :=[]) o7 trivial J) J (D J) hB) fun i1=>?_;refine(show RG _ _ _ _ [_] _ from ?_);refine aJ ?_;exact bE (hx ({r.2 with B_:=true}:bd) h) (aX J)
  ·refine aW ?_;exact bE (hx r.2 h) (aX J)
def Sk tops n M'{R}(h:o8 tops n M'=some R):dk bt 152 [lk tops,bI n,bI M'] (tT [lk R.1,bI R.2.1,bI R.2.2.1,fU R.2.2.2]):=by
 refine dX func152 J<|O<|cn false cj 3<|X (cg vk)<|bP<|bP<|bo<|bC<|aw J<|bX eh J<|aK J<|aN<|Z J<|Z J<|im J<|aJ ?_;refine an<|fz h J (fun h=>?_) (fun h=>?_)
 ·exact O<|cn false cj 3<|X (cg vk)<|bP<|bP<|bo<|bF<|ae<|dE<|bS 6 J<|fa 6 J<|aF<|aF<|so h▸SS J J J J J
 ·refine fy<|O<|bP<|bP<|bC ?_;refine u7 (aH:=fun a1 b=>oN tops n M' a1 b=some R) (Of:=fun a1 b=>[]) (Gf:=fun a1 b=>[(0,lk tops),(1,bI n),(2,bI M'),(10,mR tops),(11,bI a1),(12,bI b)]) (fun a1 b h=>?_) (fun hx=>?_)
  ·skip;refine dP (aH:=fun a2=>q7 tops n M' b a2=some R) (Of:=fun a2=>[]) (Gf:=fun a2=>[(0,lk tops),(1,bI n),(2,bI M'),(10,mR tops),(11,bI a2),(12,bI b)]) (fun a2 h=>?_) (fun K1=>?_)
   ·skip;refine O<|iU (r:=cj) (ys:=y6) (xs:=[]) eh bH J J J J J trivial J fun l c=>Z J<|Z J<|Z J<|X (ec (D J) (D J))<|bR h fun y M_ h=>X (w4 eh bH J (D J) (D J) M_)<|bR h fun l1 Y_ h=>bA bH J J J J eh J J (D J) (D J) Y_ fun l2 c1=>Z J<|X (aT (r:=cj) (ys:=[M']) (xs:=[.tmp 44]) eh bH J J J J J ⟨(D J),aV⟩)<|bR h fun x q_x h=>bA bH J J J J eh J J (D J) (D J) q_x fun l3 c2=>Z J<|Z J<|dM J<|dM J<|dM J<|bo<|bF ?_;exact dE<|bS 46 J<|bS 6 J<|fa 6 J<|aF<|so h▸SS J J J J J
   ·skip;refine aw J<|bl J<|bV h J (fun h=>?_) (fun h=>?_)
    ·refine ai<|Z J<|Z J<|X (ec (D J) hI)<|bR h fun e N_ h=>eE eh bH J N_<|dM J<|aJ ?_;exact bE (K1 e h) (aX J)
    ·refine aW ?_;exact bE (K1 a1 h) (aX J)
  ·skip;refine aw J<|bl J<|bV h J (fun h=>?_) (fun h=>?_)
   ·refine bR h fun e1 Z' h=>bR h fun e2 I_ h=>?_;refine ga (ts:=[_,_,_,_,_,_,_,_,_,_,_,_]) mixed J J
     ⟨fc J J,
     ⟨fc J J,
     ⟨eS 21 1 J J (ec (D J) hI),
     ⟨fR 20 0 22 2 J J J (Aq eh bH J J J Z'),
     ⟨kF 3 bH J J,
     ⟨fc J J,
     ⟨fc J J,
     ⟨eS 26 6 J J (ec (D J) hI),
     ⟨fR 25 5 27 7 J J J (Aq eh bH J J J I_),
     ⟨kF 8 bH J J,
     ⟨eS 24 4 J J (CO J),
     ⟨eS 29 9 J J (CO J),
     aV⟩⟩⟩⟩⟩⟩⟩⟩⟩⟩⟩⟩ ?_
    refine aF ?_;exact bE (hx e1 e2 h) (aX J)
   ·refine aW<|aF ?_;exact bE (hx DA DA h) (aX J)
def LS b{R}(h:lT b=some R):dk bt 246 [ek ((rI .u8)) b] (tD mp R):=by
 refine dX func246 J<|O<|bP<|bC<|O<|bP<|bC<|aN<|Z J<|bR h fun y M_ h=>X (w4 gV iV J (D J) hI M_)<|bX gV J<|X (cB hI)<|bC<|ak<|bJ (k:=7) J fun hN=>bK ?_;refine aM (uE (aH:=fun ls i n=>(y.drop i=ls)/\sV ls n=some R) (Of:=fun _ i n=>[]) (Gf:=fun _ i n=>[(3,tD mp n),(7,ek ((rI .u8)) y),(8,mR y),(9,bI (i:Int))]) (fun i n h=>?_) (fun e tl ih i n h=>?_) y 0 0 ⟨J,h⟩) (aX J)
 ·obtain⟨K,h⟩:=h;exact gk K J<|an<|aw J<|ba J<|so h▸aC J J
 ·obtain⟨K,h⟩:=h;refine gj K J<|aS<|ak<|O<|eE gV iV J (fh K)<|aK J<|ai<|Z J<|X (VJ (D J) hI (by decide))<|Z J<|X (cT ln wG (D J)) ?_;refine X (cU (D J) (D J))<|dM J<|aJ<|eN K hN J ?_;exact aY (aM (ih (i+1) (u64.wrap ((u64.wrap (n*2^(min (Int.toNat 8) u64.bits)))+(u64.wrap e))) ⟨ei K,h⟩) (aX J))
def Sg b{R}(h:lU b=some R):dk bt 226 [ek ((rI .u8)) b] (tT [tD bh R.1,bI R.2.1,bI R.2.2]):=by
 refine dX func226 J<|O<|bD cb ge J fun b1=>bP<|bP<|bC<|aN<|Z J<|bX gV J<|X (eC (D J) hI)<|bV h J (fun h=>?_) (fun h=>?_)
 ·exact O<|X (cI cb vF ge J)<|be cb aq J<|bP<|ea<|ae<|cJ 2 J<|so h▸kD J J ⟨hZ cb J J J,dH J,dH J,aV⟩
 ·refine fy<|aN<|Z J<|bR h fun e N_ h=>X (dV gV iV J (D J) hI N_)<|eb iV J<|X (d8 (D J) hI)<|bV h J (fun h=>?_) (fun h=>?_)
  ·exact O<|X (cI cb vF ge J)<|be cb aq J<|bP<|ea<|ae<|cJ 2 J<|so h▸kD J J ⟨hZ cb J J J,dH J,dH J,aV⟩
  ·refine fy<|O<|X (uX (r:=cj) (ys:=[1,2,9,2,17]) (xs:=[.const (.int .i64 (1)),.const (.int .i64 (2)),.const (.int .i64 (9)),.const (.int .i64 (2)),.const (.int .i64 (17))]) underlying266 bH J Vl J J ⟨hI,hI,hI,hI,hI,aV⟩)<|bD (r:=(pP cj 5)) (x:=(List.replicate 5 (0:Int))) Vl (fun _=>Br (r:=cj) 5 (fun _=>J) _) J fun b2=>be Vl aq J<|bj 5 J<|bC<|aS<|bR h fun e1 Z' h=>?_;refine jK 12 [tc (ek ((rI .u8)) b),tc (da (rI .u8) e),tc (tD (rI .u8) e),tc (bI (i64.wrap e)),tc (tD bh (⟨(i64.wrap e),0,0,[]⟩:aD)),tc (ek ((rI .u8)) b),tc (da (rI .u8) e),tc (tD (rI .u8) e),tc (da cj e1),tc (bI e1),([10],fun bx=>Q (M ((bx.getD 0 fe).h 0).2 0)),tc (ER)] [false,false,false,false,false,false,false,false,false,false,true,true] [fun _=>[s bh 104 b1 AA],fun sg=>[s bh 104 ((sg 10).h 0).2 AA,s bh 104 b1 AA],fun sg=>[s bh 104 ((sg 10).h 0).2 (⟨(i64.wrap e),0,0,[]⟩:aD),s bh 104 b1 AA]] J mixed J J J J J
    ⟨⟨[⟨0,fun _=>tD KN b,none⟩],_,0,1,J,⟨(fun _=>J),aV⟩,J,J,J,J,J,fun _ sg _ _=>af J (ki J)⟩,
    ⟨⟨[⟨18,fun _=>tD KN b,some 0⟩],_,0,1,J,⟨(fun _=>J),aV⟩,J,J,J,J,J,fun _ sg _ _=>af J (dV gV iV J (D J) hI N_)⟩,
    ⟨⟨[⟨19,fun _=>da (rI .u8) e,some 1⟩],_,0,1,J,⟨(fun _=>J),aV⟩,J,J,J,J,J,fun _ sg _ _=>af J (CM iV J J)⟩,
    ⟨⟨[⟨20,fun _=>tD (rI .u8) e,some 2⟩],_,0,1,J,⟨(fun _=>J),aV⟩,J,J,J,J,J,fun _ sg _ _=>af J (cT ln jm (D J))⟩,
    ⟨⟨[⟨21,fun _=>tD cj (i64.wrap e),some 3⟩],_,0,1,J,⟨(fun _=>J),aV⟩,J,J,J,J,J,fun _ sg _ _=>af J (cI (y:=(⟨(i64.wrap e),0,0,[]⟩:aD)) cb vF ge (⟨_,_,_,_,_,J,wS,J,(D J),J⟩))⟩,
    ⟨⟨[⟨0,fun _=>tD KN b,none⟩],_,0,2,J,⟨(fun _=>J),aV⟩,J,J,J,J,J,fun _ sg _ _=>af J (ki J)⟩,
    ⟨⟨[⟨23,fun _=>tD KN b,some 5⟩],_,0,2,J,⟨(fun _=>J),aV⟩,J,J,J,J,J,fun _ sg _ _=>af J (dV gV iV J (D J) hI N_)⟩,
    ⟨⟨[⟨24,fun _=>da (rI .u8) e,some 6⟩],_,0,2,J,⟨(fun _=>J),aV⟩,J,J,J,J,J,fun _ sg _ _=>af J (CM iV J J)⟩,
    ⟨⟨[⟨5,fun _=>da (pP cj 5) ([1,2,9,2,17]),none⟩,⟨25,fun _=>tD (rI .u8) e,some 7⟩],_,0,2,J,⟨(fun _=>J),(fun _=>J),aV⟩,J,J,J,J,J,fun _ sg _ _=>af J (Cx underlying266 bH J (D J) (D J) Z')⟩,
    ⟨⟨[⟨26,fun _=>da cj e1,some 8⟩],_,0,2,J,⟨(fun _=>J),aV⟩,J,J,J,J,J,fun _ sg _ _=>af J (CM bH J J)⟩,
    ⟨⟨[],_,J,aV,J,J,J,fun sg=>cG J (sn cb ge)⟩,
    ⟨⟨[⟨6,fun sg=>Q (M ((sg 10).h 0).2 0),some 10⟩,⟨22,fun _=>tD bh (⟨(i64.wrap e),0,0,[]⟩:aD),some 4⟩],_,J,⟨(fun _=>J),(fun _=>J),aV⟩,J,J,J,fun sg=>cG J (cY cb J (EX aq) J (D J) (D J))⟩,
    aV⟩⟩⟩⟩⟩⟩⟩⟩⟩⟩⟩⟩ (fun sg=>?_)
   refine(show RG _ _ _ _ [_,_] _ from ?_);refine aK J<|aN<|Z J<|bX gV J<|Z J<|im J<|bV h J (fun h=>?_) (fun h=>?_)
   ·exact O<|X (cI cb vF ge J)<|bf<|be cb aq J<|bP<|ea<|ae<|cJ 2 J<|aF<|so h▸kD J J ⟨hZ cb J J J,dH J,dH J,aV⟩
   ·refine fy<|aN<|aR 0 oC J<|X (aA bH J J kS (.head _) (D J))<|bC<|ak<|O<|bl J<|aK J<|fz h J (fun h=>?_) (fun h=>?_)
    ·refine ai<|Z J<|bR h fun e2 I_ h=>X (dV gV iV J (D J) hI I_)<|eb iV J<|X (cT ln Cm (D J))<|aR 1 oB J<|be M2 q5 J<|aJ<|ah<|an<|aN<|X (aA (x:=(aD.mk (i64.wrap e) (i64.wrap e2) 0 [])) cb J J bm (.head _) (D J))<|ej h FX (ya _) (co J) fun r h=>X (fq (D J))<|bV h J (fun h=>?_) (fun h=>?_)
     ·exact O<|X (cI cb vF ge J)<|bf<|be cb aq J<|bP<|ea<|ae<|cJ 2 J<|aF<|so h▸kD J J ⟨hZ cb J J J,dH J,dH J,aV⟩
     ·exact fy<|O<|X (aA (x:=(aD.mk (i64.wrap e) (i64.wrap e2) 0 [])) cb J J bm (.head _) (D J))<|Z J<|bf<|be cb aq J<|dM J<|ea<|cJ 2 J<|aF<|so h▸kD J J ⟨hZ cb J J J,dH J,dH J,aV⟩
    ·refine O<|bl J<|aK J<|fz h J (fun h=>?_) (fun h=>?_)
     ·refine ai<|Z J<|bR h fun y M_ h=>X (ro gV iV J (D J) hI M_)<|ej h WZ (LS _) (co J) fun r1 h=>X (cT wG Cm (D J))<|aR 1 oB J<|be M2 q5 J<|aJ<|ah<|an<|aN<|X (aA (x:=(aD.mk (i64.wrap e) (i64.wrap r1) 0 [])) cb J J bm (.head _) (D J))<|ej h FX (ya _) (co J) fun r2 h=>X (fq (D J))<|bV h J (fun h=>?_) (fun h=>?_)
      ·exact O<|X (cI cb vF ge J)<|bf<|be cb aq J<|bP<|ea<|ae<|cJ 2 J<|aF<|so h▸kD J J ⟨hZ cb J J J,dH J,dH J,aV⟩
      ·exact fy<|O<|X (aA (x:=(aD.mk (i64.wrap e) (i64.wrap r1) 0 [])) cb J J bm (.head _) (D J))<|Z J<|bf<|be cb aq J<|dM J<|ea<|cJ 2 J<|aF<|so h▸kD J J ⟨hZ cb J J J,dH J,dH J,aV⟩
     ·refine O<|bl J<|aK J<|fz h J (fun h=>?_) (fun h=>?_)
      ·refine bR h fun y1 S_ h=>bR h fun r3 C_ h=>bR h fun y2 q_y2 h=>bR h fun r4 J_ h=>?_;refine rK 8 (ts:=[ek ((rI .u8)) b,ek ((rI .u8)) y1,tD mp r3,bI (i64.wrap r3),ek ((rI .u8)) b,ek ((rI .u8)) y2,tD mp r4,Q (M ((sg 10).h 0).2 1)]) mixed J J J
        ⟨fc J J,
        ⟨eS 51 0 J J (ro gV iV J (D J) hI S_),
        ⟨eS 52 1 J J (cC WZ (LS _ C_) ⟨(D J),aV⟩),
        ⟨eS 53 2 J J (cT wG Cm (D J)),
        ⟨fc J J,
        ⟨eS 55 4 J J (ro gV iV J (D J) hI q_y2),
        ⟨eS 56 5 J J (cC WZ (LS _ J_) ⟨(D J),aV⟩),
        ⟨Dm 6 J J (pL 1 oB J J J),
        aV⟩⟩⟩⟩⟩⟩⟩⟩ ?_
       refine be M2 q5 J<|aR 2 zS J<|be kG CV J<|aJ<|ah<|an<|aN<|X (aA (x:=(aD.mk (i64.wrap e) (i64.wrap r3) r4 [])) cb J J bm (.head _) (D J))<|ej h FX (ya _) (co J) fun r5 h=>X (fq (D J))<|bV h J (fun h=>?_) (fun h=>?_)
       ·exact O<|X (cI cb vF ge J)<|bf<|be cb aq J<|bP<|ea<|ae<|cJ 2 J<|aF<|so h▸kD J J ⟨hZ cb J J J,dH J,dH J,aV⟩
       ·exact fy<|O<|X (aA (x:=(aD.mk (i64.wrap e) (i64.wrap r3) r4 [])) cb J J bm (.head _) (D J))<|Z J<|bf<|be cb aq J<|dM J<|ea<|cJ 2 J<|aF<|so h▸kD J J ⟨hZ cb J J J,dH J,dH J,aV⟩
      ·refine O<|bl J<|aK J<|fz h J (fun h=>?_) (fun h=>?_)
       ·refine aN<|Z J<|bR h fun e3 H_ h=>X (dV gV iV J (D J) hI H_)<|eb iV J<|X (d8 (D J) hI)<|bV h J (fun h=>?_) (fun h=>?_)
        ·exact O<|X (cI cb vF ge J)<|bf<|be cb aq J<|bP<|ea<|ae<|cF<|cJ 2 J<|aF<|so h▸kD J J ⟨hZ cb J J J,dH J,dH J,aV⟩
        ·refine fy<|aw J<|Z J<|X (dV gV iV J (D J) hI H_)<|eb iV J<|X (cT ln jm (D J))<|X (cU (D J) (D J))<|aK J<|aN<|Z J<|bX gV J<|Z J<|im J<|bV h J (fun h=>?_) (fun h=>?_)
         ·exact O<|X (cI cb vF ge J)<|bf<|be cb aq J<|bP<|ea<|ae<|cF<|cJ 2 J<|aF<|so h▸kD J J ⟨hZ cb J J J,dH J,dH J,aV⟩
         ·refine fy<|ai<|Z J<|Z J<|bR h fun y3 q_y3 h=>X (TV gV iV J (D J) hI (D J) q_y3)<|X (BS gV ln Dy iV J (D J))<|aR 3 vl J<|be Vk CU J<|aJ<|ah<|an<|aN<|X (aA (x:=(aD.mk (i64.wrap e) 0 0 (mF y3))) cb J J bm (.head _) (D J))<|ej h FX (ya _) (co J) fun r6 h=>X (fq (D J))<|bV h J (fun h=>?_) (fun h=>?_)
          ·exact O<|X (cI cb vF ge J)<|bf<|be cb aq J<|bP<|ea<|ae<|cJ 2 J<|aF<|so h▸kD J J ⟨hZ cb J J J,dH J,dH J,aV⟩
          ·exact fy<|O<|X (aA (x:=(aD.mk (i64.wrap e) 0 0 (mF y3))) cb J J bm (.head _) (D J))<|Z J<|bf<|be cb aq J<|dM J<|ea<|cJ 2 J<|aF<|so h▸kD J J ⟨hZ cb J J J,dH J,dH J,aV⟩
       ·refine aW<|ah<|an<|aN<|X (aA (x:=(⟨(i64.wrap e),0,0,[]⟩:aD)) cb J J bm (.head _) (D J))<|ej h FX (ya _) (co J) fun r7 h=>X (fq (D J))<|bV h J (fun h=>?_) (fun h=>?_)
        ·exact O<|X (cI cb vF ge J)<|bf<|be cb aq J<|bP<|ea<|ae<|cJ 2 J<|aF<|so h▸kD J J ⟨hZ cb J J J,dH J,dH J,aV⟩
        ·exact fy<|O<|X (aA (x:=(⟨(i64.wrap e),0,0,[]⟩:aD)) cb J J bm (.head _) (D J))<|Z J<|bf<|be cb aq J<|dM J<|ea<|cJ 2 J<|aF<|so h▸kD J J ⟨hZ cb J J J,dH J,dH J,aV⟩
