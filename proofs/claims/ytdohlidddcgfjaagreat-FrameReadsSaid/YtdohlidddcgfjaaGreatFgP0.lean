import Derived.Test.YtdohlidddcgfjaaGreatFgT
import Derived.Test.YtdohlidddcgfjaaGreatFgF
set_option linter.all false
namespace Go.Proofs.YtdohlidddcgfjaaGreat
open Go IntKind Tryz
abbrev dv:=rH jB []
abbrev cj:=rI .i64
abbrev XB:=(⟨0,0,0,0,0,0,(⟨[]⟩:iG),(⟨0,0,0,0,(⟨[],false,0⟩:qG)⟩:di),0⟩:cH)
abbrev td:=fun(x:Bool)=>fU x
abbrev U1:=(⟨0,0,0,0,[],false,⟨[]⟩,[],[],[],[],0⟩:al)
abbrev Pd:=(⟨0,0,0,0,⟨[],false,0⟩⟩:di)
abbrev u9:=gE bh
abbrev IS:=(⟨[],0,0,[]⟩:dl)
abbrev zk8:=fun(x:al×al)=>[tD aQ x.1,tD aQ x.2]
abbrev y6:=([]:List Int)
abbrev sD:=rH dO []
abbrev AA:=(⟨0,0,0,[]⟩:aD)
abbrev KO:=(⟨0,0,0,0,⟨0,0,0,[]⟩⟩:bw)
abbrev DB:=fun(x:Bool)=>tD rB x
abbrev XM:=(⟨1,(-1),(-1),0,[1,2,3],false,⟨[]⟩,[],[],[],[],0⟩:al)
noncomputable abbrev U5:=nL bt zk8 td (fun(x:al×al)=>rm x.1 x.2)
abbrev mp:=rI .u64
abbrev sC:=rI .u32
abbrev XL:=fun(x:dl×dl)=>[tD cK x.1,tD cK x.2]
abbrev XK:=fun(x:bw×(List Int))=>[tD bG x.1,lk x.2]
abbrev CN:=aI none 0 0
abbrev XJ:=fun(x:f9×f9)=>[tD eO x.1,tD eO x.2]
abbrev ML:=fun(x:Int)=>[bI x]
abbrev SX:=(⟨([]:List dl)⟩:iG)
abbrev F6:=([]:List jJ)
abbrev F5:=([]:List f9)
abbrev U4:=fun(x:aD)=>[tD bh x]
abbrev yj:=gE cj
abbrev aa1:=fun(x:bw×(List Int))=>[tD bG x.1,tD yj x.2]
abbrev XI:=fun(x:Int×Int)=>tT [bI x.1,bI x.2]
abbrev U3:=fun(x:jJ)=>[tD fI x]
abbrev aa0:=fun(x:bQ×bQ)=>[tD bT x.1,tD bT x.2]
abbrev IX:=pP sC 256
abbrev U2:=fun(x:Int)=>[tD cj x]
abbrev aaZ:=fun(x:Int×Int)=>tT [tD cj x.1,tD cj x.2]
abbrev aaY:=2^(min (Int.toNat 8) u32.bits)
abbrev DA:=(-1)
abbrev Pe:=(⟨[]⟩:bQ)
abbrev KN:=gE (rI .u8)
abbrev aaX:=fun(x:(List aD))=>[ek (bh) x]
abbrev aaW:=fun(x:Int)=>qp x
abbrev U0:=([]:List al)
abbrev UZ:=([]:List bw)
abbrev UY:=([]:List bQ)
abbrev SW:=(81,tT [])
abbrev aaV:=([]:List (List Int))
set_option maxRecDepth 100000
def ZX{R}(h:ES=some R):dk bt 112 [] (tD IX R):=by
 refine dX func112 J<|O<|bD (r:=IX) (x:=(List.replicate 256 (0:Int))) JN (fun _=>Br (r:=sC) 256 (fun _=>J) _) J fun b=>bC<|O<|bR h fun e N_ h=>X (ld Dz sF (.head _) (D J) hI N_)<|bR h fun ar q_ar h=>B1 sF J N_ (so q_ar) (D J) hI<|bC<|aN<|bP<|bC<|ak<|bK ?_;refine aM (z6 (aH:=fun n1 n out=>we n1 n out=some R) (Of:=fun n out=>[s IX 152 b out]) (Gf:=fun n out=>[(0,Q (M b 0)),(1,bI n)]) (fun n out h=>nn h) (fun n1 ih n out h=>?_) de 64 ar h) (aX J);refine cy<|aN<|Z J<|X (d8 (D J) hI)<|bV h J (fun h=>?_) (fun h=>?_)
 ·refine fy<|aS<|ak<|aw J<|X (HK hI (D J))<|bR h fun e1 Z' h=>X (ld Dz sF (.head _) (D J) (D J) Z')<|X (D6 sF J J (.head _) Z' (D J))<|aK J<|aw J<|Z J<|X (Lz (D J) hI (by decide))<|bR h fun e2 I_ h=>X (ld Dz sF (.head _) (D J) (D J) I_)<|bR h fun ar1 q_ar1 h=>B1 sF J I_ (so q_ar1) (D J) (D J)<|aJ ?_;refine an<|aw J<|X (abo (D J) hI)<|bl J<|bV h J (fun h=>?_) (fun h=>?_)
  ·refine ai<|Z J<|bR h fun e3 H_ h=>X (ld Dz sF (.head _) (D J) (D J) H_)<|X (D6 sF J J (.head _) H_ (D J))<|X (HI (D J) hI)<|X (ld Dz sF (.head _) (D J) (D J) H_)<|bR h fun ar2 q_ar2 h=>B1 sF J H_ (so q_ar2) (D J) (D J)<|aJ<|ah<|an<|ai<|Z J<|X (C3 (D J) hI (by decide))<|dM J<|aJ ?_;exact aY (aM (ih (i64.wrap ((n).tdiv 2)) ar2 h) (aX J))
  ·refine aW<|ah<|an<|ai<|Z J<|X (C3 (D J) hI (by decide))<|dM J<|aJ ?_;exact aY (aM (ih (i64.wrap ((n).tdiv 2)) ar1 h) (aX J))
 ·refine cL<|am<|am<|bL<|an<|aN<|bP<|bC<|ak<|bK ?_;refine aM (z6 (aH:=fun n3 n2 n'=>wd n3 n2 n'=some R) (Of:=fun n2 n'=>[s IX 152 b n']) (Gf:=fun n2 n'=>[(0,Q (M b 0)),(3,bI n2)]) (fun n2 n' h=>nn h) (fun n3 ih1 n2 n' h=>?_) de 2 out h) (aX J);refine cy<|aN<|Z J<|X (eC (D J) hI)<|bV h J (fun h=>?_) (fun h=>?_)
  ·refine fy<|aS<|ak<|aw J<|X (cB hI)<|bC<|ak<|bK ?_;refine aM (z6 (aH:=fun n4 x V'=>zg (wd n3) n2 n4 x V'=some R) (Of:=fun x V'=>[s IX 152 b V']) (Gf:=fun x V'=>[(0,Q (M b 0)),(3,bI n2),(30,bI n2),(31,bI x)]) (fun x V' h=>nn h) (fun n4 ih2 x V' h=>?_) de 0 n' h) (aX J);refine cy<|O<|im J<|bC<|aS<|fz h J (fun h=>?_) (fun h=>?_)
   ·refine fy<|aS<|ak<|aw J<|aK J<|bR h fun e4 O_ h=>bR h fun e5 q_e5 h=>bR h fun e6 q_e6 h=>?_;refine rK 11 (ts:=[bI n2,bI x,bI (i64.wrap (n2+x)),bI n2,Q (M b (n2.toNat*1)),tD sC e4,bI x,Q (M b (x.toNat*1)),tD sC e5,tD sC (sO .xor .u32 e4 e5),Q (M b ((i64.wrap (n2+x)).toNat*1))]) mixed J J J
     ⟨fc J J,
     ⟨fc J J,
     ⟨fR 34 0 35 1 J J J (cU (D J) (D J)),
     ⟨fc J J,
     ⟨XN 0 37 3 J J J (ld Dz sF (.head _) (D J) (D J) O_),
     ⟨eS 38 4 J J (D6 sF J J (.head _) O_ (D J)),
     ⟨fc J J,
     ⟨XN 0 40 6 J J J (ld Dz sF (.head _) (D J) (D J) q_e5),
     ⟨eS 41 7 J J (D6 sF J J (.head _) q_e5 (D J)),
     ⟨fR 39 5 42 8 J J J (HI (D J) (D J)),
     ⟨XN 0 36 2 J J J (ld Dz sF (.head _) (D J) (D J) q_e6),
     aV⟩⟩⟩⟩⟩⟩⟩⟩⟩⟩⟩ ?_
    refine bR h fun ar3 q_ar3 h=>B1 sF J q_e6 (so q_ar3) (D J) (D J)<|aJ<|ah<|an<|ai<|X (cU (D J) hI)<|Z J<|aJ ?_;exact aY (aM (ih2 (i64.wrap (x+1)) ar3 h) (aX J))
   ·refine cL<|am<|am<|bL<|ah<|an<|ai<|Z J<|X (HK (D J) hI)<|dM J<|aJ ?_;exact aY (aM (ih1 (i64.wrap (n2*2)) V' h) (aX J))
  ·exact cL<|am<|am<|bL<|an<|O<|X (aA JN J J bm (.head _) (D J))<|be JN aq J<|bF<|cJ 0 J<|so h▸IR J JN J J J
def acK(b:Nat) register Ad c{R}(h:xx register Ad c=some R):bU bt 113 [tD (rI .u8) c,Q (M b 0),da IX Ad] [s sC 25 b register] (fun i:OI=>tT []) (fun i=>[s sC 25 b R]):=by
 refine bU.of func113 J J J fun w0 S0=>bR h fun e N_ h=>?_;refine rK 9 (ts:=[tD sC register,tD sC ((register).fdiv aaY),tD sC register,tD (rI .u8) (u8.wrap register),tD (rI .u8) c,tD (rI .u8) (sO .xor .u8 (u8.wrap register) c),da sC e,tD sC e,tD sC (sO .xor .u32 ((register).fdiv aaY) e)]) mixed J J J
  ⟨Dm 1 J J (aA sF J J bm (.head _) (D J)),
  ⟨eS 4 0 J J (Lz (D J) hI (by decide)),
  ⟨Dm 1 J J (aA sF J J bm (.head _) (D J)),
  ⟨eS 6 2 J J (cT FA ln (D J)),
  ⟨fc J J,
  ⟨fR 7 3 8 4 J J J (HI (D J) (D J)),
  ⟨XN 2 9 5 J J J (Cx Dz sF J (D J) (D J) N_),
  ⟨kF 6 sF J J,
  ⟨fR 5 1 11 7 J J J (HI (D J) (D J)),
  aV⟩⟩⟩⟩⟩⟩⟩⟩⟩ ?_
 exact be sF aq J<|aJ<|so h▸mQ J (oi none 0) J J
def abZ b{R}(h:wy b=some R):dk bt 54 [ek ((rI .u8)) b] (tD sC R):=by
 refine dX func54 J<|O<|bP<|bC<|O<|ej h afw ZX trivial fun r h=>bD (r:=IX) (x:=(List.replicate 256 (0:Int))) JN (fun _=>Br (r:=sC) 256 (fun _=>J) _) J fun b1=>be JN aq J<|bj 3 J<|bC<|O<|bD (r:=sC) (x:=0) sF (fun _=>J) J fun b2=>eD sF J aq J (D J) hI<|bC<|O<|X (yM (cts:=[Q (M b2 0),da IX r]) (caps:=[.tmp 4,.tmp 3]) ⟨(D J),(D J),aV⟩) ?_;refine aK J<|aN<|Z J<|bX gV J<|X (cB hI)<|bC<|ak<|bJ (k:=10) J fun hN=>bK ?_;refine aM (uE (aH:=fun ls i register=>(b.drop i=ls)/\rN r ls register=some R) (Of:=fun _ i register=>[s sC 25 b2 register]) (Gf:=fun _ i register=>[(4,Q (M b2 0)),(5,tC 113 [Q (M b2 0),da IX r]),(10,ek ((rI .u8)) b),(11,mR b),(12,bI (i:Int))]) (fun i register h=>?_) (fun e tl ih i register h=>?_) b 0 4294967295 ⟨J,h⟩) (aX J)
 ·obtain⟨K,h⟩:=h;exact gk K J<|an<|O<|X (aA sF J J bm (.head _) (D J))<|X (abn (D J))<|ba J<|aF<|so h▸aC J J
 ·obtain⟨K,h⟩:=h;refine gj K J<|aS<|ak<|O<|eE gV iV J (fh K)<|aK J<|ai<|Z J<|Z J<|bR h fun r1 I' h=>bc (wD (xs:=[.tmp 17]) (ts:=[tD (rI .u8) e]) (cts:=[Q (M b2 0),da IX r]) (post:=fun i=>[s sC 25 b2 r1]) [s sC 25 b2 register] [] J afv (acK b2 _ _ _ I') (D J) ⟨(D J),aV⟩ (fun _=>J)) J fun i1=>?_;refine(show RG _ _ _ _ [_] _ from ?_);refine aJ<|eN K hN J ?_;exact aY (aM (ih (i+1) r1 ⟨ei K,h⟩) (aX J))
def Sb b{R}(h:ph b=some R):jI bt 55 [ek ((rI .u8)) b] false (rI .u8) 5 R:=by
 refine jI.of func55 J J J fun w0 S0=>O<|cn false (rI .u8) 5<|X (cg vk)<|bC<|aN<|Z J<|OR gV (D J) J fun isnil hisnil=>bC<|uG (D J) (fun hc=>?_) (fun hc=>?_)
 ·have K:=hisnil hc;have h:some y6=some R:=by simpa [ph,hU,K] using h
  exact O<|cn false (rI .u8) 5<|X (cg vk)<|bF<|ae<|so h▸gu J J
 ·exact fy<|O<|iU (r:=(rI .u8)) (ys:=y6) (xs:=[]) gV iV J J J J J trivial J fun l c=>Z J<|bR h fun x q_x h=>bA iV J J J J gV J J (D J) (D J) q_x fun l1 c1=>ba J<|so h▸gu J J
def Sc b{R}(h:pn b=some R):jI bt 27 [ek ((rI .u8)) b] false (rI .u8) 5 R:=by
 refine jI.of func27 J J J fun w0 S0=>O<|cn false (rI .u8) 5<|X (cg vk)<|bC<|aw J<|ej h agr (abZ _) (co J) fun r h=>aK J<|aw J<|lp h adU (Sb _) (co J) fun r1 h l c=>aK J<|aS ?_;refine O<|X (cB hI)<|bC<|ak<|bK<|fT<|oG ?_;refine aM (Ms (aH:=fun k i out l1 c1 n=>(4-i=k)/\pW k out n=some R) (Of:=fun _ i out l1 c1 n=>[d5 (rI .u8) 5 l1 c1 out]) (Gf:=fun _ i out l1 c1 n=>[(3,tD sC n),(4,oI l1 c1 out),(9,bI (i:Int))]) (fun i out l1 c1 n h=>?_) (fun k1 ih i out l1 c1 n h=>?_) 4 0 r1 l c r ⟨J,h⟩) (aX J)
 ·obtain⟨K,h⟩:=h;exact cy<|O<|X (eC (D J) hI)<|bC<|aS<|xn (D J) (Yn K)<|cL<|am<|am<|bL<|an<|aw J<|ba J<|so h▸gu J J
 ·obtain⟨K,h⟩:=h;refine cy<|O<|X (eC (D J) hI)<|bC<|aS<|xm (D J) (Ym K)<|fy<|aS<|ak<|aw J<|Z J<|X (cT FA ln (D J))<|X (aT (r:=(rI .u8)) (ys:=[(u8.wrap n)]) (xs:=[.tmp 13]) gV iV J J J J J ⟨(D J),aV⟩)<|bR h fun n' X' h=>bA iV J J J J gV J J (D J) (D J) X' fun l2 c2=>aK J<|ai ?_;refine Z J<|X (Lz (D J) hI (by decide))<|dM J<|aJ<|ah<|an<|ai<|X (BQ (VV K (by decide)) (D J) hI)<|Z J<|aJ ?_;exact aY (aM (ih (i+1) n' l2 c2 ((n).fdiv aaY) ⟨VU K,h⟩) (aX J))
def abY n{R}(h:qp n=some R):dk bt 56 [bI n] (fU R):=by
 exact dX func56 J<|O<|bo<|bC<|aw J<|X (d9 (D J) hI)<|Z J<|ac J (ca J)<|ac J (fun Y=>ft (bg J Y) hI)<|cm J<|ba J<|so h▸aC J J
def Wp s1 s2 eq{R}(h:dg s1 s2 eq=some R):dk bt 62 [ek (u9) s1,ek (u9) s2,(nL bt (fun(x:(List aD)×(List aD))=>[ek (bh) x.1,ek (bh) x.2]) td (fun(x:(List aD)×(List aD))=>eq x.1 x.2))] (fU R):=by
 refine dX func62 J<|O<|bo<|bC<|aN<|Z J<|bX tZ J<|Z J<|bX tZ J<|X (dc (D J) (D J))<|bV h J (fun h=>?_) (fun h=>?_)
 ·exact O<|bo<|bF<|ae<|so h▸aC J J
 ·refine fy<|aN<|Z J<|bX tZ J<|X (cB hI)<|bC<|ak<|bJ (k:=15) J fun hN=>bK ?_;refine aM (f0 (aH:=fun ls i=>(s1.drop i=ls)/\cP s2 eq ls i=some R) (Of:=fun _ i=>[]) (Gf:=fun _ i=>[(1,ek (u9) s2),(2,(nL bt (fun(x:(List aD)×(List aD))=>[ek (bh) x.1,ek (bh) x.2]) td (fun(x:(List aD)×(List aD))=>eq x.1 x.2))),(15,ek (u9) s1),(16,mR s1),(17,bI (i:Int))]) (fun i h=>?_) (fun e tl ih i h=>?_) s1 0 ⟨J,h⟩) (aX J)
  ·obtain⟨K,h⟩:=h;exact gk K J<|an<|O<|bo<|bF<|so h▸aC J J
  ·obtain⟨K,h⟩:=h;refine gj K J<|aS<|ak<|aw J<|eE tZ xw J (fh K)<|dM J<|aK J<|aw J ?_;refine Z J<|bR h fun e1 Z' h=>eE tZ xw J Z'<|aK J<|aw J<|Z J<|Z J<|bR h fun r q_ h=>X (nP (args:=(fun(x:(List aD)×(List aD))=>[tD u9 x.1,tD u9 x.2])) (res:=DB) (f:=(fun(x:(List aD)×(List aD))=>eq x.1 x.2)) (x:=((e,e1):(List aD)×(List aD))) (D J) q_ ⟨(D J),(D J),aV⟩)<|X (fq (D J))<|bV h J (fun h=>?_) (fun h=>?_)
   ·exact O<|bo<|bF<|cF<|ae<|cF<|so h▸aC J J
   ·refine aW<|eN K hN J ?_;exact aY (aM (ih (i+1) ⟨ei K,h⟩) (aX J))
def Wo s1 s2{R}(h:fS s1 s2=some R):dk bt 64 [ek (bh) s1,ek (bh) s2] (fU R):=by
 refine dX func64 J<|O<|bo<|bC<|aN<|Z J<|bX wH J<|Z J<|bX wH J<|X (dc (D J) (D J))<|bV h J (fun h=>?_) (fun h=>?_)
 ·exact O<|bo<|bF<|ae<|so h▸aC J J
 ·refine fy<|aN<|Z J<|bX wH J<|X (cB hI)<|bC<|ak<|bJ (k:=11) J fun hN=>bK ?_;refine aM (f0 (aH:=fun ls i=>(s1.drop i=ls)/\fi s2 ls i=some R) (Of:=fun _ i=>[]) (Gf:=fun _ i=>[(0,ek (bh) s1),(1,ek (bh) s2),(12,mR s1),(13,bI (i:Int))]) (fun i h=>?_) (fun e tl ih i h=>?_) s1 0 ⟨J,h⟩) (aX J)
  ·obtain⟨K,h⟩:=h;exact gk K J<|an<|O<|bo<|bF<|so h▸aC J J
  ·obtain⟨K,h⟩:=h;refine gj K J<|aS<|ak<|aw J<|aK J<|aS<|bR h fun e1 Z' h=>?_;refine ga (ts:=[_,_,_,_,_,_,_,_,_]) mixed J J
    ⟨fc J J,
    ⟨fc J J,
    ⟨fR 16 0 17 1 J J J (Aq wH cb J J J (fh K)),
    ⟨kF 2 cb J J,
    ⟨fc J J,
    ⟨fc J J,
    ⟨fR 20 4 21 5 J J J (Aq wH cb J J J Z'),
    ⟨kF 6 cb J J,
    ⟨fR 19 3 23 7 J J J (wn FP (D J) (D J)),
    aV⟩⟩⟩⟩⟩⟩⟩⟩⟩ ?_
   refine an<|fz h J (fun h=>?_) (fun h=>?_)
   ·exact O<|bo<|bF<|cF<|ae<|cF<|so h▸aC J J
   ·refine aW<|eN K hN J ?_;exact aY (aM (ih (i+1) ⟨ei K,h⟩) (aX J))
def abV p y{R}(h:tp p y=some R):dk bt 63 [ek (bh) p,ek (bh) y] (fU R):=by
 exact dX func63 J<|O<|bo<|bC<|aw J<|Z J<|ej h adS (Wo _ _) (co J) fun r h=>ba J<|so h▸aC J J
def ab9 a1 b{R}(h:r0 a1 b=some R):dk bt 31 [tD cQ a1,tD cQ b] (fU R):=by
 refine dX func31 J<|O<|eH J<|eH J<|bo<|bC<|O<|qX jQ dK J<|aU uz lZ DD J<|qX jQ dK J<|aU uz lZ DD J<|ej h adT (Wp _ _ _) ⟨(D J),(D J),(Wd agl fun x y h=>abV _ _ h),aV⟩ fun r h=>aK J<|O<|qX Bi pe J ?_;refine eb bH J<|aU Bi pe bH J<|X (dW (D J) (D J))<|Z J<|ac J (bu zO pd J J)<|ac J (bp sF J J)<|ac J (bu zO pd J J)<|ac J (bp sF J J)<|ac J (fun Y=>dW (bg J Y) (bg J Y))<|cm J<|Z J<|ac J (bu tv ji J J)<|ac J (bp kG J J)<|ac J (bu tv ji J J)<|ac J (bp kG J J)<|ac J (fun Y=>dW (bg J Y) (bg J Y))<|cm J<|Z J<|ac J (bu u0 lC J J)<|ac J (bp kG J J)<|ac J (bu u0 lC J J)<|ac J (bp kG J J)<|ac J (fun Y=>dW (bg J Y) (bg J Y)) ?_;refine cm J<|Z J<|ac J (bu jQ dK J J)<|ac J (fun Y=>eg tw J kT J (bg J Y))<|ac J (bp ua J J)<|ac J (bu jQ dK J J)<|ac J (fun Y=>eg tw J kT J (bg J Y))<|ac J (bp ua J J)<|ac J (fun Y=>D7 KK (bg J Y) (bg J Y))<|cm J<|Z J<|ac J (bu jQ dK J J)<|ac J (fun Y=>eg uy J lY J (bg J Y))<|ac J (bp kG J J)<|ac J (bu jQ dK J J)<|ac J (fun Y=>eg uy J lY J (bg J Y))<|ac J (bp kG J J)<|ac J (fun Y=>dW (bg J Y) (bg J Y))<|cm J<|Z J<|ac J (ca J)<|cm J<|dM J<|aJ ?_;exact an<|qH<|so h▸aC J J
def QA s1 s2{R}(h:jz s1 s2=some R):dk bt 66 [lk s1,lk s2] (fU R):=by
 refine dX func66 J<|O<|bo<|bC<|aN<|Z J<|bX eh J<|Z J<|bX eh J<|X (dc (D J) (D J))<|bV h J (fun h=>?_) (fun h=>?_)
 ·exact O<|bo<|bF<|ae<|so h▸aC J J
 ·refine fy<|aN<|Z J<|bX eh J<|X (cB hI)<|bC<|ak<|bJ (k:=11) J fun hN=>bK ?_;refine aM (f0 (aH:=fun ls i=>(s1.drop i=ls)/\lF s2 ls i=some R) (Of:=fun _ i=>[]) (Gf:=fun _ i=>[(0,lk s1),(1,lk s2),(12,mR s1),(13,bI (i:Int))]) (fun i h=>?_) (fun e tl ih i h=>?_) s1 0 ⟨J,h⟩) (aX J)
  ·obtain⟨K,h⟩:=h;exact gk K J<|an<|O<|bo<|bF<|so h▸aC J J
  ·obtain⟨K,h⟩:=h;refine gj K J<|aS<|ak<|aw J<|aK J<|aS<|bR h fun e1 Z' h=>?_;refine ga (ts:=[_,_,_,_,_,_,_,_,_]) mixed J J
    ⟨fc J J,
    ⟨fc J J,
    ⟨fR 16 0 17 1 J J J (Aq eh bH J J J (fh K)),
    ⟨kF 2 bH J J,
    ⟨fc J J,
    ⟨fc J J,
    ⟨fR 20 4 21 5 J J J (Aq eh bH J J J Z'),
    ⟨kF 6 bH J J,
    ⟨fR 19 3 23 7 J J J (dc (D J) (D J)),
    aV⟩⟩⟩⟩⟩⟩⟩⟩⟩ ?_
   refine an<|fz h J (fun h=>?_) (fun h=>?_)
   ·exact O<|bo<|bF<|cF<|ae<|cF<|so h▸aC J J
   ·refine aW<|eN K hN J ?_;exact aY (aM (ih (i+1) ⟨ei K,h⟩) (aX J))
def abT s1 s2{R}(h:jq s1 s2=some R):dk bt 67 [ek (fI) s1,ek (fI) s2] (fU R):=by
 refine dX func67 J<|O<|bo<|bC<|aN<|Z J<|bX uM J<|Z J<|bX uM J<|X (dc (D J) (D J))<|bV h J (fun h=>?_) (fun h=>?_)
 ·exact O<|bo<|bF<|ae<|so h▸aC J J
 ·refine fy<|aN<|Z J<|bX uM J<|X (cB hI)<|bC<|ak<|bJ (k:=11) J fun hN=>bK ?_;refine aM (f0 (aH:=fun ls i=>(s1.drop i=ls)/\iL s2 ls i=some R) (Of:=fun _ i=>[]) (Gf:=fun _ i=>[(0,ek (fI) s1),(1,ek (fI) s2),(12,mR s1),(13,bI (i:Int))]) (fun i h=>?_) (fun e tl ih i h=>?_) s1 0 ⟨J,h⟩) (aX J)
  ·obtain⟨K,h⟩:=h;exact gk K J<|an<|O<|bo<|bF<|so h▸aC J J
  ·obtain⟨K,h⟩:=h;refine gj K J<|aS<|ak<|aw J<|aK J<|aS<|bR h fun e1 Z' h=>?_;refine ga (ts:=[_,_,_,_,_,_,_,_,_]) mixed J J
    ⟨fc J J,
    ⟨fc J J,
    ⟨fR 16 0 17 1 J J J (Aq uM qY J J J (fh K)),
    ⟨kF 2 qY J J,
    ⟨fc J J,
    ⟨fc J J,
    ⟨fR 20 4 21 5 J J J (Aq uM qY J J J Z'),
    ⟨kF 6 qY J J,
    ⟨fR 19 3 23 7 J J J (wn aax (D J) (D J)),
    aV⟩⟩⟩⟩⟩⟩⟩⟩⟩ ?_
   refine an<|fz h J (fun h=>?_) (fun h=>?_)
   ·exact O<|bo<|bF<|cF<|ae<|cF<|so h▸aC J J
   ·refine aW<|eN K hN J ?_;exact aY (aM (ih (i+1) ⟨ei K,h⟩) (aX J))
def ZT s1 s2{R}(h:iu s1 s2=some R):dk bt 119 [ek (bG) s1,ek (bG) s2] (fU R):=by
 refine dX func119 J<|O<|bo<|bC<|aN<|Z J<|bX mo J<|Z J<|bX mo J<|X (dc (D J) (D J))<|bV h J (fun h=>?_) (fun h=>?_)
 ·exact O<|bo<|bF<|ae<|so h▸aC J J
 ·refine fy<|aN<|Z J<|bX mo J<|X (cB hI)<|bC<|ak<|bJ (k:=11) J fun hN=>bK ?_;refine aM (f0 (aH:=fun ls i=>(s1.drop i=ls)/\gI s2 ls i=some R) (Of:=fun _ i=>[]) (Gf:=fun _ i=>[(0,ek (bG) s1),(1,ek (bG) s2),(12,mR s1),(13,bI (i:Int))]) (fun i h=>?_) (fun e tl ih i h=>?_) s1 0 ⟨J,h⟩) (aX J)
  ·obtain⟨K,h⟩:=h;exact gk K J<|an<|O<|bo<|bF<|so h▸aC J J
  ·obtain⟨K,h⟩:=h;refine gj K J<|aS<|ak<|aw J<|aK J<|aS<|bR h fun e1 Z' h=>?_;refine ga (ts:=[_,_,_,_,_,_,_,_,_]) mixed J J
    ⟨fc J J,
    ⟨fc J J,
    ⟨fR 16 0 17 1 J J J (Aq mo fF J J J (fh K)),
    ⟨kF 2 fF J J,
    ⟨fc J J,
    ⟨fc J J,
    ⟨fR 20 4 21 5 J J J (Aq mo fF J J J Z'),
    ⟨kF 6 fF J J,
    ⟨fR 19 3 23 7 J J J (wn aaw (D J) (D J)),
    aV⟩⟩⟩⟩⟩⟩⟩⟩⟩ ?_
   refine an<|fz h J (fun h=>?_) (fun h=>?_)
   ·exact O<|bo<|bF<|cF<|ae<|cF<|so h▸aC J J
   ·refine aW<|eN K hN J ?_;exact aY (aM (ih (i+1) ⟨ei K,h⟩) (aX J))
def Qz a1 b{R}(h:wC a1 b=some R):dk bt 69 [tD bT a1,tD bT b] (fU R):=by
 exact dX func69 J<|O<|eH J<|eH J<|bo<|bC<|O<|aU ia fD pO J<|aU ia fD pO J<|ej h afs (ZT _ _) (co J) fun r h=>ba J<|so h▸aC J J
def abS p q{R}(h:sX p q=some R):dk bt 68 [tD eO p,tD eO q] (fU R):=by
 refine dX func68 J<|O<|eH J<|eH J<|bo<|bC<|O<|aU kz je bH J<|aU kz je bH J<|X (dW (D J) (D J))<|Z J<|bR h fun t u_ h=>ac J (bu sm oX J J)<|ac J (bp hY J J)<|ac J (bu sm oX J J)<|ac J (bp hY J J) ?_;obtain⟨r,h_,v_⟩:=og u_;have x_:=fun V=>(h_ V).1;exact ac J (fun Y=>cC acS (Qz _ _ (x_ Y)) ⟨(bg J Y),(bg J Y),aV⟩)<|X (cw (D J) (fun V=>(bg J V)) (fun V=>(h_ V).2) v_)<|ba J<|so h▸aC J J
def abR s1 s2 eq{R}(h:eK s1 s2 eq=some R):dk bt 70 [ek (eO) s1,ek (eO) s2,(nL bt XJ td (fun(x:f9×f9)=>eq x.1 x.2))] (fU R):=by
 refine dX func70 J<|O<|bo<|bC<|aN<|Z J<|bX ny J<|Z J<|bX ny J<|X (dc (D J) (D J))<|bV h J (fun h=>?_) (fun h=>?_)
 ·exact O<|bo<|bF<|ae<|so h▸aC J J
 ·refine fy<|aN<|Z J<|bX ny J<|X (cB hI)<|bC<|ak<|bJ (k:=15) J fun hN=>bK ?_;refine aM (f0 (aH:=fun ls i=>(s1.drop i=ls)/\eu s2 eq ls i=some R) (Of:=fun _ i=>[]) (Gf:=fun _ i=>[(1,ek (eO) s2),(2,(nL bt XJ td (fun(x:f9×f9)=>eq x.1 x.2))),(15,ek (eO) s1),(16,mR s1),(17,bI (i:Int))]) (fun i h=>?_) (fun e tl ih i h=>?_) s1 0 ⟨J,h⟩) (aX J)
  ·obtain⟨K,h⟩:=h;exact gk K J<|an<|O<|bo<|bF<|so h▸aC J J
  ·obtain⟨K,h⟩:=h;refine gj K J<|aS<|ak<|aw J<|eE ny jt J (fh K)<|bD jt wJ J fun b=>dM J<|be jt aq J<|bj 8 J<|bC<|aS ?_;refine ai<|Z J<|Z J<|bR h fun e1 Z' h=>eE ny jt J Z'<|bD jt wJ J fun b1=>be jt aq J<|bj 9 J<|bC<|aw J<|eb jt J<|eb jt J<|bR h fun r q_ h=>X (nP (args:=XJ) (res:=DB) (f:=(fun(x:f9×f9)=>eq x.1 x.2)) (x:=((e,e1):f9×f9)) (D J) q_ ⟨(D J),(D J),aV⟩)<|X (fq (D J))<|bV h J (fun h=>?_) (fun h=>?_)
   ·exact O<|bo<|bF<|cF<|ae<|cF<|so h▸aC J J
   ·refine aW<|eN K hN J ?_;exact aY (aM (ih (i+1) ⟨ei K,h⟩) (aX J))
