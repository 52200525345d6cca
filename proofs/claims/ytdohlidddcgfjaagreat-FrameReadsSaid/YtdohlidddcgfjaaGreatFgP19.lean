import Derived.Test.YtdohlidddcgfjaaGreatFgT
import Derived.Test.YtdohlidddcgfjaaGreatFgP18
set_option linter.all false
namespace Go.Proofs.YtdohlidddcgfjaaGreat
open Go IntKind Tryz EffOK
set_option maxRecDepth 100000
def aau b{R}(h:w5 b=some R):bU bt 97 [ek ((rI .u8)) b] [] (fun i:OI=>Q (M (i.h 0).2 0)) (fun i=>[s dv 183 (i.h 0).2 R]):=by
 refine bU.of func97 J J J fun w0 S0=>O<|X (cg (hV (v:= .pointer none)))<|bC<|aw J<|bX gV J<|bR h fun mk q_mk h=>bc (WS (r:=(rI .u8)) (x:=0) iV J J J gV (fun _=>J) (D J) (D J) q_mk) J fun i=>X (cI (r:=rH tF []) (y:=xN (⟨⟨0,0⟩,mk⟩:av) (aI (i.h 0).1 (i.h 0).2 mk.length)) adc adz (zH MI trivial) (⟨_,_,_,_,_,J,Hd I3 J J,J,(hW (D J) NO),J⟩))<|ss (D J) J fun b1=>aK J<|aw J<|X (aL (D J))<|aR 2 GF J<|X (oT wN (eF Jp) (.head _) J (D J))<|Z J ?_;refine bR h fun cp q_cp h=>bc (fr1 (Ul J gV (KZ iV) (D J) (D J) (so q_cp))) J fun i1=>?_;refine(show RG _ _ _ _ [_,_] ((14,bI ((min b.length mk.length:Nat):Int))::_)from ?_);exact IB (O' :=[d5 (rI .u8) 5 (i.h 0).1 (i.h 0).2 cp,s (rH tF []) 183 b1 (xN (⟨⟨0,0⟩,mk⟩:av) (aI (i.h 0).1 (i.h 0).2 cp.length))]) (by first|(rw [OF (so q_cp)];done)|(rw [OF (so q_cp)];exact J)|exact J)<|bC<|aw J<|ba J<|dE<|ap<|yz (r' :=rH jB []) (x' :=(⟨⟨0,0⟩,cp⟩:av)) (fun _ _ _ ho h=>XF h (fun h=>Fm (f7 ho (.head _)) h))<|ap<|aF<|so h▸ci J (y7 [(none,b1)]) J J (fun _ _ h=>h)
def adJ b{R}(h:zI b=some R):bU bt 43 [ek ((rI .u8)) b] [] (fun i:OI=>Q (M (i.h 0).2 0)) (fun i=>[s (rH ax [(0,M (i.h 1).2 0)]) 146 (i.h 0).2 R.1,s dv 183 (i.h 1).2 R.2]):=by
 refine bU.of func43 J J J fun w0 S0=>O<|X (cg (hV (v:= .pointer none)))<|bC<|aw J<|bR h fun r q_ h=>bc (ay (xs:=[.tmp 3]) (ts:=[ek ((rI .u8)) b]) [] _ J adR (aau _ q_) ⟨(D J),aV⟩ (fun _=>J)) J fun i=>?_;refine(show RG _ _ _ _ [_] ((4,Q (M (i.h 0).2 0))::_)from ?_);exact Z J<|X (cI (r:=rH vu []) (y:=A6 (⟨⟨⟨0,0⟩,[]⟩,b,false⟩:bq) (M (i.h 0).2 0)) adf adB (zH MH trivial) (⟨_,_,_,_,_,J,Hd I2 J J,J,(hW (D J) J),⟨_,_,_,_,_,J,Hd I0 J J,J,(D J),J⟩⟩))<|ss (D J) J fun b1=>Xs (r' :=rH ax [(0,M (i.h 0).2 0)]) (x' :=(⟨⟨⟨0,0⟩,[]⟩,b,false⟩:bq)) (fun _ _ _ _ h=>adP h.1)<|ba J<|ap<|ap<|so h▸ci J (y7 [(none,b1),(none,(i.h 0).2)]) J J (fun _ _ h=>h)
def acl(b:Nat) x c{R}(h:uJ x c=some R):bU bt 215 [tD (rI .u8) c,Q (M b 0)] [s mp 26 b x] (fun i:OI=>tT []) (fun i=>[s mp 26 b R]):=by
 exact bU.of func215 J J J fun w0 S0=>ai<|X (aA kG J J bm (.head _) (D J))<|X (VJ (D J) hI (by decide))<|Z J<|X (cT ln wG (D J))<|X (cU (D J) (D J))<|be kG aq J<|aJ<|so h▸mQ J (oi none 0) J J
def Fk(b:Nat) r{R}(h:iy r=some R):bU bt 102 [Q (M b 0)] [s dv 183 b r] (fun i:OI=>bI R) (fun i=>[s dv 183 b r]):=by
 refine bU.of func102 J J J fun w0 S0=>O<|bP<|bC<|aN<|Z J<|X (GC underlying143 (D J))<|bV h J (fun h=>?_) (fun h=>?_)
 ·exact O<|ea<|ae<|so h▸ci J fe J J (fun _ _ h=>h)
 ·refine fy<|aS ?_;refine ga (ts:=[_,_,_,_,_,_,_,_,_,_,_,_]) mixed J J
   ⟨fc J J,
   ⟨eS 5 0 J J (aL (D J)),
   ⟨eS 6 1 J J (pL 2 GF J J J),
   ⟨eS 7 2 J J (aA (r:=rH jB []) (x:=r) wN J J (eF Bg) (.head _) (D J)),
   ⟨eS 8 3 J J (zln gV J),
   ⟨fc J J,
   ⟨eS 10 5 J J (aL (D J)),
   ⟨eS 11 6 J J (pL 0 qO J J J),
   ⟨eS 12 7 J J (pL 0 zR J J J),
   ⟨eS 13 8 J J (aA (r:=rH jB []) (x:=r) bH J J (eF (fY jh xa)) (.head _) (D J)),
   ⟨fR 9 4 14 9 J J J (ec (D J) (D J)),
   ⟨eS 15 10 J J (CO J),
   aV⟩⟩⟩⟩⟩⟩⟩⟩⟩⟩⟩⟩ ?_
  exact an<|qH<|so h▸ci J fe J J (fun _ _ h=>h)
def QJ(b:Nat)(b1:Nat) r n x{R}(h:qA r n x=some R):bU bt 214 [Q (M b 0),bI n,tC 215 [Q (M b1 0)]] [s dv 183 b r,s mp 26 b1 x] (fun i:OI=>tT []) (fun i=>[s dv 183 b R.1,s mp 26 b1 R.2]):=by
 refine bU.of func214 J J J fun w0 S0=>aN<|Z J<|X (GC underlying143 (D J))<|Z J<|iW J J J J<|Z J<|iW J J J J<|X (aL (D J))<|iW J J J J<|aR 0 qO J<|iW J J J J<|aR 1 zQ J<|iW J J J J<|X (aA (r:=rH jB []) (x:=r) wa J J (eF (fY jh C8)) (.head _) (D J))<|iW J J J J<|mV J<|X (rX (D J) J (D J))<|bV h J (fun h=>?_) (fun h=>?_)
 ·exact qH<|ae<|ap<|ap<|so h▸xp J fe J J
 ·refine fy<|aN<|Z J<|X (eC (D J) hI)<|bV h J (fun h=>?_) (fun h=>?_)
  ·refine aw J<|X (aL (D J))<|aR 0 qO J<|aR 1 zQ J<|f8 (cY wa J (lG (hs' :=[]) (nE jh tB zi) trivial J) J (D J) hI) fun i=>?_;refine(show RG _ _ _ _ [_,_] _ from ?_);exact bF<|ae<|ap<|ap<|so h▸xp J fe J J
  ·refine fy<|aN<|Z J<|bR h fun r1 I' h=>bc (ay (xs:=[.tmp 22]) (ts:=[Q (M b 0)]) [s dv 183 b r] _ J Kx (Fk _ _ I') ⟨(D J),aV⟩ (fun _=>J)) J fun i1=>?_;refine(show RG _ _ _ _ [_,_] ((23,bI r1)::_)from ?_);refine Z J<|im J<|bV h J (fun h=>?_) (fun h=>?_)
   ·refine aw J<|X (aL (D J))<|aR 0 qO J<|aR 1 zQ J<|f8 (cY wa J (lG (hs' :=[]) (nE jh tB zi) trivial J) J (D J) hI) fun i2=>?_;refine(show RG _ _ _ _ [_,_] _ from ?_);exact bF<|ae<|ap<|ap<|so h▸xp J fe J J
   ·refine fy<|aw J<|X (cB hI)<|bC<|ak<|bK<|fT ?_;refine aM (SP (aH:=fun n1 x1 x2 ob=>ig n n1 x1 x2 ob=some R) (Of:=fun x1 x2 ob=>[s mp 26 b1 x2,s dv 183 b ob]) (Gf:=fun x1 x2 ob=>[(0,Q (M b 0)),(2,tC 215 [Q (M b1 0)]),(30,bI n),(31,bI x1),(0,Q (M b 0))]) (fun x1 x2 ob h=>nn h) (fun n1 ih x1 x2 ob h=>?_) de 0 x r h) (aX J);refine cy<|O<|im J<|bC<|aS<|fz h J (fun h=>?_) (fun h=>?_)
    ·refine fy<|aS<|ak<|aS<|bR h fun e N_ h=>?_;refine rK 12 (ts:=[tC 215 [Q (M b1 0)],Q (M b 0),Q (M b 0),Q (M b 2),ek ((rI .u8)) ob.own,Q (M b 0),Q (M b 0),Q (M b 0),Q (M b 0),bI ob.place.at_,da (rI .u8) e,tD (rI .u8) e]) mixed J J J
      ⟨fc J J,
      ⟨fc J J,
      ⟨eS 34 1 J J (aL (D J)),
      ⟨eS 35 2 J J (pL 2 GF J J J),
      ⟨eS 36 3 J J (aA (r:=rH jB []) (x:=ob) wN J J (eF Bg) (.tail _ (.head _)) (D J)),
      ⟨fc J J,
      ⟨eS 38 5 J J (aL (D J)),
      ⟨eS 39 6 J J (pL 0 qO J J J),
      ⟨eS 40 7 J J (pL 0 zR J J J),
      ⟨eS 41 8 J J (aA (r:=rH jB []) (x:=ob) bH J J (eF (fY jh xa)) (.tail _ (.head _)) (D J)),
      ⟨fR 37 4 42 9 J J J (Aq gV iV J J J N_),
      ⟨kF 10 iV J J,
      aV⟩⟩⟩⟩⟩⟩⟩⟩⟩⟩⟩⟩ ?_
     refine bR h fun r2 Y' h=>bc (wD (xs:=[.tmp 44]) (ts:=[tD (rI .u8) e]) (cts:=[Q (M b1 0)]) (post:=fun i=>[s mp 26 b1 r2,s dv 183 b ob]) [s mp 26 b1 x2] [s dv 183 b ob] J aey (acl b1 _ _ Y') (D J) ⟨(D J),aV⟩ (fun _=>J)) J fun i3=>?_;refine(show RG _ _ _ _ [_,_] _ from ?_);refine bC<|ai<|Z J<|X (aL (D J))<|aR 0 qO J<|aR 0 zR J<|X (aA (r:=rH jB []) (x:=ob) bH J J (eF (fY jh xa)) (.tail _ (.head _)) (D J))<|X (cU (D J) hI)<|X (aL (D J))<|aR 0 qO J<|aR 0 zR J<|f8 (fr1 (cY bH J (lG (hs' :=[]) (nE jh tB Hi) trivial J) J (D J) (D J))) fun i4=>?_;refine(show RG _ _ _ _ [_,_] _ from ?_);refine aJ<|ah<|an<|ai<|X (cU (D J) hI)<|Z J<|aJ<|ap ?_;exact aY (aM (ih (i64.wrap (x1+1)) r2 ({ob with place:=({ob.place with at_:=(i64.wrap (ob.place.at_+1))}:rJ)}:av) h) (aX J))
    ·exact cL<|am<|am<|bL<|ap<|so h▸mQ J fe J J
def LY(b:Nat) r n{R}(h:df r n=some R):bU bt 181 [Q (M b 0),bI n] [s dv 183 b r] (fun i:OI=>tD mp R.1) (fun i=>[s dv 183 b R.2]):=by
 refine bU.of func181 J J J fun w0 S0=>O<|bD (r:=mp) (x:=0) kG (fun _=>J) J fun b1=>bC<|aw J<|Z J<|X (yM (cts:=[Q (M b1 0)]) (caps:=[.tmp 4]) ⟨(D J),aV⟩)<|bR h fun r1 I' h=>bc (fr1 (ay (xs:=[.tmp 5,.tmp 6,.tmp 7]) (ts:=[Q (M b 0),bI n,tC 215 [Q (M b1 0)]]) [s dv 183 b r,s mp 26 b1 0] _ J aaG (QJ _ _ _ _ _ I') ⟨(D J),(D J),(D J),aV⟩ (fun _=>J))) J fun i=>?_;refine(show RG _ _ _ _ [_,_] ((8,tT [])::_)from ?_);exact bC<|O<|X (aA (x:=r1.2) kG J J bm (.tail _ (.head _)) (D J))<|bf<|be kG aq J<|bF<|cJ 4 J<|so h▸cS J kG J J J fe J J
def Fj(b:Nat) r{R}(h:dd r=some R):bU bt 136 [Q (M b 0)] [s dv 183 b r] (fun i:OI=>tD (rI .u8) R.1) (fun i=>[s dv 183 b R.2]):=by
 refine bU.of func136 J J J fun w0 S0=>O<|bP<|bC<|aw J<|bR h fun r1 I' h=>bc (ay (xs:=[.tmp 3,.const (.int .i64 (1))]) (ts:=[Q (M b 0),bI 1]) [s dv 183 b r] _ J SA (LY _ _ _ I') ⟨(D J),hI,aV⟩ (fun _=>J)) J fun i=>?_;refine(show RG _ _ _ _ [_] ((4,tD mp r1.1)::_)from ?_);exact X (cT wG ln (D J))<|ba J<|so h▸ci J fe J J (fun _ _ h=>h)
def qQ(b:Nat)(b1:Nat) r H'{R}(h:bv r H'=some R):bU bt 99 [Q (M b 0)] [s (rH ax [(0,M b1 0)]) 146 b r,s dv 183 b1 H'] (fun i:OI=>bI R.1) (fun i=>[s (rH ax [(0,M b1 0)]) 146 b r,s dv 183 b1 R.2]):=by
 refine bU.of func99 J J J fun w0 S0=>O<|bP<|bC<|aw J<|X (aL (D J))<|aR 0 oA J<|X (dR me J (.head _) (D J))<|bR h fun r1 I' h=>bc (fr1 (ay (xs:=[.tmp 6]) (ts:=[Q (M b1 0)]) [s dv 183 b1 H'] _ J Kw (Fj _ _ I') ⟨(D J),aV⟩ (fun _=>J))) J fun i=>?_;refine(show RG _ _ _ _ [_,_] ((7,tD (rI .u8) r1.1)::_)from ?_);exact X (cT ln jm (D J))<|ba J<|ap<|so h▸ci J fe J J (fun _ _ h=>h)
def Db(b:Nat) r{R}(h:ii r=some R):bU bt 141 [Q (M b 0)] [s dv 183 b r] (fun i:OI=>bI R) (fun i=>[s dv 183 b r]):=by
 refine bU.of func141 J J J fun w0 S0=>O<|bP<|bC<|aN<|Z J<|X (GC underlying143 (D J))<|bV h J (fun h=>?_) (fun h=>?_)
 ·exact O<|ea<|ae<|so h▸ci J fe J J (fun _ _ h=>h)
 ·exact fy<|aw J<|X (aL (D J))<|aR 0 qO J<|aR 1 zQ J<|X (aA (r:=rH jB []) (x:=r) wa J J (eF (fY jh C8)) (.head _) (D J))<|ba J<|so h▸ci J fe J J (fun _ _ h=>h)
def zU(b:Nat)(b1:Nat) r H'{R}(h:eo r H'=some R):bU bt 101 [Q (M b 0)] [s (rH ax [(0,M b1 0)]) 146 b r,s dv 183 b1 H'] (fun i:OI=>fU R) (fun i=>[s (rH ax [(0,M b1 0)]) 146 b r,s dv 183 b1 H']):=by
 refine bU.of func101 J J J fun w0 S0=>O<|bo<|bC<|aw J<|X (aL (D J))<|aR 2 xX J<|X (aA (r:=rH ax [(0,M b1 0)]) (x:=r) ua J J (eF xV) (.head _) (D J))<|X (fq (D J))<|Z J ?_;refine xh (!r.bad) (fun Y=>?_) (fun Y=>?_)
 ·have h:=ct h Y;refine iW J J J Y<|Z J<|iW J J J Y<|X (aL (D J))<|iW J J J Y<|aR 0 oA J<|iW J J J Y<|X (dR me J (.head _) (D J))<|iW J J J Y<|bR h fun r1 I' h=>bc (fr1 (ay (xs:=[.tmp 12]) (ts:=[Q (M b1 0)]) [s dv 183 b1 H'] _ J Im (Db _ _ I') ⟨(D J),aV⟩ (fun _=>J))) J fun i=>?_;refine(show RG _ _ _ _ [_,_] ((13,bI r1)::_)from ?_);exact iW J J J Y<|bl J<|X (tM (D J) Y (D J))<|ba J<|ap<|so h▸ci J fe J J (fun _ _ h=>h)
 ·have h:=cf h Y;exact fG J J J Y J<|fG J J J Y J<|fG J J J Y J<|fG J J J Y J<|fG J J J Y J<|fG J J J Y J<|X (rX (D J) Y hBc)<|ba J<|ap<|ap<|so h▸ci J fe J J (fun _ _ h=>h)
def QN(b:Nat)(b1:Nat) r H' n{R}(h:nS r H' n=some R):bU bt 182 [Q (M b 0),bI n,Ha 99 [Q (M b 0)]] [s (rH ax [(0,M b1 0)]) 146 b r,s dv 183 b1 H'] (fun i:OI=>lk R.1) (fun i=>[s (rH ax [(0,M b1 0)]) 146 b r,s dv 183 b1 R.2]):=by
 refine bU.of func182 J J J fun w0 S0=>O<|fb cj<|bC<|O<|cn false cj 3<|X (cg vk)<|bC<|aN<|Z J<|X (cB hI)<|bC ?_;refine KH (aH:=fun out l c ob=>rt out ob=some R) (Of:=fun out l c ob=>[d5 cj 3 l c out,s (rH ax [(0,M b1 0)]) 146 b r,s dv 183 b1 ob]) (Gf:=fun out l c ob=>[(7,oI l c out)]) (fun out l c ob h=>?_) (fun hx=>?_)
 ·skip;exact an<|aw J<|ba J<|dE<|bS 7 J<|bS 20 J<|bS 6 J<|fa 6 J<|aF<|ap<|ap<|so h▸ci J fe J J (fun _ _ h=>h)
 ·skip;refine bK ?_;refine aM (uF (aH:=fun n1 n' l1 c1 x F'=>jE r n n1 n' x F'=some R) (Of:=fun n' l1 c1 x F'=>[d5 cj 3 l1 c1 n',s (rH ax [(0,M b1 0)]) 146 b r,s dv 183 b1 F']) (Gf:=fun n' l1 c1 x F'=>[(0,Q (M b 0)),(2,Ha 99 [Q (M b 0)]),(7,oI l1 c1 n'),(8,bI n),(9,bI x)]) (fun n' l1 c1 x F' h=>nn h) (fun n1 ih n' l1 c1 x F' h=>?_) de y6 none 0 0 H' h) (aX J);refine cy<|O<|im J<|bC<|aS<|fz h J (fun h=>?_) (fun h=>?_)
  ·refine fy<|aS<|ak<|aN<|Z J<|bR h fun r1 I' h=>bc (fr2 (fr2 (ay (xs:=[.tmp 11]) (ts:=[Q (M b 0)]) [s (rH ax [(0,M b1 0)]) 146 b r,s dv 183 b1 F'] _ J Ez (zU _ _ _ _ I') ⟨(D J),aV⟩ (fun _=>J)))) J fun i=>?_;refine(show RG _ _ _ _ [_,_,_] ((12,fU r1)::_)from ?_);refine X (fq (D J))<|bV h J (fun h=>?_) (fun h=>?_)
   ·refine cL<|am<|cN J<|am<|am<|bL<|ap<|ap<|aP ?_;exact bE (hx n' l1 c1 F' h) (aX J)
   ·refine fy<|ai<|Z J<|Z J<|bR h fun r2 Y' h=>bc (fr1 (fr1 (tz (xs:=[]) (fts:=[Q (M b 0)]) (ts:=[]) [s (rH ax [(0,M b1 0)]) 146 b r,s dv 183 b1 F'] _ J wu (qQ _ _ _ _ Y') (D J) trivial (fun _=>J)))) J fun i1=>?_;refine(show RG _ _ _ _ [_,_,_] ((16,bI r2.1)::_)from ?_);refine X (aT (r:=cj) (ys:=[r2.1]) (xs:=[.tmp 16]) eh bH J J J J J ⟨(D J),aV⟩)<|cd<|bR h fun V' m_ h=>bA bH J J J J eh J J (D J) (D J) m_ fun l2 c2=>dM J<|aJ<|ah<|an<|ai<|X (cU (D J) hI)<|Z J<|aJ ?_;exact aY (aM (ih V' l2 c2 (i64.wrap (x+1)) r2.2 h) (aX J))
  ·refine cL<|am<|am<|bL ?_;exact bE (hx n' l1 c1 F' h) (aX J)
def L6(b:Nat)(b1:Nat) r H'{R}(h:jD r H'=some R):bU bt 137 [Q (M b 0)] [s (rH ax [(0,M b1 0)]) 146 b r,s dv 183 b1 H'] (fun i:OI=>lk R.1) (fun i=>[s (rH ax [(0,M b1 0)]) 146 b r,s dv 183 b1 R.2]):=by
 refine bU.of func137 J J J fun w0 S0=>O<|fb cj<|bC<|aw J<|Z J<|bR h fun r1 I' h=>bc (fr1 (fr1 (ay (xs:=[.tmp 4]) (ts:=[Q (M b 0)]) [s (rH ax [(0,M b1 0)]) 146 b r,s dv 183 b1 H'] _ J wu (qQ _ _ _ _ I') ⟨(D J),aV⟩ (fun _=>J)))) J fun i=>?_;refine(show RG _ _ _ _ [_,_] ((5,bI r1.1)::_)from ?_);refine Z J<|X (uW (fts:=[Q (M b 0)]) (fst:=[.tmp 6]) ⟨(D J),aV⟩)<|bR h fun r2 Y' h=>bc (fr1 (fr1 (ay (xs:=[.tmp 3,.tmp 5,.tmp 7]) (ts:=[Q (M b 0),bI r1.1,Ha 99 [Q (M b 0)]]) [s (rH ax [(0,M b1 0)]) 146 b r,s dv 183 b1 r1.2] _ J aeS (QN _ _ _ _ _ Y') ⟨(D J),(D J),(D J),aV⟩ (fun _=>J)))) J fun i1=>?_;refine(show RG _ _ _ _ [_,_] ((8,lk r2.1)::_)from ?_);exact ba J<|ap<|ap<|so h▸ci J fe J J (fun _ _ h=>h)
def L8(b:Nat)(b1:Nat) r H'{R}(h:gO r H'=some R):bU bt 106 [Q (M b 0)] [s (rH ax [(0,M b1 0)]) 146 b r,s dv 183 b1 H'] (fun i:OI=>fU R.1) (fun i=>[s (rH ax [(0,M b1 0)]) 146 b R.2.1,s dv 183 b1 R.2.2]):=by
 refine bU.of func106 J J J fun w0 S0=>O<|bo<|bC<|aw J<|X (aL (D J))<|aR 0 oA J<|X (dR me J (.head _) (D J))<|bR h fun r1 I' h=>bc (fr1 (ay (xs:=[.tmp 7]) (ts:=[Q (M b1 0)]) [s dv 183 b1 H'] _ J Kw (Fj _ _ I') ⟨(D J),aV⟩ (fun _=>J))) J fun i=>?_;refine(show RG _ _ _ _ [_,_] ((8,tD (rI .u8) r1.1)::_)from ?_);refine aK J<|aw J<|Z J<|X (aL (D J))<|aR 2 xX J<|X (aA (r:=rH ax [(0,M b1 0)]) (x:=r) ua J J (eF xV) (.tail _ (.head _)) (D J))<|Z J<|aB J (ca J)<|aB J (fun Y=>d8 (bg J Y) hI)<|dG J<|X (aL (D J))<|aR 2 xX J<|f8 (fr1 (cY ua J (lG (hs' :=[(0,M b1 0)]) xA ⟨.inr ⟨J,J⟩,aV⟩ J) J (D J) (D J))) fun i1=>?_;refine(show RG _ _ _ _ [_,_] _ from ?_);exact bC<|aw J<|bl J<|ba J<|ap<|ap<|so h▸ci J fe J J (fun _ _ h=>h)
def QE(b:Nat) r{R}(h:mO r=some R):bU bt 144 [Q (M b 0)] [s dv 183 b r] (fun i:OI=>tD sC R.1) (fun i=>[s dv 183 b R.2]):=by
 refine bU.of func144 J J J fun w0 S0=>O<|bP<|bC<|aw J<|bR h fun r1 I' h=>bc (ay (xs:=[.tmp 3,.const (.int .i64 (4))]) (ts:=[Q (M b 0),bI 4]) [s dv 183 b r] _ J SA (LY _ _ _ I') ⟨(D J),hI,aV⟩ (fun _=>J)) J fun i=>?_;refine(show RG _ _ _ _ [_] ((4,tD mp r1.1)::_)from ?_);exact X (cT wG FA (D J))<|ba J<|so h▸ci J fe J J (fun _ _ h=>h)
def Wy(b:Nat) r{R}(h:jC r=some R):bU bt 216 [Q (M b 0)] [s dv 183 b r] (fun i:OI=>tD (rI .u16) R.1) (fun i=>[s dv 183 b R.2]):=by
 refine bU.of func216 J J J fun w0 S0=>O<|bP<|bC<|aw J<|bR h fun r1 I' h=>bc (ay (xs:=[.tmp 3,.const (.int .i64 (2))]) (ts:=[Q (M b 0),bI 2]) [s dv 183 b r] _ J SA (LY _ _ _ I') ⟨(D J),hI,aV⟩ (fun _=>J)) J fun i=>?_;refine(show RG _ _ _ _ [_] ((4,tD mp r1.1)::_)from ?_);exact X (cT wG underlying207 (D J))<|ba J<|so h▸ci J fe J J (fun _ _ h=>h)
def Wx(b:Nat)(l:Option Nat)(c:Nat) t{R}(h:pR t=some R):bU bt 221 [Q (M b 0)] [s rV 186 b (aI l c t.length),d5 cj 3 l c t] (fun i:OI=>bI R.1) (fun i=>[s rV 186 b (aI (i.h 0).1 (i.h 0).2 R.2.length),d5 cj 3 (i.h 0).1 (i.h 0).2 R.2]):=by
 refine bU.of func221 J J J fun w0 S0=>O<|bP<|bC<|aw J<|X (aL (D J))<|X (sY JM (.head _) (D J))<|aK J<|aN<|Z J<|X (jg GR (.tail _ (.head _)) (D J))<|bl J<|bV h J (fun h=>?_) (fun h=>?_)
 ·exact O<|ea<|ae<|ap<|ap<|so h▸ci J (y7 [(l,c)]) J J (fun _ _ h=>h)
 ·refine fy<|aw J<|Z J<|X (jg GR (.tail _ (.head _)) (D J))<|X (ec (D J) hI)<|bR h fun e N_ h=>X (fP GR bH (.tail _ (.head _)) (D J) (D J) N_)<|X (kJ (r:=cj) (i:=(i64.wrap ((t.length:Int)-1))) (foff:=0) bH J J bm J (.tail _ (.head _)) N_ (D J))<|aK J<|aw J<|Z J<|Z J<|X (jg GR (.tail _ (.head _)) (D J))<|X (ec (D J) hI)<|bR h fun y M_ h=>X (rp GR bH J (.tail _ (.head _)) (D J) (D J) M_)<|X (aL (D J)) ?_;exact bf<|IA M_<|bf<|eD JM J aq J (D J) (Fb (D J))<|bC<|aw J<|ba J<|ap<|ap<|so h▸ci J (y7 [(l,c)]) J J (fun _ _ h=>h)
def xd(b:Nat)(b1:Nat)(b2:Nat)(l:Option Nat)(c:Nat) r H' t n M'{R}(h:dD r H' t n M'=some R):bU bt 189 [Q (M b 0),Q (M b2 0),bI n,bI M'] [s (rH ax [(0,M b1 0)]) 146 b r,s dv 183 b1 H',s rV 186 b2 (aI l c t.length),d5 cj 3 l c t] (fun i:OI=>tT [bI R.1,bI R.2.1]) (fun i=>[s (rH ax [(0,M b1 0)]) 146 b R.2.2.1,s dv 183 b1 H',s rV 186 b2 (aI (i.h 0).1 (i.h 0).2 R.2.2.2.length),d5 cj 3 (i.h 0).1 (i.h 0).2 R.2.2.2]):=by
 refine bU.of func189 J J J fun w0 S0=>O<|bP<|bP<|bC<|O<|bP<|bP<|bC ?_;refine KF (aH:=fun b3 x l1 c1 ob=>nm n M' b3 x ob=some R) (Of:=fun b3 x l1 c1 ob=>[s rV 186 b2 (aI l1 c1 x.length),d5 cj 3 l1 c1 x,s (rH ax [(0,M b1 0)]) 146 b ob,s dv 183 b1 H']) (Gf:=fun b3 x l1 c1 ob=>[(0,Q (M b 0)),(1,Q (M b2 0)),(2,bI n),(3,bI M'),(10,bI (-1)),(11,bI b3)]) (fun b3 x l1 c1 ob h=>?_) (fun hx=>?_)
 ·skip;refine KF (aH:=fun a1 x1 l2 c2 F'=>kK M' b3 a1 x1 F'=some R) (Of:=fun a1 x1 l2 c2 F'=>[s rV 186 b2 (aI l2 c2 x1.length),d5 cj 3 l2 c2 x1,s (rH ax [(0,M b1 0)]) 146 b F',s dv 183 b1 H']) (Gf:=fun a1 x1 l2 c2 F'=>[(1,Q (M b2 0)),(3,bI M'),(10,bI a1),(11,bI b3)]) (fun a1 x1 l2 c2 F' h=>?_) (fun K1=>?_)
  ·skip;refine aw J<|Z J<|X (aL (D J))<|X (sY JM (.head _) (D J))<|Z J<|X (aT (r:=cj) (ys:=[M']) (xs:=[.tmp 46]) GR bH J J J J J ⟨(D J),aV⟩)<|bf<|bR h fun l3 q_l3 h=>bA bH J J J J GR J J (D J) (D J) q_l3 fun l4 c3=>X (aL (D J))<|bf<|eD JM J aq J (D J) (Fb (D J))<|bC<|aw J<|Z J<|dM J<|aK J ?_;exact qH<|ap<|ap<|aZ<|aZ<|so h▸xo (ts:=[bI a1,bI b3]) (rvs:=[.tmp 8,.tmp 9]) J J ⟨dH J,dH J,aV⟩ (y7 [(l4,c3)]) J J
  ·skip;refine aw J<|X (d9 (D J) hI)<|bV h J (fun h=>?_) (fun h=>?_)
   ·refine aw J<|bR h fun r1 I' h=>bc (fr1 (fr1 (ay (xs:=[.tmp 29]) (ts:=[Q (M b2 0)]) [s rV 186 b2 (aI l1 c1 x.length),d5 cj 3 l1 c1 x] _ J aaE (Wx _ _ _ _ I') ⟨(D J),aV⟩ (fun _=>J)))) J fun i=>?_;refine(show RG _ _ _ _ [_,_,_,_] ((30,bI r1.1)::_)from ?_);refine aK J<|ai<|Z J<|Z J<|X (aL (D J))<|aR 2 xX J<|X (aA (r:=rH ax [(0,M b1 0)]) (x:=ob) ua J J (eF xV) (.tail _ (.tail _ (.head _))) (D J))<|Z J<|aB J (ca J)<|aB J (fun Y=>eC (bg J Y) hI)<|dG J<|X (aL (D J))<|aR 2 xX J<|f8 (fr2 (cY ua J (lG (hs' :=[(0,M b1 0)]) xA ⟨.inr ⟨J,J⟩,aV⟩ J) J (D J) (D J))) fun i1=>?_;refine(show RG _ _ _ _ [_,_,_,_] _ from ?_);refine aJ<|aZ<|ap<|aZ<|aZ ?_;exact bE (K1 r1.1 r1.2 (i.h 0).1 (i.h 0).2 ({ob with bad:=(ob.bad||(decide (r1.1<0)))}:bq) h) (aX J)
   ·refine aW ?_;exact bE (K1 DA x l1 c1 ob h) (aX J)
 ·skip;refine aw J<|bl J<|bV h J (fun h=>?_) (fun h=>?_)
  ·refine aw J<|bR h fun r2 Y' h=>bc (fr3 (fr3 (ay (xs:=[.tmp 14]) (ts:=[Q (M b2 0)]) [s rV 186 b2 (aI l c t.length),d5 cj 3 l c t] _ J aaE (Wx _ _ _ _ Y') ⟨(D J),aV⟩ (fun _=>J)))) J fun i2=>?_;refine(show RG _ _ _ _ [_,_,_,_] ((15,bI r2.1)::_)from ?_);refine aK J<|ai<|Z J<|Z J<|X (aL (D J))<|aR 2 xX J<|X (aA (r:=rH ax [(0,M b1 0)]) (x:=r) ua J J (eF xV) (.tail _ (.tail _ (.head _))) (D J))<|Z J<|aB J (ca J)<|aB J (fun Y=>eC (bg J Y) hI)<|dG J<|X (aL (D J))<|aR 2 xX J<|f8 (fr2 (cY ua J (lG (hs' :=[(0,M b1 0)]) xA ⟨.inr ⟨J,J⟩,aV⟩ J) J (D J) (D J))) fun i3=>?_;refine(show RG _ _ _ _ [_,_,_,_] _ from ?_);refine aJ<|aZ<|ap<|aZ<|aZ ?_;exact bE (hx r2.1 r2.2 (i2.h 0).1 (i2.h 0).2 ({r with bad:=(r.bad||(decide (r2.1<0)))}:bq) h) (aX J)
  ·refine aW<|ap<|ap<|aZ<|aZ ?_;exact bE (hx DA t l c r h) (aX J)
def WF(b:Nat)(b1:Nat) r H'{R}(h:j4 r H'=some R):bU bt 147 [Q (M b 0)] [s (rH ax [(0,M b1 0)]) 146 b r,s dv 183 b1 H'] (fun i:OI=>ek ((rI .u8)) R) (fun i=>[s (rH ax [(0,M b1 0)]) 146 b r,s dv 183 b1 H']):=by
 refine bU.of func147 J J J fun w0 S0=>O<|fb ((rI .u8))<|bC<|aS<|bR h fun r1 I' h=>?_;refine jK 15 [tc (Q (M b 0)),tc (Q (M b 0)),tc (Q (M b 1)),tc (ek ((rI .u8)) r.all),tc (Q (M b 0)),tc (Q (M b 0)),tc (Q (M b 1)),tc (ek ((rI .u8)) r.all),tc (mR r.all),tc (Q (M b 0)),tc (Q (M b 0)),tc (Q (M b 0)),tc (Q (M b1 0)),tc (bI r1),tc (bI (i64.wrap ((r.all.length:Int)-r1)))] [false,false,false,false,false,false,false,false,false,false,false,false,false,true,false] [fun _=>[s (rH ax [(0,M b1 0)]) 146 b r,s dv 183 b1 H'],fun sg=>[s dv 183 b1 H',s (rH ax [(0,M b1 0)]) 146 b r]] J mixed J J J J J
  ⟨⟨[⟨0,fun _=>Q (M b 0),none⟩],_,0,1,J,⟨(fun _=>J),aV⟩,J,J,J,J,J,fun _ sg _ _=>af J (ki J)⟩,
  ⟨⟨[⟨3,fun _=>Q (M b 0),some 0⟩],_,0,1,J,⟨(fun _=>J),aV⟩,J,J,J,J,J,fun _ sg _ _=>af J (aL (D J))⟩,
  ⟨⟨[⟨4,fun _=>Q (M b 0),some 1⟩],_,0,1,J,⟨(fun _=>J),aV⟩,J,J,J,J,J,fun _ sg _ _=>af J (pL 1 Sa J J J)⟩,
  ⟨⟨[⟨5,fun _=>Q (M b 1),some 2⟩],_,0,1,J,⟨(fun _=>J),aV⟩,J,J,J,J,J,AD (fun sg=>af J (aA (r:=rH ax [(0,M b1 0)]) (x:=r) wN J J (eF xW) (.head _) (D J))) (qv (fun sg=>af J (aA (r:=rH ax [(0,M b1 0)]) (x:=r) wN J J (eF xW) (.tail _ (.head _)) (D J))))⟩,
  ⟨⟨[⟨0,fun _=>Q (M b 0),none⟩],_,0,1,J,⟨(fun _=>J),aV⟩,J,J,J,J,J,fun _ sg _ _=>af J (ki J)⟩,
  ⟨⟨[⟨7,fun _=>Q (M b 0),some 4⟩],_,0,1,J,⟨(fun _=>J),aV⟩,J,J,J,J,J,fun _ sg _ _=>af J (aL (D J))⟩,
  ⟨⟨[⟨8,fun _=>Q (M b 0),some 5⟩],_,0,1,J,⟨(fun _=>J),aV⟩,J,J,J,J,J,fun _ sg _ _=>af J (pL 1 Sa J J J)⟩,
  ⟨⟨[⟨9,fun _=>Q (M b 1),some 6⟩],_,0,1,J,⟨(fun _=>J),aV⟩,J,J,J,J,J,AD (fun sg=>af J (aA (r:=rH ax [(0,M b1 0)]) (x:=r) wN J J (eF xW) (.head _) (D J))) (qv (fun sg=>af J (aA (r:=rH ax [(0,M b1 0)]) (x:=r) wN J J (eF xW) (.tail _ (.head _)) (D J))))⟩,
  ⟨⟨[⟨10,fun _=>tD KN r.all,some 7⟩],_,0,1,J,⟨(fun _=>J),aV⟩,J,J,J,J,J,fun _ sg _ _=>af J (zln gV J)⟩,
  ⟨⟨[⟨0,fun _=>Q (M b 0),none⟩],_,0,0,J,⟨(fun _=>J),aV⟩,J,J,J,J,J,fun _ sg _ _=>af J (ki J)⟩,
  ⟨⟨[⟨12,fun _=>Q (M b 0),some 9⟩],_,0,0,J,⟨(fun _=>J),aV⟩,J,J,J,J,J,fun _ sg _ _=>af J (aL (D J))⟩,
  ⟨⟨[⟨13,fun _=>Q (M b 0),some 10⟩],_,0,0,J,⟨(fun _=>J),aV⟩,J,J,J,J,J,fun _ sg _ _=>af J (pL 0 oA J J J)⟩,
  ⟨⟨[⟨14,fun _=>Q (M b 0),some 11⟩],_,0,0,J,⟨(fun _=>J),aV⟩,J,J,J,J,J,qv (fun sg=>af J (dR me J (.head _) (D J)))⟩,
  ⟨⟨[⟨15,fun _=>Q (M b1 0),some 12⟩],_,J,⟨(fun _=>J),aV⟩,J,J,J,fun sg=>cG J (fr1 (ay (xs:=[.tmp 15]) (ts:=[Q (M b1 0)]) [s dv 183 b1 H'] _ J Kx (Fk _ _ I') ⟨(D J),aV⟩ (fun _=>J)))⟩,
  ⟨⟨[⟨11,fun _=>tD cj (r.all.length:Int),some 8⟩,⟨16,fun _=>tD cj r1,some 13⟩],_,1,1,J,⟨(fun _=>J),(fun _=>J),aV⟩,J,J,J,J,J,fun _ sg _ _=>af J (ec (D J) (D J))⟩,
  aV⟩⟩⟩⟩⟩⟩⟩⟩⟩⟩⟩⟩⟩⟩⟩ (fun sg=>?_)
 refine(show RG _ _ _ _ [_,_] _ from ?_);exact bR h fun y M_ h=>X (ro gV iV J (D J) (D J) M_)<|ba J<|ap<|so h▸ci J fe J J (fun _ _ h=>h)
def acg(b:Nat)(l:Option Nat)(c1:Nat) out c{R}(h:tn out c=some R):bU bt 225 [tD (rI .u8) c,Q (M b 0)] [s rV 37 b (aI l c1 out.length),d5 (rI .u8) 5 l c1 out] (fun i:OI=>tT []) (fun i=>[s rV 37 b (aI (i.h 0).1 (i.h 0).2 R.length),d5 (rI .u8) 5 (i.h 0).1 (i.h 0).2 R]):=by
 exact bU.of func225 J J J fun w0 S0=>ai<|X (sY wN (.head _) (D J))<|Z J<|X (aT (r:=(rI .u8)) (ys:=[c]) (xs:=[.tmp 4]) gV iV J J J J J ⟨(D J),aV⟩)<|bf<|bR h fun l1 Y_ h=>bA iV J J J J gV J J (D J) (D J) Y_ fun l2 c2=>bf<|eD wN J aq J (D J) (Fb (D J))<|aJ<|ap<|ap<|so h▸mQ J (oi l2 c2) J J
