/- bT of this claim: P19. -/
import Derived.Test.YtdohlidddcgfjaaGreatFdT
import Derived.Test.YtdohlidddcgfjaaGreatFdP18
set_option linter.all false
namespace Go.Proofs.YtdohlidddcgfjaaGreat
open Go
set_option maxRecDepth 100000

def Wg b{R}(h:tv b=some R):bk aY 97 [d8 ((rI .u8)) b] [] (fun i:OI=>Z (M (i.h 0).2 0)) (fun i=>[Q cz 183 (i.h 0).2 R]):=by
 refine bk.of Tryz.func97 J J J fun w0 S0=>a8<|s (cg (hV (v:= .pointer none)))<|br<|aB J<|cw iY J<|bM h fun mk q_mk h=>aL (S7 (r:=(rI .u8)) (x:=(0:Int)) tW J J J iY (fun _=>J) (D J) (D J) q_mk) J fun i=>s (ez (r:=rH p9 []) (y:=um (⟨TO,mk⟩:af) (au (i.h 0).1 (i.h 0).2 mk.length)) ZG Z7 (zH Jj trivial) (⟨_,_,_,_,_,J,Gv FH J J,J,(hW (D J) J0),J⟩))<|uE (D J) J fun b1=>aZ J<|aB J<|s (aC (D J))<|aW 2 Dp J<|s (nq pO (eD FX) (.head _) J (D J))<|aS J ?_;refine bM h fun cp q_cp h=>aL (EffOK.fr1 (Qh J iY (HI tW) (D J) (D J) (so q_cp))) J fun i1=>?_;refine(show RG _ _ _ _ [_,_] ((14,bC ((min b.length mk.length:Nat):Int))::_)from ?_);exact Fh (O' :=[dk (rI .u8) 5 (i.h 0).1 (i.h 0).2 cp,Q (rH p9 []) 183 b1 (um (⟨TO,mk⟩:af) (au (i.h 0).1 (i.h 0).2 cp.length))]) (by rw [Tb (so q_cp)])<|br<|aB J<|bq J<|dm<|ah<|uW (r' :=rH im []) (x' :=({(⟨TO,mk⟩:af)with own:=cp}:af)) (fun _ _ _ ho h=>TE h (fun h=>Cd (rF ho (.head _)) h))<|ah<|ba<|so h▸bF J (qZ [(none,b1)]) J J (fun _ _ h=>h)

def aam b{R}(h:v8 b=some R):bk aY 43 [d8 ((rI .u8)) b] [] (fun i:OI=>Z (M (i.h 0).2 0)) (fun i=>[Q (rH aj [(0,M (i.h 1).2 0)]) 146 (i.h 0).2 R.1,Q cz 183 (i.h 1).2 R.2]):=by
 refine bk.of Tryz.func43 J J J fun w0 S0=>a8<|s (cg (hV (v:= .pointer none)))<|br<|aB J<|bM h fun r q_r h=>aL (an (xs:=[.tmp 3]) (ts:=[d8 ((rI .u8)) b]) [] _ J aaw (Wg _ q_r) ⟨(D J),aM⟩ (fun _=>J)) J fun i=>?_;refine(show RG _ _ _ _ [_] ((4,Z (M (i.h 0).2 0))::_)from ?_);exact aS J<|s (ez (r:=rH rQ []) (y:=xH (⟨TJ,b,false⟩:aK) (M (i.h 0).2 0)) ZI aaa (zH Ji trivial) (⟨_,_,_,_,_,J,Gv FG J J,J,(hW (D J) J),⟨_,_,_,_,_,J,Gv FF J J,J,(D J),J⟩⟩))<|uE (D J) J fun b1=>Ts (r' :=rH aj [(0,M (i.h 0).2 0)]) (x' :=(⟨TJ,b,false⟩:aK)) (fun _ _ _ _ h=>aau h.1)<|bq J<|ah<|ah<|so h▸bF J (qZ [(none,b1),(none,(i.h 0).2)]) J J (fun _ _ h=>h)

def Yc(b:Nat) x c{R}(h:q5 x c=some R):bk aY 215 [tD (rI .u8) c,Z (M b 0)] [Q md 26 b x] (fun i:OI=>tT []) (fun i=>[Q md 26 b R]):=by
 exact bk.of Tryz.func215 J J J fun w0 S0=>aw<|s (aE pt J J bp (.head _) (D J))<|s (Xq (D J) hI (by decide))<|aS J<|s (fE uZ zr (D J))<|s (fS (D J) (D J))<|bv pt ax J<|aX<|so h▸eN J (oi none 0) J J

def Ca(b:Nat) r{R}(h:fY r=some R):bk aY 102 [Z (M b 0)] [Q cz 183 b r] (fun i:OI=>bC R) (fun i=>[Q cz 183 b r]):=by
 refine bk.of Tryz.func102 J J J fun w0 S0=>a8<|cM<|br<|bm<|aS J<|s (Dn Tryz.underlying143 (D J))<|cZ h J (fun h=>?_) (fun h=>?_)
 ·exact a8<|gQ<|av<|so h▸bF J jK J J (fun _ _ h=>h)
 ·refine jg<|aT ?_
  refine kM (ts:=[_,_,_,_,_,_,_,_,_,_,_,_]) mixed J J
   ⟨iy J J,
   ⟨gk 5 0 J J (aC (D J)),
   ⟨gk 6 1 J J (oK 2 Dp J J J),
   ⟨gk 7 2 J J (aE (r:=rH im []) (x:=r) pO J J (eD xN) (.head _) (D J)),
   ⟨gk 8 3 J J (WF iY J),
   ⟨iy J J,
   ⟨gk 10 5 J J (aC (D J)),
   ⟨gk 11 6 J J (oK 0 nP J J J),
   ⟨gk 12 7 J J (oK 0 wo J J J),
   ⟨gk 13 8 J J (aE (r:=rH im []) (x:=r) b9 J J (eD (eh gO tA)) (.head _) (D J)),
   ⟨kx 9 4 14 9 J J J (iI (D J) (D J)),
   ⟨gk 15 10 J J (Jo J),
   aM⟩⟩⟩⟩⟩⟩⟩⟩⟩⟩⟩⟩ ?_
  exact aG<|qU<|so h▸bF J jK J J (fun _ _ h=>h)

def MO(b:Nat)(b1:Nat) r n x{R}(h:nH r n x=some R):bk aY 214 [Z (M b 0),bC n,tC 215 [Z (M b1 0)]] [Q cz 183 b r,Q md 26 b1 x] (fun i:OI=>tT []) (fun i=>[Q cz 183 b R.1,Q md 26 b1 R.2]):=by
 refine bk.of Tryz.func214 J J J fun w0 S0=>bm<|aS J<|s (Dn Tryz.underlying143 (D J))<|aS J<|gx J J J J<|aS J<|gx J J J J<|s (aC (D J))<|gx J J J J<|aW 0 nP J<|gx J J J J<|aW 1 wn J<|gx J J J J<|s (aE (r:=rH im []) (x:=r) zx J J (eD (eh gO zR)) (.head _) (D J))<|gx J J J J<|nW J<|s (oW (D J) J (D J))<|cZ h J (fun h=>?_) (fun h=>?_)
 ·exact qU<|av<|ah<|ah<|so h▸qX J jK J J
 ·refine jg<|bm<|aS J<|s (iZ (D J) hI)<|cZ h J (fun h=>?_) (fun h=>?_)
  ·refine aB J<|s (aC (D J))<|aW 0 nP J<|aW 1 wn J<|eW (dj zx J (n7 (hs' :=[]) (oP gO p7 vN) trivial J) J (D J) hI) fun i=>?_;refine(show RG _ _ _ _ [_,_] _ from ?_);exact bS<|av<|ah<|ah<|so h▸qX J jK J J
  ·refine jg<|bm<|aS J<|bM h fun r1 q_r1 h=>aL (an (xs:=[.tmp 22]) (ts:=[Z (M b 0)]) [Q cz 183 b r] _ J Hf (Ca _ _ q_r1) ⟨(D J),aM⟩ (fun _=>J)) J fun i1=>?_;refine(show RG _ _ _ _ [_,_] ((23,bC r1)::_)from ?_);refine aS J<|nX J<|cZ h J (fun h=>?_) (fun h=>?_)
   ·refine aB J<|s (aC (D J))<|aW 0 nP J<|aW 1 wn J<|eW (dj zx J (n7 (hs' :=[]) (oP gO p7 vN) trivial J) J (D J) hI) fun i2=>?_;refine(show RG _ _ _ _ [_,_] _ from ?_);exact bS<|av<|ah<|ah<|so h▸qX J jK J J
   ·refine jg<|aB J<|s (bQ hI)<|br<|aA<|bN<|gE ?_;refine aV (OX (tV:=fun n1 x1 x2 ob=>fM n n1 x1 x2 ob=some R) (Of:=fun x1 x2 ob=>[Q md 26 b1 x2,Q cz 183 b ob]) (Gf:=fun x1 x2 ob=>[(0,Z (M b 0)),(2,tC 215 [Z (M b1 0)]),(30,bC n),(31,bC x1),(0,Z (M b 0))]) (fun x1 x2 ob h=>nn h) (fun n1 ih x1 x2 ob h=>?_) fh (0:Int) x r h) (bo J);refine eu<|a8<|nX J<|br<|aT<|jz h J (fun h=>?_) (fun h=>?_)
    ·refine jg<|aT<|aA<|aT<|bM h fun e q_e h=>?_
     refine se 12 (ts:=[tC 215 [Z (M b1 0)],Z (M b 0),Z (M b 0),Z (M b 2),d8 ((rI .u8)) ob.own,Z (M b 0),Z (M b 0),Z (M b 0),Z (M b 0),bC ob.place.at_,df (rI .u8) e,tD (rI .u8) e]) mixed J J J
      ⟨iy J J,
      ⟨iy J J,
      ⟨gk 34 1 J J (aC (D J)),
      ⟨gk 35 2 J J (oK 2 Dp J J J),
      ⟨gk 36 3 J J (aE (r:=rH im []) (x:=ob) pO J J (eD xN) (.tail _ (.head _)) (D J)),
      ⟨iy J J,
      ⟨gk 38 5 J J (aC (D J)),
      ⟨gk 39 6 J J (oK 0 nP J J J),
      ⟨gk 40 7 J J (oK 0 wo J J J),
      ⟨gk 41 8 J J (aE (r:=rH im []) (x:=ob) b9 J J (eD (eh gO tA)) (.tail _ (.head _)) (D J)),
      ⟨kx 37 4 42 9 J J J (Nt iY tW J J J q_e),
      ⟨u7 10 tW J J,
      aM⟩⟩⟩⟩⟩⟩⟩⟩⟩⟩⟩⟩ ?_
     refine bM h fun r2 q_r2 h=>aL (sY (xs:=[.tmp 44]) (ts:=[tD (rI .u8) e]) (cts:=[Z (M b1 0)]) (post:=fun i=>[Q md 26 b1 r2,Q cz 183 b ob]) [Q md 26 b1 x2] [Q cz 183 b ob] J aa8 (Yc b1 _ _ q_r2) (D J) ⟨(D J),aM⟩ (fun _=>J)) J fun i3=>?_;refine(show RG _ _ _ _ [_,_] _ from ?_);refine br<|aw<|aS J<|s (aC (D J))<|aW 0 nP J<|aW 0 wo J<|s (aE (r:=rH im []) (x:=ob) b9 J J (eD (eh gO tA)) (.tail _ (.head _)) (D J))<|s (fS (D J) hI)<|s (aC (D J))<|aW 0 nP J<|aW 0 wo J<|eW (EffOK.fr1 (dj b9 J (n7 (hs' :=[]) (oP gO p7 D5) trivial J) J (D J) (D J))) fun i4=>?_;refine(show RG _ _ _ _ [_,_] _ from ?_);refine aX<|aF<|aG<|aw<|s (fS (D J) hI)<|aS J<|aX<|ah ?_;exact bj (aV (ih (IntKind.i64.wrap (x1+(1:Int))) r2 ({ob with place:=({ob.place with at_:=(IntKind.i64.wrap (ob.place.at_+(1:Int)))}:lZ)}:af) h) (bo J))
    ·exact dB<|aq<|aq<|bV<|ah<|so h▸eN J jK J J

def IE(b:Nat) r n{R}(h:cm r n=some R):bk aY 181 [Z (M b 0),bC n] [Q cz 183 b r] (fun i:OI=>tD md R.1) (fun i=>[Q cz 183 b R.2]):=by
 refine bk.of Tryz.func181 J J J fun w0 S0=>a8<|bw (r:=md) (x:=(0:Int)) pt (fun _=>J) J fun b1=>br<|aB J<|aS J<|s (vk (cts:=[Z (M b1 0)]) (caps:=[.tmp 4]) ⟨(D J),aM⟩)<|bM h fun r1 q_r1 h=>aL (EffOK.fr1 (an (xs:=[.tmp 5,.tmp 6,.tmp 7]) (ts:=[Z (M b 0),bC n,tC 215 [Z (M b1 0)]]) [Q cz 183 b r,Q md 26 b1 (0:Int)] _ J Wq (MO _ _ _ _ _ q_r1) ⟨(D J),(D J),(D J),aM⟩ (fun _=>J))) J fun i=>?_;refine(show RG _ _ _ _ [_,_] ((8,tT [])::_)from ?_);exact br<|a8<|s (aE (x:=r1.2) pt J J bp (.tail _ (.head _)) (D J))<|cL<|bv pt ax J<|bS<|fG 4 J<|so h▸dz J pt J J J jK J J

def B9(b:Nat) r{R}(h:ck r=some R):bk aY 136 [Z (M b 0)] [Q cz 183 b r] (fun i:OI=>tD (rI .u8) R.1) (fun i=>[Q cz 183 b R.2]):=by
 refine bk.of Tryz.func136 J J J fun w0 S0=>a8<|cM<|br<|aB J<|bM h fun r1 q_r1 h=>aL (an (xs:=[.tmp 3,.const (.int .i64 (1))]) (ts:=[Z (M b 0),bC 1]) [Q cz 183 b r] _ J OF (IE _ _ _ q_r1) ⟨(D J),hI,aM⟩ (fun _=>J)) J fun i=>?_;refine(show RG _ _ _ _ [_] ((4,tD md r1.1)::_)from ?_);exact s (fE zr uZ (D J))<|bq J<|so h▸bF J jK J J (fun _ _ h=>h)

def nQ(b:Nat)(b1:Nat) r in1{R}(h:aO r in1=some R):bk aY 99 [Z (M b 0)] [Q (rH aj [(0,M b1 0)]) 146 b r,Q cz 183 b1 in1] (fun i:OI=>bC R.1) (fun i=>[Q (rH aj [(0,M b1 0)]) 146 b r,Q cz 183 b1 R.2]):=by
 refine bk.of Tryz.func99 J J J fun w0 S0=>a8<|cM<|br<|aB J<|s (aC (D J))<|aW 0 mo J<|s (cO ki J (.head _) (D J))<|bM h fun r1 q_r1 h=>aL (EffOK.fr1 (an (xs:=[.tmp 6]) (ts:=[Z (M b1 0)]) [Q cz 183 b1 in1] _ J Hd (B9 _ _ q_r1) ⟨(D J),aM⟩ (fun _=>J))) J fun i=>?_;refine(show RG _ _ _ _ [_,_] ((7,tD (rI .u8) r1.1)::_)from ?_);exact s (fE uZ lr (D J))<|bq J<|ah<|so h▸bF J jK J J (fun _ _ h=>h)

def z1(b:Nat) r{R}(h:fN r=some R):bk aY 141 [Z (M b 0)] [Q cz 183 b r] (fun i:OI=>bC R) (fun i=>[Q cz 183 b r]):=by
 refine bk.of Tryz.func141 J J J fun w0 S0=>a8<|cM<|br<|bm<|aS J<|s (Dn Tryz.underlying143 (D J))<|cZ h J (fun h=>?_) (fun h=>?_)
 ·exact a8<|gQ<|av<|so h▸bF J jK J J (fun _ _ h=>h)
 ·exact jg<|aB J<|s (aC (D J))<|aW 0 nP J<|aW 1 wn J<|s (aE (r:=rH im []) (x:=r) zx J J (eD (eh gO zR)) (.head _) (D J))<|bq J<|so h▸bF J jK J J (fun _ _ h=>h)

def wr(b:Nat)(b1:Nat) r in1{R}(h:c7 r in1=some R):bk aY 101 [Z (M b 0)] [Q (rH aj [(0,M b1 0)]) 146 b r,Q cz 183 b1 in1] (fun i:OI=>gI R) (fun i=>[Q (rH aj [(0,M b1 0)]) 146 b r,Q cz 183 b1 in1]):=by
 refine bk.of Tryz.func101 J J J fun w0 S0=>a8<|bA<|br<|aB J<|s (aC (D J))<|aW 2 uz J<|s (aE (r:=rH aj [(0,M b1 0)]) (x:=r) Ad J J (eD uv) (.head _) (D J))<|s (gG (D J))<|aS J ?_;refine tI (!r.bad) (fun H=>?_) (fun H=>?_)
 ·have h:=ct h H;refine gx J J J H<|aS J<|gx J J J H<|s (aC (D J))<|gx J J J H<|aW 0 mo J<|gx J J J H<|s (cO ki J (.head _) (D J))<|gx J J J H<|bM h fun r1 q_r1 h=>aL (EffOK.fr1 (an (xs:=[.tmp 12]) (ts:=[Z (M b1 0)]) [Q cz 183 b1 in1] _ J E9 (z1 _ _ q_r1) ⟨(D J),aM⟩ (fun _=>J))) J fun i=>?_;refine(show RG _ _ _ _ [_,_] ((13,bC r1)::_)from ?_);exact gx J J J H<|bW J<|s (qe (D J) H (D J))<|bq J<|ah<|so h▸bF J jK J J (fun _ _ h=>h)
 ·have h:=cf h H;exact dI J J J H J<|dI J J J H J<|dI J J J H J<|dI J J J H J<|dI J J J H J<|dI J J J H J<|s (oW (D J) H We)<|bq J<|ah<|ah<|so h▸bF J jK J J (fun _ _ h=>h)

def MS(b:Nat)(b1:Nat) r in1 n{R}(h:lN r in1 n=some R):bk aY 182 [Z (M b 0),bC n,DY 99 [Z (M b 0)]] [Q (rH aj [(0,M b1 0)]) 146 b r,Q cz 183 b1 in1] (fun i:OI=>pi R.1) (fun i=>[Q (rH aj [(0,M b1 0)]) 146 b r,Q cz 183 b1 R.2]):=by
 refine bk.of Tryz.func182 J J J fun w0 S0=>a8<|jh bP<|br<|a8<|cS false bP 3<|s (cg w3)<|br<|bm<|aS J<|s (bQ hI)<|br ?_;refine Hq (tV:=fun out l c ob=>ov out ob=some R) (Of:=fun out l c ob=>[dk bP 3 l c out,Q (rH aj [(0,M b1 0)]) 146 b r,Q cz 183 b1 ob]) (Gf:=fun out l c ob=>[(7,rL l c out)]) (fun out l c ob h=>?_) (fun hb=>?_)
 ·skip
  exact aG<|aB J<|bq J<|dm<|bB 7 J<|bB 20 J<|bB 6 J<|eY 6 J<|ba<|ah<|ah<|so h▸bF J jK J J (fun _ _ h=>h)
 ·skip
  refine bN ?_;refine aV (I4 (tV:=fun n1 out1 l1 c1 x ob1=>iq r n n1 out1 x ob1=some R) (Of:=fun out1 l1 c1 x ob1=>[dk bP 3 l1 c1 out1,Q (rH aj [(0,M b1 0)]) 146 b r,Q cz 183 b1 ob1]) (Gf:=fun out1 l1 c1 x ob1=>[(0,Z (M b 0)),(2,DY 99 [Z (M b 0)]),(7,rL l1 c1 out1),(8,bC n),(9,bC x)]) (fun out1 l1 c1 x ob1 h=>nn h) (fun n1 ih out1 l1 c1 x ob1 h=>?_) fh ss none 0 (0:Int) in1 h) (bo J);refine eu<|a8<|nX J<|br<|aT<|jz h J (fun h=>?_) (fun h=>?_)
  ·refine jg<|aT<|aA<|bm<|aS J<|bM h fun r1 q_r1 h=>aL (EffOK.fr2 (EffOK.fr2 (an (xs:=[.tmp 11]) (ts:=[Z (M b 0)]) [Q (rH aj [(0,M b1 0)]) 146 b r,Q cz 183 b1 ob1] _ J Bm (wr _ _ _ _ q_r1) ⟨(D J),aM⟩ (fun _=>J)))) J fun i=>?_;refine(show RG _ _ _ _ [_,_,_] ((12,gI r1)::_)from ?_);refine s (gG (D J))<|cZ h J (fun h=>?_) (fun h=>?_)
   ·refine dB<|aq<|bO J<|aq<|aq<|bV<|ah<|ah<|aH ?_;exact bZ (hb out1 l1 c1 ob1 h) (bo J)
   ·refine jg<|aw<|aS J<|aS J<|bM h fun r2 q_r2 h=>aL (EffOK.fr1 (EffOK.fr1 (pY (xs:=[]) (fts:=[Z (M b 0)]) (ts:=[]) [Q (rH aj [(0,M b1 0)]) 146 b r,Q cz 183 b1 ob1] _ J sM (nQ _ _ _ _ q_r2) (D J) trivial (fun _=>J)))) J fun i1=>?_;refine(show RG _ _ _ _ [_,_,_] ((16,bC r2.1)::_)from ?_);refine s (bc (r:=bP) (ys:=[r2.1]) (xs:=[.tmp 16]) fx b9 J J J J J ⟨(D J),aM⟩)<|cF<|bM h fun out2 q_out2 h=>dl b9 J J J J fx J J (D J) (D J) q_out2 fun l2 c2=>hE J<|aX<|aF<|aG<|aw<|s (fS (D J) hI)<|aS J<|aX ?_;exact bj (aV (ih out2 l2 c2 (IntKind.i64.wrap (x+(1:Int))) r2.2 h) (bo J))
  ·refine dB<|aq<|aq<|bV ?_;exact bZ (hb out1 l1 c1 ob1 h) (bo J)

def IF(b:Nat)(b1:Nat) r in1{R}(h:ip r in1=some R):bk aY 137 [Z (M b 0)] [Q (rH aj [(0,M b1 0)]) 146 b r,Q cz 183 b1 in1] (fun i:OI=>pi R.1) (fun i=>[Q (rH aj [(0,M b1 0)]) 146 b r,Q cz 183 b1 R.2]):=by
 refine bk.of Tryz.func137 J J J fun w0 S0=>a8<|jh bP<|br<|aB J<|aS J<|bM h fun r1 q_r1 h=>aL (EffOK.fr1 (EffOK.fr1 (an (xs:=[.tmp 4]) (ts:=[Z (M b 0)]) [Q (rH aj [(0,M b1 0)]) 146 b r,Q cz 183 b1 in1] _ J sM (nQ _ _ _ _ q_r1) ⟨(D J),aM⟩ (fun _=>J)))) J fun i=>?_;refine(show RG _ _ _ _ [_,_] ((5,bC r1.1)::_)from ?_);refine aS J<|s (ri (fts:=[Z (M b 0)]) (fst:=[.tmp 6]) ⟨(D J),aM⟩)<|bM h fun r2 q_r2 h=>aL (EffOK.fr1 (EffOK.fr1 (an (xs:=[.tmp 3,.tmp 5,.tmp 7]) (ts:=[Z (M b 0),bC r1.1,DY 99 [Z (M b 0)]]) [Q (rH aj [(0,M b1 0)]) 146 b r,Q cz 183 b1 r1.2] _ J abq (MS _ _ _ _ _ q_r2) ⟨(D J),(D J),(D J),aM⟩ (fun _=>J)))) J fun i1=>?_;refine(show RG _ _ _ _ [_,_] ((8,pi r2.1)::_)from ?_);exact bq J<|ah<|ah<|so h▸bF J jK J J (fun _ _ h=>h)

def IH(b:Nat)(b1:Nat) r in1{R}(h:ff r in1=some R):bk aY 106 [Z (M b 0)] [Q (rH aj [(0,M b1 0)]) 146 b r,Q cz 183 b1 in1] (fun i:OI=>gI R.1) (fun i=>[Q (rH aj [(0,M b1 0)]) 146 b R.2.1,Q cz 183 b1 R.2.2]):=by
 refine bk.of Tryz.func106 J J J fun w0 S0=>a8<|bA<|br<|aB J<|s (aC (D J))<|aW 0 mo J<|s (cO ki J (.head _) (D J))<|bM h fun r1 q_r1 h=>aL (EffOK.fr1 (an (xs:=[.tmp 7]) (ts:=[Z (M b1 0)]) [Q cz 183 b1 in1] _ J Hd (B9 _ _ q_r1) ⟨(D J),aM⟩ (fun _=>J))) J fun i=>?_;refine(show RG _ _ _ _ [_,_] ((8,tD (rI .u8) r1.1)::_)from ?_);refine aZ J<|aB J<|aS J<|s (aC (D J))<|aW 2 uz J<|s (aE (r:=rH aj [(0,M b1 0)]) (x:=r) Ad J J (eD uv) (.tail _ (.head _)) (D J))<|aS J<|bz J (du J)<|bz J (fun H=>ge (bL J H) hI)<|jW J<|s (aC (D J))<|aW 2 uz J<|eW (EffOK.fr1 (dj Ad J (n7 (hs' :=[(0,M b1 0)]) uf ⟨.inr ⟨J,J⟩,aM⟩ J) J (D J) (D J))) fun i1=>?_;refine(show RG _ _ _ _ [_,_] _ from ?_);exact br<|aB J<|bW J<|bq J<|ah<|ah<|so h▸bF J jK J J (fun _ _ h=>h)

def MI(b:Nat) r{R}(h:kR r=some R):bk aY 144 [Z (M b 0)] [Q cz 183 b r] (fun i:OI=>tD nT R.1) (fun i=>[Q cz 183 b R.2]):=by
 refine bk.of Tryz.func144 J J J fun w0 S0=>a8<|cM<|br<|aB J<|bM h fun r1 q_r1 h=>aL (an (xs:=[.tmp 3,.const (.int .i64 (4))]) (ts:=[Z (M b 0),bC 4]) [Q cz 183 b r] _ J OF (IE _ _ _ q_r1) ⟨(D J),hI,aM⟩ (fun _=>J)) J fun i=>?_;refine(show RG _ _ _ _ [_] ((4,tD md r1.1)::_)from ?_);exact s (fE zr DI (D J))<|bq J<|so h▸bF J jK J J (fun _ _ h=>h)

def SL(b:Nat) r{R}(h:io r=some R):bk aY 216 [Z (M b 0)] [Q cz 183 b r] (fun i:OI=>tD Hw R.1) (fun i=>[Q cz 183 b R.2]):=by
 refine bk.of Tryz.func216 J J J fun w0 S0=>a8<|cM<|br<|aB J<|bM h fun r1 q_r1 h=>aL (an (xs:=[.tmp 3,.const (.int .i64 (2))]) (ts:=[Z (M b 0),bC 2]) [Q cz 183 b r] _ J OF (IE _ _ _ q_r1) ⟨(D J),hI,aM⟩ (fun _=>J)) J fun i=>?_;refine(show RG _ _ _ _ [_] ((4,tD md r1.1)::_)from ?_);exact s (fE zr F8 (D J))<|bq J<|so h▸bF J jK J J (fun _ _ h=>h)

def SK(b:Nat)(l:Option Nat)(c:Nat) t{R}(h:nf t=some R):bk aY 221 [Z (M b 0)] [Q rV 186 b (au l c t.length),dk bP 3 l c t] (fun i:OI=>bC R.1) (fun i=>[Q rV 186 b (au (i.h 0).1 (i.h 0).2 R.2.length),dk bP 3 (i.h 0).1 (i.h 0).2 R.2]):=by
 refine bk.of Tryz.func221 J J J fun w0 S0=>a8<|cM<|br<|aB J<|s (aC (D J))<|s (pz Gk (.head _) (D J))<|aZ J<|bm<|aS J<|s (ja DH (.tail _ (.head _)) (D J))<|bW J<|cZ h J (fun h=>?_) (fun h=>?_)
 ·exact a8<|gQ<|av<|ah<|ah<|so h▸bF J (qZ [(l,c)]) J J (fun _ _ h=>h)
 ·refine jg<|aB J<|aS J<|s (ja DH (.tail _ (.head _)) (D J))<|s (iI (D J) hI)<|bM h fun e q_e h=>s (iC DH b9 (.tail _ (.head _)) (D J) (D J) q_e)<|s (nc (r:=bP) (i:=(IntKind.i64.wrap ((t.length:Int)-(1:Int)))) (foff:=0) b9 J J bp J (.tail _ (.head _)) q_e (D J))<|aZ J<|aB J<|aS J<|aS J<|s (ja DH (.tail _ (.head _)) (D J))<|s (iI (D J) hI)<|bM h fun y q_y h=>s (om DH b9 J (.tail _ (.head _)) (D J) (D J) q_y)<|s (aC (D J)) ?_;exact cL<|Fg q_y<|cL<|ed Gk J ax J (D J) (Kp (D J))<|br<|aB J<|bq J<|ah<|ah<|so h▸bF J (qZ [(l,c)]) J J (fun _ _ h=>h)

def tF(b:Nat)(b1:Nat)(b2:Nat)(l:Option Nat)(c:Nat) r in1 t n at1{R}(h:cI r in1 t n at1=some R):bk aY 189 [Z (M b 0),Z (M b2 0),bC n,bC at1] [Q (rH aj [(0,M b1 0)]) 146 b r,Q cz 183 b1 in1,Q rV 186 b2 (au l c t.length),dk bP 3 l c t] (fun i:OI=>tT [bC R.1,bC R.2.1]) (fun i=>[Q (rH aj [(0,M b1 0)]) 146 b R.2.2.1,Q cz 183 b1 in1,Q rV 186 b2 (au (i.h 0).1 (i.h 0).2 R.2.2.2.length),dk bP 3 (i.h 0).1 (i.h 0).2 R.2.2.2]):=by
 refine bk.of Tryz.func189 J J J fun w0 S0=>a8<|cM<|cM<|br<|a8<|cM<|cM<|br ?_;refine Hm (tV:=fun b3 x l1 c1 ob=>ln n at1 b3 x ob=some R) (Of:=fun b3 x l1 c1 ob=>[Q rV 186 b2 (au l1 c1 x.length),dk bP 3 l1 c1 x,Q (rH aj [(0,M b1 0)]) 146 b ob,Q cz 183 b1 in1]) (Gf:=fun b3 x l1 c1 ob=>[(0,Z (M b 0)),(1,Z (M b2 0)),(2,bC n),(3,bC at1),(10,bC (-1)),(11,bC b3)]) (fun b3 x l1 c1 ob h=>?_) (fun hb=>?_)
 ·skip
  refine Hm (tV:=fun a1 x1 l2 c2 ob1=>jj at1 b3 a1 x1 ob1=some R) (Of:=fun a1 x1 l2 c2 ob1=>[Q rV 186 b2 (au l2 c2 x1.length),dk bP 3 l2 c2 x1,Q (rH aj [(0,M b1 0)]) 146 b ob1,Q cz 183 b1 in1]) (Gf:=fun a1 x1 l2 c2 ob1=>[(1,Z (M b2 0)),(3,bC at1),(10,bC a1),(11,bC b3)]) (fun a1 x1 l2 c2 ob1 h=>?_) (fun K1=>?_)
  ·skip
   refine aB J<|aS J<|s (aC (D J))<|s (pz Gk (.head _) (D J))<|aS J<|s (bc (r:=bP) (ys:=[at1]) (xs:=[.tmp 46]) DH b9 J J J J J ⟨(D J),aM⟩)<|cL<|bM h fun l3 q_l3 h=>dl b9 J J J J DH J J (D J) (D J) q_l3 fun l4 c3=>s (aC (D J))<|cL<|ed Gk J ax J (D J) (Kp (D J))<|br<|aB J<|aS J<|hE J<|aZ J ?_;exact qU<|ah<|ah<|aQ<|aQ<|so h▸qW (ts:=[bC a1,bC b3]) (rvs:=[.tmp 8,.tmp 9]) J J ⟨gJ J,gJ J,aM⟩ (qZ [(l4,c3)]) J J
  ·skip
   refine aB J<|s (iJ (D J) hI)<|cZ h J (fun h=>?_) (fun h=>?_)
   ·refine aB J<|bM h fun r1 q_r1 h=>aL (EffOK.fr1 (EffOK.fr1 (an (xs:=[.tmp 29]) (ts:=[Z (M b2 0)]) [Q rV 186 b2 (au l1 c1 x.length),dk bP 3 l1 c1 x] _ J Wo (SK _ _ _ _ q_r1) ⟨(D J),aM⟩ (fun _=>J)))) J fun i=>?_;refine(show RG _ _ _ _ [_,_,_,_] ((30,bC r1.1)::_)from ?_);refine aZ J<|aw<|aS J<|aS J<|s (aC (D J))<|aW 2 uz J<|s (aE (r:=rH aj [(0,M b1 0)]) (x:=ob) Ad J J (eD uv) (.tail _ (.tail _ (.head _))) (D J))<|aS J<|bz J (du J)<|bz J (fun H=>iZ (bL J H) hI)<|jW J<|s (aC (D J))<|aW 2 uz J<|eW (EffOK.fr2 (dj Ad J (n7 (hs' :=[(0,M b1 0)]) uf ⟨.inr ⟨J,J⟩,aM⟩ J) J (D J) (D J))) fun i1=>?_;refine(show RG _ _ _ _ [_,_,_,_] _ from ?_);refine aX<|aQ<|ah<|aQ<|aQ ?_;exact bZ (K1 r1.1 r1.2 (i.h 0).1 (i.h 0).2 ({ob with bad:=(ob.bad||(decide (r1.1<(0:Int))))}:aK) h) (bo J)
   ·refine bE ?_;exact bZ (K1 C0 x l1 c1 ob h) (bo J)
 ·skip
  refine aB J<|bW J<|cZ h J (fun h=>?_) (fun h=>?_)
  ·refine aB J<|bM h fun r2 q_r2 h=>aL (EffOK.fr3 (EffOK.fr3 (an (xs:=[.tmp 14]) (ts:=[Z (M b2 0)]) [Q rV 186 b2 (au l c t.length),dk bP 3 l c t] _ J Wo (SK _ _ _ _ q_r2) ⟨(D J),aM⟩ (fun _=>J)))) J fun i2=>?_;refine(show RG _ _ _ _ [_,_,_,_] ((15,bC r2.1)::_)from ?_);refine aZ J<|aw<|aS J<|aS J<|s (aC (D J))<|aW 2 uz J<|s (aE (r:=rH aj [(0,M b1 0)]) (x:=r) Ad J J (eD uv) (.tail _ (.tail _ (.head _))) (D J))<|aS J<|bz J (du J)<|bz J (fun H=>iZ (bL J H) hI)<|jW J<|s (aC (D J))<|aW 2 uz J<|eW (EffOK.fr2 (dj Ad J (n7 (hs' :=[(0,M b1 0)]) uf ⟨.inr ⟨J,J⟩,aM⟩ J) J (D J) (D J))) fun i3=>?_;refine(show RG _ _ _ _ [_,_,_,_] _ from ?_);refine aX<|aQ<|ah<|aQ<|aQ ?_;exact bZ (hb r2.1 r2.2 (i2.h 0).1 (i2.h 0).2 ({r with bad:=(r.bad||(decide (r2.1<(0:Int))))}:aK) h) (bo J)
  ·refine bE<|ah<|ah<|aQ<|aQ ?_;exact bZ (hb C0 t l c r h) (bo J)

def ST(b:Nat)(b1:Nat) r in1{R}(h:iM r in1=some R):bk aY 147 [Z (M b 0)] [Q (rH aj [(0,M b1 0)]) 146 b r,Q cz 183 b1 in1] (fun i:OI=>d8 ((rI .u8)) R) (fun i=>[Q (rH aj [(0,M b1 0)]) 146 b r,Q cz 183 b1 in1]):=by
 refine bk.of Tryz.func147 J J J fun w0 S0=>a8<|jh ((rI .u8))<|br<|aT<|bM h fun r1 q_r1 h=>?_
 refine iT 15 [tc (Z (M b 0)),tc (Z (M b 0)),tc (Z (M b 1)),tc (d8 ((rI .u8)) r.all),tc (Z (M b 0)),tc (Z (M b 0)),tc (Z (M b 1)),tc (d8 ((rI .u8)) r.all),tc (nz r.all),tc (Z (M b 0)),tc (Z (M b 0)),tc (Z (M b 0)),tc (Z (M b1 0)),tc (bC r1),tc (bC (IntKind.i64.wrap ((r.all.length:Int)-r1)))] [false,false,false,false,false,false,false,false,false,false,false,false,false,true,false] [fun _=>[Q (rH aj [(0,M b1 0)]) 146 b r,Q cz 183 b1 in1],fun sg=>[Q cz 183 b1 in1,Q (rH aj [(0,M b1 0)]) 146 b r]] J mixed J J J J J
  ⟨⟨[⟨0,fun _=>Z (M b 0),none⟩],_,0,1,J,⟨(fun _=>J),aM⟩,J,J,J,J,J,fun _ sg _ _=>ac J (lQ J)⟩,
  ⟨⟨[⟨3,fun _=>Z (M b 0),some 0⟩],_,0,1,J,⟨(fun _=>J),aM⟩,J,J,J,J,J,fun _ sg _ _=>ac J (aC (D J))⟩,
  ⟨⟨[⟨4,fun _=>Z (M b 0),some 1⟩],_,0,1,J,⟨(fun _=>J),aM⟩,J,J,J,J,J,fun _ sg _ _=>ac J (oK 1 Oj J J J)⟩,
  ⟨⟨[⟨5,fun _=>Z (M b 1),some 2⟩],_,0,1,J,⟨(fun _=>J),aM⟩,J,J,J,J,J,C1 (fun sg=>ac J (aE (r:=rH aj [(0,M b1 0)]) (x:=r) pO J J (eD uw) (.head _) (D J))) (nD (fun sg=>ac J (aE (r:=rH aj [(0,M b1 0)]) (x:=r) pO J J (eD uw) (.tail _ (.head _)) (D J))))⟩,
  ⟨⟨[⟨0,fun _=>Z (M b 0),none⟩],_,0,1,J,⟨(fun _=>J),aM⟩,J,J,J,J,J,fun _ sg _ _=>ac J (lQ J)⟩,
  ⟨⟨[⟨7,fun _=>Z (M b 0),some 4⟩],_,0,1,J,⟨(fun _=>J),aM⟩,J,J,J,J,J,fun _ sg _ _=>ac J (aC (D J))⟩,
  ⟨⟨[⟨8,fun _=>Z (M b 0),some 5⟩],_,0,1,J,⟨(fun _=>J),aM⟩,J,J,J,J,J,fun _ sg _ _=>ac J (oK 1 Oj J J J)⟩,
  ⟨⟨[⟨9,fun _=>Z (M b 1),some 6⟩],_,0,1,J,⟨(fun _=>J),aM⟩,J,J,J,J,J,C1 (fun sg=>ac J (aE (r:=rH aj [(0,M b1 0)]) (x:=r) pO J J (eD uw) (.head _) (D J))) (nD (fun sg=>ac J (aE (r:=rH aj [(0,M b1 0)]) (x:=r) pO J J (eD uw) (.tail _ (.head _)) (D J))))⟩,
  ⟨⟨[⟨10,fun _=>tD Jl r.all,some 7⟩],_,0,1,J,⟨(fun _=>J),aM⟩,J,J,J,J,J,fun _ sg _ _=>ac J (WF iY J)⟩,
  ⟨⟨[⟨0,fun _=>Z (M b 0),none⟩],_,0,0,J,⟨(fun _=>J),aM⟩,J,J,J,J,J,fun _ sg _ _=>ac J (lQ J)⟩,
  ⟨⟨[⟨12,fun _=>Z (M b 0),some 9⟩],_,0,0,J,⟨(fun _=>J),aM⟩,J,J,J,J,J,fun _ sg _ _=>ac J (aC (D J))⟩,
  ⟨⟨[⟨13,fun _=>Z (M b 0),some 10⟩],_,0,0,J,⟨(fun _=>J),aM⟩,J,J,J,J,J,fun _ sg _ _=>ac J (oK 0 mo J J J)⟩,
  ⟨⟨[⟨14,fun _=>Z (M b 0),some 11⟩],_,0,0,J,⟨(fun _=>J),aM⟩,J,J,J,J,J,nD (fun sg=>ac J (cO ki J (.head _) (D J)))⟩,
  ⟨⟨[⟨15,fun _=>Z (M b1 0),some 12⟩],_,J,⟨(fun _=>J),aM⟩,J,J,J,fun sg=>bY J (EffOK.fr1 (an (xs:=[.tmp 15]) (ts:=[Z (M b1 0)]) [Q cz 183 b1 in1] _ J Hf (Ca _ _ q_r1) ⟨(D J),aM⟩ (fun _=>J)))⟩,
  ⟨⟨[⟨11,fun _=>tD bP (r.all.length:Int),some 8⟩,⟨16,fun _=>tD bP r1,some 13⟩],_,1,1,J,⟨(fun _=>J),(fun _=>J),aM⟩,J,J,J,J,J,fun _ sg _ _=>ac J (iI (D J) (D J))⟩,
  aM⟩⟩⟩⟩⟩⟩⟩⟩⟩⟩⟩⟩⟩⟩⟩ (fun sg=>?_)
 refine(show RG _ _ _ _ [_,_] _ from ?_);exact bM h fun y q_y h=>s (Mh iY tW J (D J) (D J) q_y)<|bq J<|ah<|so h▸bF J jK J J (fun _ _ h=>h)

def X8(b:Nat)(l:Option Nat)(c1:Nat) out c{R}(h:pT out c=some R):bk aY 225 [tD (rI .u8) c,Z (M b 0)] [Q rV 37 b (au l c1 out.length),dk (rI .u8) 5 l c1 out] (fun i:OI=>tT []) (fun i=>[Q rV 37 b (au (i.h 0).1 (i.h 0).2 R.length),dk (rI .u8) 5 (i.h 0).1 (i.h 0).2 R]):=by
 exact bk.of Tryz.func225 J J J fun w0 S0=>aw<|s (pz pO (.head _) (D J))<|aS J<|s (bc (r:=(rI .u8)) (ys:=[c]) (xs:=[.tmp 4]) iY tW J J J J J ⟨(D J),aM⟩)<|cL<|bM h fun l1 q_l1 h=>dl tW J J J J iY J J (D J) (D J) q_l1 fun l2 c2=>cL<|ed pO J ax J (D J) (Kp (D J))<|aX<|ah<|ah<|so h▸eN J (oi l2 c2) J J

end Go.Proofs.YtdohlidddcgfjaaGreat

