/- bS of this claim: P19. -/
import Derived.Test.YtdohlidddcgfjaaGreatFfT
import Derived.Test.YtdohlidddcgfjaaGreatFfP18
set_option linter.all false
namespace Go.Proofs.YtdohlidddcgfjaaGreat
open Go
set_option maxRecDepth 100000

def Xd b{R}(h:tU b=some R):bk aY 97 [eg ((rI .u8)) b] [] (fun i:OI=>Z (M (i.h 0).2 0)) (fun i=>[Q cB 183 (i.h 0).2 R]):=by
 refine bk.of Tryz.func97 J J J fun w0 S0=>bc<|s (cg (hV (v:= .pointer none)))<|br<|aB J<|cr oh J<|bL h fun mk q_mk h=>aL (TT (r:=(rI .u8)) (x:=(0:Int)) qL J J J oh (fun _=>J) (D J) (D J) q_mk) J fun i=>s (eG (r:=rH qo []) (y:=uF (⟨Uy,mk⟩:af) (av (i.h 0).1 (i.h 0).2 mk.length)) aay aaW (zH JG trivial) (⟨_,_,_,_,_,J,GQ F3 J J,J,(hW (D J) Kz),J⟩))<|uU (D J) J fun b1=>a8 J<|aB J<|s (aC (D J))<|aW 2 DH J<|s (nD qa (eI Gn) (.head _) J (D J))<|aR J ?_;refine bL h fun cp q_cp h=>aL (EffOK.fr1 (QR J oh (Ig qL) (D J) (D J) (so q_cp))) J fun i1=>?_;refine(show RG _ _ _ _ [_,_] ((14,bB ((min b.length mk.length:Nat):Int))::_)from ?_);exact FD (O' :=[dr (rI .u8) 5 (i.h 0).1 (i.h 0).2 cp,Q (rH qo []) 183 b1 (uF (⟨Uy,mk⟩:af) (av (i.h 0).1 (i.h 0).2 cp.length))]) (by rw [TW (so q_cp)])<|br<|aB J<|bq J<|du<|ah<|vi (r' :=rH iw []) (x' :=({(⟨Uy,mk⟩:af)with own:=cp}:af)) (fun _ _ _ ho h=>Up h (fun h=>Cx (rX ho (.head _)) h))<|ah<|aZ<|so h▸bF J (rf [(none,b1)]) J J (fun _ _ h=>h)

def abb b{R}(h:wr b=some R):bk aY 43 [eg ((rI .u8)) b] [] (fun i:OI=>Z (M (i.h 0).2 0)) (fun i=>[Q (rH aj [(0,M (i.h 1).2 0)]) 146 (i.h 0).2 R.1,Q cB 183 (i.h 1).2 R.2]):=by
 refine bk.of Tryz.func43 J J J fun w0 S0=>bc<|s (cg (hV (v:= .pointer none)))<|br<|aB J<|bL h fun r q_r h=>aL (an (xs:=[.tmp 3]) (ts:=[eg ((rI .u8)) b]) [] _ J abk (Xd _ q_r) ⟨(D J),aM⟩ (fun _=>J)) J fun i=>?_;refine(show RG _ _ _ _ [_] ((4,Z (M (i.h 0).2 0))::_)from ?_);exact aR J<|s (eG (r:=rH sh []) (y:=xX (⟨Ut,b,false⟩:aK) (M (i.h 0).2 0)) aaA aaZ (zH JF trivial) (⟨_,_,_,_,_,J,GQ F2 J J,J,(hW (D J) J),⟨_,_,_,_,_,J,GQ F1 J J,J,(D J),J⟩⟩))<|uU (D J) J fun b1=>Ud (r' :=rH aj [(0,M (i.h 0).2 0)]) (x' :=(⟨Ut,b,false⟩:aK)) (fun _ _ _ _ h=>abi h.1)<|bq J<|ah<|ah<|so h▸bF J (rf [(none,b1),(none,(i.h 0).2)]) J J (fun _ _ h=>h)

def Y0(b:Nat) x c{R}(h:ri x c=some R):bk aY 215 [tD (rI .u8) c,Z (M b 0)] [Q mi 26 b x] (fun i:OI=>tT []) (fun i=>[Q mi 26 b R]):=by
 exact bk.of Tryz.func215 J J J fun w0 S0=>ax<|s (aE pN J J bo (.head _) (D J))<|s (Yf (D J) hI (by decide))<|aR J<|s (fH uZ zG (D J))<|s (fY (D J) (D J))<|bw pN aw J<|aX<|so h▸eV J (oi none 0) J J

def Cu(b:Nat) r{R}(h:gc r=some R):bk aY 102 [Z (M b 0)] [Q cB 183 b r] (fun i:OI=>bB R) (fun i=>[Q cB 183 b r]):=by
 refine bk.of Tryz.func102 J J J fun w0 S0=>bc<|cO<|br<|bm<|aR J<|s (DE Tryz.underlying143 (D J))<|c0 h J (fun h=>?_) (fun h=>?_)
 ·exact bc<|gZ<|au<|so h▸bF J jQ J J (fun _ _ h=>h)
 ·refine jf<|aU ?_
  refine lx (ts:=[_,_,_,_,_,_,_,_,_,_,_,_]) mixed J J
   ⟨iH J J,
   ⟨gE 5 0 J J (aC (D J)),
   ⟨gE 6 1 J J (oZ 2 DH J J J),
   ⟨gE 7 2 J J (aE (r:=rH iw []) (x:=r) qa J J (eI yd) (.head _) (D J)),
   ⟨gE 8 3 J J (XD oh J),
   ⟨iH J J,
   ⟨gE 10 5 J J (aC (D J)),
   ⟨gE 11 6 J J (oZ 0 n8 J J J),
   ⟨gE 12 7 J J (oZ 0 wF J J J),
   ⟨gE 13 8 J J (aE (r:=rH iw []) (x:=r) b9 J J (eI (er gY tZ)) (.head _) (D J)),
   ⟨kV 9 4 14 9 J J J (iF (D J) (D J)),
   ⟨gE 15 10 J J (LS J),
   aM⟩⟩⟩⟩⟩⟩⟩⟩⟩⟩⟩⟩ ?_
  exact aG<|rN<|so h▸bF J jQ J J (fun _ _ h=>h)

def Nm(b:Nat)(b1:Nat) r n x{R}(h:nS r n x=some R):bk aY 214 [Z (M b 0),bB n,tC 215 [Z (M b1 0)]] [Q cB 183 b r,Q mi 26 b1 x] (fun i:OI=>tT []) (fun i=>[Q cB 183 b R.1,Q mi 26 b1 R.2]):=by
 refine bk.of Tryz.func214 J J J fun w0 S0=>bm<|aR J<|s (DE Tryz.underlying143 (D J))<|aR J<|gG J J J J<|aR J<|gG J J J J<|s (aC (D J))<|gG J J J J<|aW 0 n8 J<|gG J J J J<|aW 1 wE J<|gG J J J J<|s (aE (r:=rH iw []) (x:=r) zO J J (eI (er gY Ad)) (.head _) (D J))<|gG J J J J<|nU J<|s (pi (D J) J (D J))<|c0 h J (fun h=>?_) (fun h=>?_)
 ·exact rN<|au<|ah<|ah<|so h▸rb J jQ J J
 ·refine jf<|bm<|aR J<|s (jd (D J) hI)<|c0 h J (fun h=>?_) (fun h=>?_)
  ·refine aB J<|s (aC (D J))<|aW 0 n8 J<|aW 1 wE J<|fb (dq zO J (ot (hs' :=[]) (pb gY qn wd) trivial J) J (D J) hI) fun i=>?_;refine(show RG _ _ _ _ [_,_] _ from ?_);exact bQ<|au<|ah<|ah<|so h▸rb J jQ J J
  ·refine jf<|bm<|aR J<|bL h fun r1 q_r1 h=>aL (an (xs:=[.tmp 22]) (ts:=[Z (M b 0)]) [Q cB 183 b r] _ J HB (Cu _ _ q_r1) ⟨(D J),aM⟩ (fun _=>J)) J fun i1=>?_;refine(show RG _ _ _ _ [_,_] ((23,bB r1)::_)from ?_);refine aR J<|ol J<|c0 h J (fun h=>?_) (fun h=>?_)
   ·refine aB J<|s (aC (D J))<|aW 0 n8 J<|aW 1 wE J<|fb (dq zO J (ot (hs' :=[]) (pb gY qn wd) trivial J) J (D J) hI) fun i2=>?_;refine(show RG _ _ _ _ [_,_] _ from ?_);exact bQ<|au<|ah<|ah<|so h▸rb J jQ J J
   ·refine jf<|aB J<|s (bR hI)<|br<|aA<|bN<|gN ?_;refine aV (Py (tV:=fun n1 x1 x2 ob=>fR n n1 x1 x2 ob=some R) (Of:=fun x1 x2 ob=>[Q mi 26 b1 x2,Q cB 183 b ob]) (Gf:=fun x1 x2 ob=>[(0,Z (M b 0)),(2,tC 215 [Z (M b1 0)]),(30,bB n),(31,bB x1),(0,Z (M b 0))]) (fun x1 x2 ob h=>nn h) (fun n1 ih x1 x2 ob h=>?_) fq (0:Int) x r h) (bp J);refine eE<|bc<|ol J<|br<|aU<|jE h J (fun h=>?_) (fun h=>?_)
    ·refine jf<|aU<|aA<|aU<|bL h fun e q_e h=>?_
     refine sx 12 (ts:=[tC 215 [Z (M b1 0)],Z (M b 0),Z (M b 0),Z (M b 2),eg ((rI .u8)) ob.own,Z (M b 0),Z (M b 0),Z (M b 0),Z (M b 0),bB ob.place.at_,dk (rI .u8) e,tD (rI .u8) e]) mixed J J J
      ⟨iH J J,
      ⟨iH J J,
      ⟨gE 34 1 J J (aC (D J)),
      ⟨gE 35 2 J J (oZ 2 DH J J J),
      ⟨gE 36 3 J J (aE (r:=rH iw []) (x:=ob) qa J J (eI yd) (.tail _ (.head _)) (D J)),
      ⟨iH J J,
      ⟨gE 38 5 J J (aC (D J)),
      ⟨gE 39 6 J J (oZ 0 n8 J J J),
      ⟨gE 40 7 J J (oZ 0 wF J J J),
      ⟨gE 41 8 J J (aE (r:=rH iw []) (x:=ob) b9 J J (eI (er gY tZ)) (.tail _ (.head _)) (D J)),
      ⟨kV 37 4 42 9 J J J (N1 oh qL J J J q_e),
      ⟨vo 10 qL J J,
      aM⟩⟩⟩⟩⟩⟩⟩⟩⟩⟩⟩⟩ ?_
     refine bL h fun r2 q_r2 h=>aL (tq (xs:=[.tmp 44]) (ts:=[tD (rI .u8) e]) (cts:=[Z (M b1 0)]) (post:=fun i=>[Q mi 26 b1 r2,Q cB 183 b ob]) [Q mi 26 b1 x2] [Q cB 183 b ob] J abV (Y0 b1 _ _ q_r2) (D J) ⟨(D J),aM⟩ (fun _=>J)) J fun i3=>?_;refine(show RG _ _ _ _ [_,_] _ from ?_);refine br<|ax<|aR J<|s (aC (D J))<|aW 0 n8 J<|aW 0 wF J<|s (aE (r:=rH iw []) (x:=ob) b9 J J (eI (er gY tZ)) (.tail _ (.head _)) (D J))<|s (fY (D J) hI)<|s (aC (D J))<|aW 0 n8 J<|aW 0 wF J<|fb (EffOK.fr1 (dq b9 J (ot (hs' :=[]) (pb gY qn Es) trivial J) J (D J) (D J))) fun i4=>?_;refine(show RG _ _ _ _ [_,_] _ from ?_);refine aX<|aF<|aG<|ax<|s (fY (D J) hI)<|aR J<|aX<|ah ?_;exact bj (aV (ih (IntKind.i64.wrap (x1+(1:Int))) r2 ({ob with place:=({ob.place with at_:=(IntKind.i64.wrap (ob.place.at_+(1:Int)))}:me)}:af) h) (bp J))
    ·exact dG<|aq<|aq<|bW<|ah<|so h▸eV J jQ J J

def I2(b:Nat) r n{R}(h:ck r n=some R):bk aY 181 [Z (M b 0),bB n] [Q cB 183 b r] (fun i:OI=>tD mi R.1) (fun i=>[Q cB 183 b R.2]):=by
 refine bk.of Tryz.func181 J J J fun w0 S0=>bc<|bv (r:=mi) (x:=(0:Int)) pN (fun _=>J) J fun b1=>br<|aB J<|aR J<|s (vz (cts:=[Z (M b1 0)]) (caps:=[.tmp 4]) ⟨(D J),aM⟩)<|bL h fun r1 q_r1 h=>aL (EffOK.fr1 (an (xs:=[.tmp 5,.tmp 6,.tmp 7]) (ts:=[Z (M b 0),bB n,tC 215 [Z (M b1 0)]]) [Q cB 183 b r,Q mi 26 b1 (0:Int)] _ J Xn (Nm _ _ _ _ _ q_r1) ⟨(D J),(D J),(D J),aM⟩ (fun _=>J))) J fun i=>?_;refine(show RG _ _ _ _ [_,_] ((8,tT [])::_)from ?_);exact br<|bc<|s (aE (x:=r1.2) pN J J bo (.tail _ (.head _)) (D J))<|cN<|bw pN aw J<|bQ<|fJ 4 J<|so h▸dE J pN J J J jQ J J

def Ct(b:Nat) r{R}(h:cj r=some R):bk aY 136 [Z (M b 0)] [Q cB 183 b r] (fun i:OI=>tD (rI .u8) R.1) (fun i=>[Q cB 183 b R.2]):=by
 refine bk.of Tryz.func136 J J J fun w0 S0=>bc<|cO<|br<|aB J<|bL h fun r1 q_r1 h=>aL (an (xs:=[.tmp 3,.const (.int .i64 (1))]) (ts:=[Z (M b 0),bB 1]) [Q cB 183 b r] _ J Pd (I2 _ _ _ q_r1) ⟨(D J),hI,aM⟩ (fun _=>J)) J fun i=>?_;refine(show RG _ _ _ _ [_] ((4,tD mi r1.1)::_)from ?_);exact s (fH zG uZ (D J))<|bq J<|so h▸bF J jQ J J (fun _ _ h=>h)

def n9(b:Nat)(b1:Nat) r in1{R}(h:aP r in1=some R):bk aY 99 [Z (M b 0)] [Q (rH aj [(0,M b1 0)]) 146 b r,Q cB 183 b1 in1] (fun i:OI=>bB R.1) (fun i=>[Q (rH aj [(0,M b1 0)]) 146 b r,Q cB 183 b1 R.2]):=by
 refine bk.of Tryz.func99 J J J fun w0 S0=>bc<|cO<|br<|aB J<|s (aC (D J))<|aW 0 mw J<|s (cQ kx J (.head _) (D J))<|bL h fun r1 q_r1 h=>aL (EffOK.fr1 (an (xs:=[.tmp 6]) (ts:=[Z (M b1 0)]) [Q cB 183 b1 in1] _ J Hz (Ct _ _ q_r1) ⟨(D J),aM⟩ (fun _=>J))) J fun i=>?_;refine(show RG _ _ _ _ [_,_] ((7,tD (rI .u8) r1.1)::_)from ?_);exact s (fH uZ lz (D J))<|bq J<|ah<|so h▸bF J jQ J J (fun _ _ h=>h)

def An(b:Nat) r{R}(h:fS r=some R):bk aY 141 [Z (M b 0)] [Q cB 183 b r] (fun i:OI=>bB R) (fun i=>[Q cB 183 b r]):=by
 refine bk.of Tryz.func141 J J J fun w0 S0=>bc<|cO<|br<|bm<|aR J<|s (DE Tryz.underlying143 (D J))<|c0 h J (fun h=>?_) (fun h=>?_)
 ·exact bc<|gZ<|au<|so h▸bF J jQ J J (fun _ _ h=>h)
 ·exact jf<|aB J<|s (aC (D J))<|aW 0 n8 J<|aW 1 wE J<|s (aE (r:=rH iw []) (x:=r) zO J J (eI (er gY Ad)) (.head _) (D J))<|bq J<|so h▸bF J jQ J J (fun _ _ h=>h)

def wI(b:Nat)(b1:Nat) r in1{R}(h:dd r in1=some R):bk aY 101 [Z (M b 0)] [Q (rH aj [(0,M b1 0)]) 146 b r,Q cB 183 b1 in1] (fun i:OI=>gR R) (fun i=>[Q (rH aj [(0,M b1 0)]) 146 b r,Q cB 183 b1 in1]):=by
 refine bk.of Tryz.func101 J J J fun w0 S0=>bc<|bz<|br<|aB J<|s (aC (D J))<|aW 2 uO J<|s (aE (r:=rH aj [(0,M b1 0)]) (x:=r) Aw J J (eI uK) (.head _) (D J))<|s (gO (D J))<|aR J ?_;refine ud (!r.bad) (fun K=>?_) (fun K=>?_)
 ·have h:=ct h K;refine gG J J J K<|aR J<|gG J J J K<|s (aC (D J))<|gG J J J K<|aW 0 mw J<|gG J J J K<|s (cQ kx J (.head _) (D J))<|gG J J J K<|bL h fun r1 q_r1 h=>aL (EffOK.fr1 (an (xs:=[.tmp 12]) (ts:=[Z (M b1 0)]) [Q cB 183 b1 in1] _ J Fv (An _ _ q_r1) ⟨(D J),aM⟩ (fun _=>J))) J fun i=>?_;refine(show RG _ _ _ _ [_,_] ((13,bB r1)::_)from ?_);exact gG J J J K<|bU J<|s (qu (D J) K (D J))<|bq J<|ah<|so h▸bF J jQ J J (fun _ _ h=>h)
 ·have h:=cf h K;exact dP J J J K J<|dP J J J K J<|dP J J J K J<|dP J J J K J<|dP J J J K J<|dP J J J K J<|s (pi (D J) K Xb)<|bq J<|ah<|ah<|so h▸bF J jQ J J (fun _ _ h=>h)

def Nr(b:Nat)(b1:Nat) r in1 n{R}(h:lR r in1 n=some R):bk aY 182 [Z (M b 0),bB n,Ej 99 [Z (M b 0)]] [Q (rH aj [(0,M b1 0)]) 146 b r,Q cB 183 b1 in1] (fun i:OI=>pF R.1) (fun i=>[Q (rH aj [(0,M b1 0)]) 146 b r,Q cB 183 b1 R.2]):=by
 refine bk.of Tryz.func182 J J J fun w0 S0=>bc<|jm bP<|br<|bc<|cU false bP 3<|s (cg xj)<|br<|bm<|aR J<|s (bR hI)<|br ?_;refine HO (tV:=fun out l c ob=>oJ out ob=some R) (Of:=fun out l c ob=>[dr bP 3 l c out,Q (rH aj [(0,M b1 0)]) 146 b r,Q cB 183 b1 ob]) (Gf:=fun out l c ob=>[(7,sa l c out)]) (fun out l c ob h=>?_) (fun hg=>?_)
 ·skip
  exact aG<|aB J<|bq J<|du<|bA 7 J<|bA 20 J<|bA 6 J<|fd 6 J<|aZ<|ah<|ah<|so h▸bF J jQ J J (fun _ _ h=>h)
 ·skip
  refine bN ?_;refine aV (Js (tV:=fun n1 out1 l1 c1 x ob1=>iA r n n1 out1 x ob1=some R) (Of:=fun out1 l1 c1 x ob1=>[dr bP 3 l1 c1 out1,Q (rH aj [(0,M b1 0)]) 146 b r,Q cB 183 b1 ob1]) (Gf:=fun out1 l1 c1 x ob1=>[(0,Z (M b 0)),(2,Ej 99 [Z (M b 0)]),(7,sa l1 c1 out1),(8,bB n),(9,bB x)]) (fun out1 l1 c1 x ob1 h=>nn h) (fun n1 ih out1 l1 c1 x ob1 h=>?_) fq rm none 0 (0:Int) in1 h) (bp J);refine eE<|bc<|ol J<|br<|aU<|jE h J (fun h=>?_) (fun h=>?_)
  ·refine jf<|aU<|aA<|bm<|aR J<|bL h fun r1 q_r1 h=>aL (EffOK.fr2 (EffOK.fr2 (an (xs:=[.tmp 11]) (ts:=[Z (M b 0)]) [Q (rH aj [(0,M b1 0)]) 146 b r,Q cB 183 b1 ob1] _ J BG (wI _ _ _ _ q_r1) ⟨(D J),aM⟩ (fun _=>J)))) J fun i=>?_;refine(show RG _ _ _ _ [_,_,_] ((12,gR r1)::_)from ?_);refine s (gO (D J))<|c0 h J (fun h=>?_) (fun h=>?_)
   ·refine dG<|aq<|bO J<|aq<|aq<|bW<|ah<|ah<|aH ?_;exact bZ (hg out1 l1 c1 ob1 h) (bp J)
   ·refine jf<|ax<|aR J<|aR J<|bL h fun r2 q_r2 h=>aL (EffOK.fr1 (EffOK.fr1 (qk (xs:=[]) (fts:=[Z (M b 0)]) (ts:=[]) [Q (rH aj [(0,M b1 0)]) 146 b r,Q cB 183 b1 ob1] _ J s8 (n9 _ _ _ _ q_r2) (D J) trivial (fun _=>J)))) J fun i1=>?_;refine(show RG _ _ _ _ [_,_,_] ((16,bB r2.1)::_)from ?_);refine s (ba (r:=bP) (ys:=[r2.1]) (xs:=[.tmp 16]) fD b9 J J J J J ⟨(D J),aM⟩)<|cI<|bL h fun out2 q_out2 h=>cY b9 J J J J fD J J (D J) (D J) q_out2 fun l2 c2=>ia J<|aX<|aF<|aG<|ax<|s (fY (D J) hI)<|aR J<|aX ?_;exact bj (aV (ih out2 l2 c2 (IntKind.i64.wrap (x+(1:Int))) r2.2 h) (bp J))
  ·refine dG<|aq<|aq<|bW ?_;exact bZ (hg out1 l1 c1 ob1 h) (bp J)

def I4(b:Nat)(b1:Nat) r in1{R}(h:iz r in1=some R):bk aY 137 [Z (M b 0)] [Q (rH aj [(0,M b1 0)]) 146 b r,Q cB 183 b1 in1] (fun i:OI=>pF R.1) (fun i=>[Q (rH aj [(0,M b1 0)]) 146 b r,Q cB 183 b1 R.2]):=by
 refine bk.of Tryz.func137 J J J fun w0 S0=>bc<|jm bP<|br<|aB J<|aR J<|bL h fun r1 q_r1 h=>aL (EffOK.fr1 (EffOK.fr1 (an (xs:=[.tmp 4]) (ts:=[Z (M b 0)]) [Q (rH aj [(0,M b1 0)]) 146 b r,Q cB 183 b1 in1] _ J s8 (n9 _ _ _ _ q_r1) ⟨(D J),aM⟩ (fun _=>J)))) J fun i=>?_;refine(show RG _ _ _ _ [_,_] ((5,bB r1.1)::_)from ?_);refine aR J<|s (rx (fts:=[Z (M b 0)]) (fst:=[.tmp 6]) ⟨(D J),aM⟩)<|bL h fun r2 q_r2 h=>aL (EffOK.fr1 (EffOK.fr1 (an (xs:=[.tmp 3,.tmp 5,.tmp 7]) (ts:=[Z (M b 0),bB r1.1,Ej 99 [Z (M b 0)]]) [Q (rH aj [(0,M b1 0)]) 146 b r,Q cB 183 b1 r1.2] _ J acd (Nr _ _ _ _ _ q_r2) ⟨(D J),(D J),(D J),aM⟩ (fun _=>J)))) J fun i1=>?_;refine(show RG _ _ _ _ [_,_] ((8,pF r2.1)::_)from ?_);exact bq J<|ah<|ah<|so h▸bF J jQ J J (fun _ _ h=>h)

def I6(b:Nat)(b1:Nat) r in1{R}(h:fj r in1=some R):bk aY 106 [Z (M b 0)] [Q (rH aj [(0,M b1 0)]) 146 b r,Q cB 183 b1 in1] (fun i:OI=>gR R.1) (fun i=>[Q (rH aj [(0,M b1 0)]) 146 b R.2.1,Q cB 183 b1 R.2.2]):=by
 refine bk.of Tryz.func106 J J J fun w0 S0=>bc<|bz<|br<|aB J<|s (aC (D J))<|aW 0 mw J<|s (cQ kx J (.head _) (D J))<|bL h fun r1 q_r1 h=>aL (EffOK.fr1 (an (xs:=[.tmp 7]) (ts:=[Z (M b1 0)]) [Q cB 183 b1 in1] _ J Hz (Ct _ _ q_r1) ⟨(D J),aM⟩ (fun _=>J))) J fun i=>?_;refine(show RG _ _ _ _ [_,_] ((8,tD (rI .u8) r1.1)::_)from ?_);refine a8 J<|aB J<|aR J<|s (aC (D J))<|aW 2 uO J<|s (aE (r:=rH aj [(0,M b1 0)]) (x:=r) Aw J J (eI uK) (.tail _ (.head _)) (D J))<|aR J<|bD J (dy J)<|bD J (fun K=>gm (bM J K) hI)<|j5 J<|s (aC (D J))<|aW 2 uO J<|fb (EffOK.fr1 (dq Aw J (ot (hs' :=[(0,M b1 0)]) uy ⟨.inr ⟨J,J⟩,aM⟩ J) J (D J) (D J))) fun i1=>?_;refine(show RG _ _ _ _ [_,_] _ from ?_);exact br<|aB J<|bU J<|bq J<|ah<|ah<|so h▸bF J jQ J J (fun _ _ h=>h)

def Nh(b:Nat) r{R}(h:kX r=some R):bk aY 144 [Z (M b 0)] [Q cB 183 b r] (fun i:OI=>tD od R.1) (fun i=>[Q cB 183 b R.2]):=by
 refine bk.of Tryz.func144 J J J fun w0 S0=>bc<|cO<|br<|aB J<|bL h fun r1 q_r1 h=>aL (an (xs:=[.tmp 3,.const (.int .i64 (4))]) (ts:=[Z (M b 0),bB 4]) [Q cB 183 b r] _ J Pd (I2 _ _ _ q_r1) ⟨(D J),hI,aM⟩ (fun _=>J)) J fun i=>?_;refine(show RG _ _ _ _ [_] ((4,tD mi r1.1)::_)from ?_);exact s (fH zG D7 (D J))<|bq J<|so h▸bF J jQ J J (fun _ _ h=>h)

def Tu(b:Nat) r{R}(h:iy r=some R):bk aY 216 [Z (M b 0)] [Q cB 183 b r] (fun i:OI=>tD HU R.1) (fun i=>[Q cB 183 b R.2]):=by
 refine bk.of Tryz.func216 J J J fun w0 S0=>bc<|cO<|br<|aB J<|bL h fun r1 q_r1 h=>aL (an (xs:=[.tmp 3,.const (.int .i64 (2))]) (ts:=[Z (M b 0),bB 2]) [Q cB 183 b r] _ J Pd (I2 _ _ _ q_r1) ⟨(D J),hI,aM⟩ (fun _=>J)) J fun i=>?_;refine(show RG _ _ _ _ [_] ((4,tD mi r1.1)::_)from ?_);exact s (fH zG Gx (D J))<|bq J<|so h▸bF J jQ J J (fun _ _ h=>h)

def Tt(b:Nat)(l:Option Nat)(c:Nat) t{R}(h:nr t=some R):bk aY 221 [Z (M b 0)] [Q rV 186 b (av l c t.length),dr bP 3 l c t] (fun i:OI=>bB R.1) (fun i=>[Q rV 186 b (av (i.h 0).1 (i.h 0).2 R.2.length),dr bP 3 (i.h 0).1 (i.h 0).2 R.2]):=by
 refine bk.of Tryz.func221 J J J fun w0 S0=>bc<|cO<|br<|aB J<|s (aC (D J))<|s (pR GG (.head _) (D J))<|a8 J<|bm<|aR J<|s (jg D6 (.tail _ (.head _)) (D J))<|bU J<|c0 h J (fun h=>?_) (fun h=>?_)
 ·exact bc<|gZ<|au<|ah<|ah<|so h▸bF J (rf [(l,c)]) J J (fun _ _ h=>h)
 ·refine jf<|aB J<|aR J<|s (jg D6 (.tail _ (.head _)) (D J))<|s (iF (D J) hI)<|bL h fun e q_e h=>s (gA D6 b9 (.tail _ (.head _)) (D J) (D J) q_e)<|s (mN (r:=bP) (i:=(IntKind.i64.wrap ((t.length:Int)-(1:Int)))) (foff:=0) b9 J J bo J (.tail _ (.head _)) q_e (D J))<|a8 J<|aB J<|aR J<|aR J<|s (jg D6 (.tail _ (.head _)) (D J))<|s (iF (D J) hI)<|bL h fun y q_y h=>s (oD D6 b9 J (.tail _ (.head _)) (D J) (D J) q_y)<|s (aC (D J)) ?_;exact cN<|FC q_y<|cN<|ej GG J aw J (D J) (KX (D J))<|br<|aB J<|bq J<|ah<|ah<|so h▸bF J (rf [(l,c)]) J J (fun _ _ h=>h)

def ua(b:Nat)(b1:Nat)(b2:Nat)(l:Option Nat)(c:Nat) r in1 t n at1{R}(h:cL r in1 t n at1=some R):bk aY 189 [Z (M b 0),Z (M b2 0),bB n,bB at1] [Q (rH aj [(0,M b1 0)]) 146 b r,Q cB 183 b1 in1,Q rV 186 b2 (av l c t.length),dr bP 3 l c t] (fun i:OI=>tT [bB R.1,bB R.2.1]) (fun i=>[Q (rH aj [(0,M b1 0)]) 146 b R.2.2.1,Q cB 183 b1 in1,Q rV 186 b2 (av (i.h 0).1 (i.h 0).2 R.2.2.2.length),dr bP 3 (i.h 0).1 (i.h 0).2 R.2.2.2]):=by
 refine bk.of Tryz.func189 J J J fun w0 S0=>bc<|cO<|cO<|br<|bc<|cO<|cO<|br ?_;refine HJ (tV:=fun b3 x l1 c1 ob=>lv n at1 b3 x ob=some R) (Of:=fun b3 x l1 c1 ob=>[Q rV 186 b2 (av l1 c1 x.length),dr bP 3 l1 c1 x,Q (rH aj [(0,M b1 0)]) 146 b ob,Q cB 183 b1 in1]) (Gf:=fun b3 x l1 c1 ob=>[(0,Z (M b 0)),(1,Z (M b2 0)),(2,bB n),(3,bB at1),(10,bB (-1)),(11,bB b3)]) (fun b3 x l1 c1 ob h=>?_) (fun hg=>?_)
 ·skip
  refine HJ (tV:=fun a1 x1 l2 c2 ob1=>jo at1 b3 a1 x1 ob1=some R) (Of:=fun a1 x1 l2 c2 ob1=>[Q rV 186 b2 (av l2 c2 x1.length),dr bP 3 l2 c2 x1,Q (rH aj [(0,M b1 0)]) 146 b ob1,Q cB 183 b1 in1]) (Gf:=fun a1 x1 l2 c2 ob1=>[(1,Z (M b2 0)),(3,bB at1),(10,bB a1),(11,bB b3)]) (fun a1 x1 l2 c2 ob1 h=>?_) (fun K1=>?_)
  ·skip
   refine aB J<|aR J<|s (aC (D J))<|s (pR GG (.head _) (D J))<|aR J<|s (ba (r:=bP) (ys:=[at1]) (xs:=[.tmp 46]) D6 b9 J J J J J ⟨(D J),aM⟩)<|cN<|bL h fun l3 q_l3 h=>cY b9 J J J J D6 J J (D J) (D J) q_l3 fun l4 c3=>s (aC (D J))<|cN<|ej GG J aw J (D J) (KX (D J))<|br<|aB J<|aR J<|ia J<|a8 J ?_;exact rN<|ah<|ah<|aS<|aS<|so h▸ra (ts:=[bB a1,bB b3]) (rvs:=[.tmp 8,.tmp 9]) J J ⟨gT J,gT J,aM⟩ (rf [(l4,c3)]) J J
  ·skip
   refine aB J<|s (iN (D J) hI)<|c0 h J (fun h=>?_) (fun h=>?_)
   ·refine aB J<|bL h fun r1 q_r1 h=>aL (EffOK.fr1 (EffOK.fr1 (an (xs:=[.tmp 29]) (ts:=[Z (M b2 0)]) [Q rV 186 b2 (av l1 c1 x.length),dr bP 3 l1 c1 x] _ J Xl (Tt _ _ _ _ q_r1) ⟨(D J),aM⟩ (fun _=>J)))) J fun i=>?_;refine(show RG _ _ _ _ [_,_,_,_] ((30,bB r1.1)::_)from ?_);refine a8 J<|ax<|aR J<|aR J<|s (aC (D J))<|aW 2 uO J<|s (aE (r:=rH aj [(0,M b1 0)]) (x:=ob) Aw J J (eI uK) (.tail _ (.tail _ (.head _))) (D J))<|aR J<|bD J (dy J)<|bD J (fun K=>jd (bM J K) hI)<|j5 J<|s (aC (D J))<|aW 2 uO J<|fb (EffOK.fr2 (dq Aw J (ot (hs' :=[(0,M b1 0)]) uy ⟨.inr ⟨J,J⟩,aM⟩ J) J (D J) (D J))) fun i1=>?_;refine(show RG _ _ _ _ [_,_,_,_] _ from ?_);refine aX<|aS<|ah<|aS<|aS ?_;exact bZ (K1 r1.1 r1.2 (i.h 0).1 (i.h 0).2 ({ob with bad:=(ob.bad||(decide (r1.1<(0:Int))))}:aK) h) (bp J)
   ·refine bE ?_;exact bZ (K1 Di x l1 c1 ob h) (bp J)
 ·skip
  refine aB J<|bU J<|c0 h J (fun h=>?_) (fun h=>?_)
  ·refine aB J<|bL h fun r2 q_r2 h=>aL (EffOK.fr3 (EffOK.fr3 (an (xs:=[.tmp 14]) (ts:=[Z (M b2 0)]) [Q rV 186 b2 (av l c t.length),dr bP 3 l c t] _ J Xl (Tt _ _ _ _ q_r2) ⟨(D J),aM⟩ (fun _=>J)))) J fun i2=>?_;refine(show RG _ _ _ _ [_,_,_,_] ((15,bB r2.1)::_)from ?_);refine a8 J<|ax<|aR J<|aR J<|s (aC (D J))<|aW 2 uO J<|s (aE (r:=rH aj [(0,M b1 0)]) (x:=r) Aw J J (eI uK) (.tail _ (.tail _ (.head _))) (D J))<|aR J<|bD J (dy J)<|bD J (fun K=>jd (bM J K) hI)<|j5 J<|s (aC (D J))<|aW 2 uO J<|fb (EffOK.fr2 (dq Aw J (ot (hs' :=[(0,M b1 0)]) uy ⟨.inr ⟨J,J⟩,aM⟩ J) J (D J) (D J))) fun i3=>?_;refine(show RG _ _ _ _ [_,_,_,_] _ from ?_);refine aX<|aS<|ah<|aS<|aS ?_;exact bZ (hg r2.1 r2.2 (i2.h 0).1 (i2.h 0).2 ({r with bad:=(r.bad||(decide (r2.1<(0:Int))))}:aK) h) (bp J)
  ·refine bE<|ah<|ah<|aS<|aS ?_;exact bZ (hg Di t l c r h) (bp J)

def TE(b:Nat)(b1:Nat) r in1{R}(h:iQ r in1=some R):bk aY 147 [Z (M b 0)] [Q (rH aj [(0,M b1 0)]) 146 b r,Q cB 183 b1 in1] (fun i:OI=>eg ((rI .u8)) R) (fun i=>[Q (rH aj [(0,M b1 0)]) 146 b r,Q cB 183 b1 in1]):=by
 refine bk.of Tryz.func147 J J J fun w0 S0=>bc<|jm ((rI .u8))<|br<|aU<|bL h fun r1 q_r1 h=>?_
 refine iX 15 [tc (Z (M b 0)),tc (Z (M b 0)),tc (Z (M b 1)),tc (eg ((rI .u8)) r.all),tc (Z (M b 0)),tc (Z (M b 0)),tc (Z (M b 1)),tc (eg ((rI .u8)) r.all),tc (nL r.all),tc (Z (M b 0)),tc (Z (M b 0)),tc (Z (M b 0)),tc (Z (M b1 0)),tc (bB r1),tc (bB (IntKind.i64.wrap ((r.all.length:Int)-r1)))] [false,false,false,false,false,false,false,false,false,false,false,false,false,true,false] [fun _=>[Q (rH aj [(0,M b1 0)]) 146 b r,Q cB 183 b1 in1],fun sg=>[Q cB 183 b1 in1,Q (rH aj [(0,M b1 0)]) 146 b r]] J mixed J J J J J
  ⟨⟨[⟨0,fun _=>Z (M b 0),none⟩],_,0,1,J,⟨(fun _=>J),aM⟩,J,J,J,J,J,fun _ sg _ _=>ac J (mn J)⟩,
  ⟨⟨[⟨3,fun _=>Z (M b 0),some 0⟩],_,0,1,J,⟨(fun _=>J),aM⟩,J,J,J,J,J,fun _ sg _ _=>ac J (aC (D J))⟩,
  ⟨⟨[⟨4,fun _=>Z (M b 0),some 1⟩],_,0,1,J,⟨(fun _=>J),aM⟩,J,J,J,J,J,fun _ sg _ _=>ac J (oZ 1 OW J J J)⟩,
  ⟨⟨[⟨5,fun _=>Z (M b 1),some 2⟩],_,0,1,J,⟨(fun _=>J),aM⟩,J,J,J,J,J,Dj (fun sg=>ac J (aE (r:=rH aj [(0,M b1 0)]) (x:=r) qa J J (eI uL) (.head _) (D J))) (nO (fun sg=>ac J (aE (r:=rH aj [(0,M b1 0)]) (x:=r) qa J J (eI uL) (.tail _ (.head _)) (D J))))⟩,
  ⟨⟨[⟨0,fun _=>Z (M b 0),none⟩],_,0,1,J,⟨(fun _=>J),aM⟩,J,J,J,J,J,fun _ sg _ _=>ac J (mn J)⟩,
  ⟨⟨[⟨7,fun _=>Z (M b 0),some 4⟩],_,0,1,J,⟨(fun _=>J),aM⟩,J,J,J,J,J,fun _ sg _ _=>ac J (aC (D J))⟩,
  ⟨⟨[⟨8,fun _=>Z (M b 0),some 5⟩],_,0,1,J,⟨(fun _=>J),aM⟩,J,J,J,J,J,fun _ sg _ _=>ac J (oZ 1 OW J J J)⟩,
  ⟨⟨[⟨9,fun _=>Z (M b 1),some 6⟩],_,0,1,J,⟨(fun _=>J),aM⟩,J,J,J,J,J,Dj (fun sg=>ac J (aE (r:=rH aj [(0,M b1 0)]) (x:=r) qa J J (eI uL) (.head _) (D J))) (nO (fun sg=>ac J (aE (r:=rH aj [(0,M b1 0)]) (x:=r) qa J J (eI uL) (.tail _ (.head _)) (D J))))⟩,
  ⟨⟨[⟨10,fun _=>tD JI r.all,some 7⟩],_,0,1,J,⟨(fun _=>J),aM⟩,J,J,J,J,J,fun _ sg _ _=>ac J (XD oh J)⟩,
  ⟨⟨[⟨0,fun _=>Z (M b 0),none⟩],_,0,0,J,⟨(fun _=>J),aM⟩,J,J,J,J,J,fun _ sg _ _=>ac J (mn J)⟩,
  ⟨⟨[⟨12,fun _=>Z (M b 0),some 9⟩],_,0,0,J,⟨(fun _=>J),aM⟩,J,J,J,J,J,fun _ sg _ _=>ac J (aC (D J))⟩,
  ⟨⟨[⟨13,fun _=>Z (M b 0),some 10⟩],_,0,0,J,⟨(fun _=>J),aM⟩,J,J,J,J,J,fun _ sg _ _=>ac J (oZ 0 mw J J J)⟩,
  ⟨⟨[⟨14,fun _=>Z (M b 0),some 11⟩],_,0,0,J,⟨(fun _=>J),aM⟩,J,J,J,J,J,nO (fun sg=>ac J (cQ kx J (.head _) (D J)))⟩,
  ⟨⟨[⟨15,fun _=>Z (M b1 0),some 12⟩],_,J,⟨(fun _=>J),aM⟩,J,J,J,fun sg=>bY J (EffOK.fr1 (an (xs:=[.tmp 15]) (ts:=[Z (M b1 0)]) [Q cB 183 b1 in1] _ J HB (Cu _ _ q_r1) ⟨(D J),aM⟩ (fun _=>J)))⟩,
  ⟨⟨[⟨11,fun _=>tD bP (r.all.length:Int),some 8⟩,⟨16,fun _=>tD bP r1,some 13⟩],_,1,1,J,⟨(fun _=>J),(fun _=>J),aM⟩,J,J,J,J,J,fun _ sg _ _=>ac J (iF (D J) (D J))⟩,
  aM⟩⟩⟩⟩⟩⟩⟩⟩⟩⟩⟩⟩⟩⟩⟩ (fun sg=>?_)
 refine(show RG _ _ _ _ [_,_] _ from ?_);exact bL h fun y q_y h=>s (MN oh qL J (D J) (D J) q_y)<|bq J<|ah<|so h▸bF J jQ J J (fun _ _ h=>h)

def YW(b:Nat)(l:Option Nat)(c1:Nat) out c{R}(h:qe out c=some R):bk aY 225 [tD (rI .u8) c,Z (M b 0)] [Q rV 37 b (av l c1 out.length),dr (rI .u8) 5 l c1 out] (fun i:OI=>tT []) (fun i=>[Q rV 37 b (av (i.h 0).1 (i.h 0).2 R.length),dr (rI .u8) 5 (i.h 0).1 (i.h 0).2 R]):=by
 exact bk.of Tryz.func225 J J J fun w0 S0=>ax<|s (pR qa (.head _) (D J))<|aR J<|s (ba (r:=(rI .u8)) (ys:=[c]) (xs:=[.tmp 4]) oh qL J J J J J ⟨(D J),aM⟩)<|cN<|bL h fun l1 q_l1 h=>cY qL J J J J oh J J (D J) (D J) q_l1 fun l2 c2=>cN<|ej qa J aw J (D J) (KX (D J))<|aX<|ah<|ah<|so h▸eV J (oi l2 c2) J J

end Go.Proofs.YtdohlidddcgfjaaGreat

