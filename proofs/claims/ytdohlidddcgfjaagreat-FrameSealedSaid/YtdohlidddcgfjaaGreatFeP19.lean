/- bO of this claim: P19. -/
import Derived.Test.YtdohlidddcgfjaaGreatFeT
import Derived.Test.YtdohlidddcgfjaaGreatFeP18
set_option linter.all false
namespace Go.Proofs.YtdohlidddcgfjaaGreat
open Go
set_option maxRecDepth 100000

def Tw b{R}(h:sk b=some R):bf a8 97 [eg ((rI .u8)) b] [] (fun i:OI=>K (M (i.h 0).2 0)) (fun i=>[Z cw 183 (i.h 0).2 R]):=by
 refine bf.of Tryz.func97 J J J fun w0 S0=>be<|Q (b9 (hV (v:= .pointer none)))<|bt<|ay J<|cM hM J<|bK h fun mk q_mk h=>aK (QB (r:=(rI .u8)) (x:=(0:Int)) rZ J J J hM (fun _=>J) (D J) (D J) q_mk) J fun i=>Q (ec (r:=rH o8 []) (y:=s3 (⟨Rg,mk⟩:ae) (au (i.h 0).1 (i.h 0).2 mk.length)) Wj WQ (zH Hm trivial) (⟨_,_,_,_,_,J,EU D7 J J,J,(hW (D J) Ih),J⟩))<|tp (D J) J fun b1=>aX J<|ay J<|Q (aA (D J))<|aT 2 BR J<|Q (mP oS (ee Er) (.head _) J (D J))<|aQ J ?_;refine bK h fun cp q_cp h=>aK (EffOK.fr1 (N1 J hM (F1 rZ) (D J) (D J) (so q_cp))) J fun i1=>?_;refine(show RG _ _ _ _ [_,_] ((14,bw ((min b.length mk.length:Nat):Int))::_)from ?_);exact DD (O' :=[de (rI .u8) 5 (i.h 0).1 (i.h 0).2 cp,Z (rH o8 []) 183 b1 (s3 (⟨Rg,mk⟩:ae) (au (i.h 0).1 (i.h 0).2 cp.length))]) (by rw [QF (so q_cp)])<|bt<|ay J<|bk J<|df<|af<|tR (r' :=rH gV []) (x' :=({(⟨Rg,mk⟩:ae)with own:=cp}:ae)) (fun _ _ _ ho h=>Q7 h (fun h=>AJ (qK ho (.head _)) h))<|af<|aY<|so h▸bA J (p9 [(none,b1)]) J J (fun _ _ h=>h)

def Xf b{R}(h:uS b=some R):bf a8 43 [eg ((rI .u8)) b] [] (fun i:OI=>K (M (i.h 0).2 0)) (fun i=>[Z (rH aj [(0,M (i.h 1).2 0)]) 146 (i.h 0).2 R.1,Z cw 183 (i.h 1).2 R.2]):=by
 refine bf.of Tryz.func43 J J J fun w0 S0=>be<|Q (b9 (hV (v:= .pointer none)))<|bt<|ay J<|bK h fun r q_r h=>aK (an (xs:=[.tmp 3]) (ts:=[eg ((rI .u8)) b]) [] _ J Xo (Tw _ q_r) ⟨(D J),d⟩ (fun _=>J)) J fun i=>?_;refine(show RG _ _ _ _ [_] ((4,K (M (i.h 0).2 0))::_)from ?_);exact aQ J<|Q (ec (r:=rH qT []) (y:=wl (⟨Ra,b,false⟩:aJ) (M (i.h 0).2 0)) Wl WT (zH Hl trivial) (⟨_,_,_,_,_,J,EU D6 J J,J,(hW (D J) J),⟨_,_,_,_,_,J,EU D5 J J,J,(D J),J⟩⟩))<|tp (D J) J fun b1=>QU (r' :=rH aj [(0,M (i.h 0).2 0)]) (x' :=(⟨Ra,b,false⟩:aJ)) (fun _ _ _ _ h=>Xm h.1)<|bk J<|af<|af<|so h▸bA J (p9 [(none,b1),(none,(i.h 0).2)]) J J (fun _ _ h=>h)

def Vk(b:Nat) x c{R}(h:qb x c=some R):bf a8 215 [tD (rI .u8) c,K (M b 0)] [Z lx 26 b x] (fun i:OI=>tT []) (fun i=>[Z lx 26 b R]):=by
 exact bf.of Tryz.func215 J J J fun w0 S0=>av<|Q (aD oE J J bj (.head _) (D J))<|Q (UA (D J) hI (by decide))<|aQ J<|Q (eW tw yQ (D J))<|Q (fq (D J) (D J))<|bu oE ax J<|aU<|so h▸ep J (oi none 0) J J

def AG(b:Nat) r{R}(h:fC r=some R):bf a8 102 [K (M b 0)] [Z cw 183 b r] (fun i:OI=>bw R) (fun i=>[Z cw 183 b r]):=by
 refine bf.of Tryz.func102 J J J fun w0 S0=>be<|cJ<|bt<|bp<|aQ J<|Q (BO Tryz.underlying143 (D J))<|di h J (fun h=>?_) (fun h=>?_)
 ·exact be<|gm<|aF<|so h▸bA J jj J J (fun _ _ h=>h)
 ·refine jv<|aS ?_
  refine kE (ts:=[_,_,_,_,_,_,_,_,_,_,_,_]) mixed J J
   ⟨hT J J,
   ⟨fW 5 0 J J (aA (D J)),
   ⟨fW 6 1 J J (nR 2 BR J J J),
   ⟨fW 7 2 J J (aD (r:=rH gV []) (x:=r) oS J J (ee wr) (.head _) (D J)),
   ⟨fW 8 3 J J (T0 hM J),
   ⟨hT J J,
   ⟨fW 10 5 J J (aA (D J)),
   ⟨fW 11 6 J J (nR 0 nc J J J),
   ⟨fW 12 7 J J (nR 0 u6 J J J),
   ⟨fW 13 8 J J (aD (r:=rH gV []) (x:=r) bW J J (ee (d5 gk sq)) (.head _) (D J)),
   ⟨j9 9 4 14 9 J J J (ic (D J) (D J)),
   ⟨fW 15 10 J J (Js J),
   d⟩⟩⟩⟩⟩⟩⟩⟩⟩⟩⟩⟩ ?_
  exact aG<|qD<|so h▸bA J jj J J (fun _ _ h=>h)

def KR(b:Nat)(b1:Nat) r n x{R}(h:m1 r n x=some R):bf a8 214 [K (M b 0),bw n,tC 215 [K (M b1 0)]] [Z cw 183 b r,Z lx 26 b1 x] (fun i:OI=>tT []) (fun i=>[Z cw 183 b R.1,Z lx 26 b1 R.2]):=by
 refine bf.of Tryz.func214 J J J fun w0 S0=>bp<|aQ J<|Q (BO Tryz.underlying143 (D J))<|aQ J<|fZ J J J J<|aQ J<|fZ J J J J<|Q (aA (D J))<|fZ J J J J<|aT 0 nc J<|fZ J J J J<|aT 1 u5 J<|fZ J J J J<|Q (aD (r:=rH gV []) (x:=r) xZ J J (ee (d5 gk yv)) (.head _) (D J))<|fZ J J J J<|oj J<|Q (nZ (D J) J (D J))<|di h J (fun h=>?_) (fun h=>?_)
 ·exact qD<|aF<|af<|af<|so h▸p6 J jj J J
 ·refine jv<|bp<|aQ J<|Q (iC (D J) hI)<|di h J (fun h=>?_) (fun h=>?_)
  ·refine ay J<|Q (aA (D J))<|aT 0 nc J<|aT 1 u5 J<|eE (dc xZ J (nq (hs' :=[]) (nV gk o7 uI) trivial J) J (D J) hI) fun i=>?_;refine(show RG _ _ _ _ [_,_] _ from ?_);exact co<|aF<|af<|af<|so h▸p6 J jj J J
  ·refine jv<|bp<|aQ J<|bK h fun r1 q_r1 h=>aK (an (xs:=[.tmp 22]) (ts:=[K (M b 0)]) [Z cw 183 b r] _ J Fz (AG _ _ q_r1) ⟨(D J),d⟩ (fun _=>J)) J fun i1=>?_;refine(show RG _ _ _ _ [_,_] ((23,bw r1)::_)from ?_);refine aQ J<|nk J<|di h J (fun h=>?_) (fun h=>?_)
   ·refine ay J<|Q (aA (D J))<|aT 0 nc J<|aT 1 u5 J<|eE (dc xZ J (nq (hs' :=[]) (nV gk o7 uI) trivial J) J (D J) hI) fun i2=>?_;refine(show RG _ _ _ _ [_,_] _ from ?_);exact co<|aF<|af<|af<|so h▸p6 J jj J J
   ·refine jv<|ay J<|Q (ca hI)<|bt<|aC<|b7<|gc ?_;refine aZ (MN (bx:=fun n1 x1 x2 ob=>ff n n1 x1 x2 ob=some R) (Of:=fun x1 x2 ob=>[Z lx 26 b1 x2,Z cw 183 b ob]) (Gf:=fun x1 x2 ob=>[(0,K (M b 0)),(2,tC 215 [K (M b1 0)]),(30,bw n),(31,bw x1),(0,K (M b 0))]) (fun x1 x2 ob h=>nn h) (fun n1 ih x1 x2 ob h=>?_) eQ (0:Int) x r h) (bq J);refine ea<|be<|nk J<|bt<|aS<|iY h J (fun h=>?_) (fun h=>?_)
    ·refine jv<|aS<|aC<|aS<|bK h fun e q_e h=>?_
     refine q7 12 (ts:=[tC 215 [K (M b1 0)],K (M b 0),K (M b 0),K (M b 2),eg ((rI .u8)) ob.own,K (M b 0),K (M b 0),K (M b 0),K (M b 0),bw ob.place.at_,c8 (rI .u8) e,tD (rI .u8) e]) mixed J J J
      ⟨hT J J,
      ⟨hT J J,
      ⟨fW 34 1 J J (aA (D J)),
      ⟨fW 35 2 J J (nR 2 BR J J J),
      ⟨fW 36 3 J J (aD (r:=rH gV []) (x:=ob) oS J J (ee wr) (.tail _ (.head _)) (D J)),
      ⟨hT J J,
      ⟨fW 38 5 J J (aA (D J)),
      ⟨fW 39 6 J J (nR 0 nc J J J),
      ⟨fW 40 7 J J (nR 0 u6 J J J),
      ⟨fW 41 8 J J (aD (r:=rH gV []) (x:=ob) bW J J (ee (d5 gk sq)) (.tail _ (.head _)) (D J)),
      ⟨j9 37 4 42 9 J J J (Ly hM rZ J J J q_e),
      ⟨tY 10 rZ J J,
      d⟩⟩⟩⟩⟩⟩⟩⟩⟩⟩⟩⟩ ?_
     refine bK h fun r2 q_r2 h=>aK (rM (xs:=[.tmp 44]) (ts:=[tD (rI .u8) e]) (cts:=[K (M b1 0)]) (post:=fun i=>[Z lx 26 b1 r2,Z cw 183 b ob]) [Z lx 26 b1 x2] [Z cw 183 b ob] J XZ (Vk b1 _ _ q_r2) (D J) ⟨(D J),d⟩ (fun _=>J)) J fun i3=>?_;refine(show RG _ _ _ _ [_,_] _ from ?_);refine bt<|av<|aQ J<|Q (aA (D J))<|aT 0 nc J<|aT 0 u6 J<|Q (aD (r:=rH gV []) (x:=ob) bW J J (ee (d5 gk sq)) (.tail _ (.head _)) (D J))<|Q (fq (D J) hI)<|Q (aA (D J))<|aT 0 nc J<|aT 0 u6 J<|eE (EffOK.fr1 (dc bW J (nq (hs' :=[]) (nV gk o7 Cx) trivial J) J (D J) (D J))) fun i4=>?_;refine(show RG _ _ _ _ [_,_] _ from ?_);refine aU<|aE<|aG<|av<|Q (fq (D J) hI)<|aQ J<|aU<|af ?_;exact bm (aZ (ih (IntKind.i64.wrap (x1+(1:Int))) r2 ({ob with place:=({ob.place with at_:=(IntKind.i64.wrap (ob.place.at_+(1:Int)))}:lq)}:ae) h) (bq J))
    ·exact dq<|aq<|aq<|bR<|af<|so h▸ep J jj J J

def GH(b:Nat) r n{R}(h:cd r n=some R):bf a8 181 [K (M b 0),bw n] [Z cw 183 b r] (fun i:OI=>tD lx R.1) (fun i=>[Z cw 183 b R.2]):=by
 refine bf.of Tryz.func181 J J J fun w0 S0=>be<|bz (r:=lx) (x:=(0:Int)) oE (fun _=>J) J fun b1=>bt<|ay J<|aQ J<|Q (ud (cts:=[K (M b1 0)]) (caps:=[.tmp 4]) ⟨(D J),d⟩)<|bK h fun r1 q_r1 h=>aK (EffOK.fr1 (an (xs:=[.tmp 5,.tmp 6,.tmp 7]) (ts:=[K (M b 0),bw n,tC 215 [K (M b1 0)]]) [Z cw 183 b r,Z lx 26 b1 (0:Int)] _ J TH (KR _ _ _ _ _ q_r1) ⟨(D J),(D J),(D J),d⟩ (fun _=>J))) J fun i=>?_;refine(show RG _ _ _ _ [_,_] ((8,tT [])::_)from ?_);exact bt<|be<|Q (aD (x:=r1.2) oE J J bj (.tail _ (.head _)) (D J))<|cH<|bu oE ax J<|co<|eY 4 J<|so h▸dp J oE J J J jj J J

def AF(b:Nat) r{R}(h:cb r=some R):bf a8 136 [K (M b 0)] [Z cw 183 b r] (fun i:OI=>tD (rI .u8) R.1) (fun i=>[Z cw 183 b R.2]):=by
 refine bf.of Tryz.func136 J J J fun w0 S0=>be<|cJ<|bt<|ay J<|bK h fun r1 q_r1 h=>aK (an (xs:=[.tmp 3,.const (.int .i64 (1))]) (ts:=[K (M b 0),bw 1]) [Z cw 183 b r] _ J MB (GH _ _ _ q_r1) ⟨(D J),hI,d⟩ (fun _=>J)) J fun i=>?_;refine(show RG _ _ _ _ [_] ((4,tD lx r1.1)::_)from ?_);exact Q (eW yQ tw (D J))<|bk J<|so h▸bA J jj J J (fun _ _ h=>h)

def nd(b:Nat)(b1:Nat) r in1{R}(h:aM r in1=some R):bf a8 99 [K (M b 0)] [Z (rH aj [(0,M b1 0)]) 146 b r,Z cw 183 b1 in1] (fun i:OI=>bw R.1) (fun i=>[Z (rH aj [(0,M b1 0)]) 146 b r,Z cw 183 b1 R.2]):=by
 refine bf.of Tryz.func99 J J J fun w0 S0=>be<|cJ<|bt<|ay J<|Q (aA (D J))<|aT 0 lG J<|Q (cL jM J (.head _) (D J))<|bK h fun r1 q_r1 h=>aK (EffOK.fr1 (an (xs:=[.tmp 6]) (ts:=[K (M b1 0)]) [Z cw 183 b1 in1] _ J Fx (AF _ _ q_r1) ⟨(D J),d⟩ (fun _=>J))) J fun i=>?_;refine(show RG _ _ _ _ [_,_] ((7,tD (rI .u8) r1.1)::_)from ?_);exact Q (eW tw kI (D J))<|bk J<|af<|so h▸bA J jj J J (fun _ _ h=>h)

def yE(b:Nat) r{R}(h:fg r=some R):bf a8 141 [K (M b 0)] [Z cw 183 b r] (fun i:OI=>bw R) (fun i=>[Z cw 183 b r]):=by
 refine bf.of Tryz.func141 J J J fun w0 S0=>be<|cJ<|bt<|bp<|aQ J<|Q (BO Tryz.underlying143 (D J))<|di h J (fun h=>?_) (fun h=>?_)
 ·exact be<|gm<|aF<|so h▸bA J jj J J (fun _ _ h=>h)
 ·exact jv<|ay J<|Q (aA (D J))<|aT 0 nc J<|aT 1 u5 J<|Q (aD (r:=rH gV []) (x:=r) xZ J J (ee (d5 gk yv)) (.head _) (D J))<|bk J<|so h▸bA J jj J J (fun _ _ h=>h)

def u7(b:Nat)(b1:Nat) r in1{R}(h:cV r in1=some R):bf a8 101 [K (M b 0)] [Z (rH aj [(0,M b1 0)]) 146 b r,Z cw 183 b1 in1] (fun i:OI=>gA R) (fun i=>[Z (rH aj [(0,M b1 0)]) 146 b r,Z cw 183 b1 in1]):=by
 refine bf.of Tryz.func101 J J J fun w0 S0=>be<|bL<|bt<|ay J<|Q (aA (D J))<|aT 2 tf J<|Q (aD (r:=rH aj [(0,M b1 0)]) (x:=r) yM J J (ee s8) (.head _) (D J))<|Q (gg (D J))<|aQ J ?_;refine sy (!r.bad) (fun V=>?_) (fun V=>?_)
 ·have h:=ct h V;refine fZ J J J V<|aQ J<|fZ J J J V<|Q (aA (D J))<|fZ J J J V<|aT 0 lG J<|fZ J J J V<|Q (cL jM J (.head _) (D J))<|fZ J J J V<|bK h fun r1 q_r1 h=>aK (EffOK.fr1 (an (xs:=[.tmp 12]) (ts:=[K (M b1 0)]) [Z cw 183 b1 in1] _ J Dr (yE _ _ q_r1) ⟨(D J),d⟩ (fun _=>J))) J fun i=>?_;refine(show RG _ _ _ _ [_,_] ((13,bw r1)::_)from ?_);exact fZ J J J V<|bP J<|Q (ph (D J) V (D J))<|bk J<|af<|so h▸bA J jj J J (fun _ _ h=>h)
 ·have h:=cf h V;exact dB J J J V J<|dB J J J V J<|dB J J J V J<|dB J J J V J<|dB J J J V J<|dB J J J V J<|Q (nZ (D J) V Tv)<|bk J<|af<|af<|so h▸bA J jj J J (fun _ _ h=>h)

def KW(b:Nat)(b1:Nat) r in1 n{R}(h:k9 r in1 n=some R):bf a8 182 [K (M b 0),bw n,Cr 99 [K (M b 0)]] [Z (rH aj [(0,M b1 0)]) 146 b r,Z cw 183 b1 in1] (fun i:OI=>oo R.1) (fun i=>[Z (rH aj [(0,M b1 0)]) 146 b r,Z cw 183 b1 R.2]):=by
 refine bf.of Tryz.func182 J J J fun w0 S0=>be<|iJ bN<|bt<|be<|cP false bN 3<|Q (b9 vC)<|bt<|bp<|aQ J<|Q (ca hI)<|bt ?_;refine FK (bx:=fun out l c ob=>nE out ob=some R) (Of:=fun out l c ob=>[de bN 3 l c out,Z (rH aj [(0,M b1 0)]) 146 b r,Z cw 183 b1 ob]) (Gf:=fun out l c ob=>[(7,qP l c out)]) (fun out l c ob h=>?_) (fun tV=>?_)
 ·skip
  exact aG<|ay J<|bk J<|df<|bv 7 J<|bv 20 J<|bv 6 J<|eF 6 J<|aY<|af<|af<|so h▸bA J jj J J (fun _ _ h=>h)
 ·skip
  refine b7 ?_;refine aZ (G9 (bx:=fun n1 out1 l1 c1 x ob1=>g9 r n n1 out1 x ob1=some R) (Of:=fun out1 l1 c1 x ob1=>[de bN 3 l1 c1 out1,Z (rH aj [(0,M b1 0)]) 146 b r,Z cw 183 b1 ob1]) (Gf:=fun out1 l1 c1 x ob1=>[(0,K (M b 0)),(2,Cr 99 [K (M b 0)]),(7,qP l1 c1 out1),(8,bw n),(9,bw x)]) (fun out1 l1 c1 x ob1 h=>nn h) (fun n1 ih out1 l1 c1 x ob1 h=>?_) eQ ra none 0 (0:Int) in1 h) (bq J);refine ea<|be<|nk J<|bt<|aS<|iY h J (fun h=>?_) (fun h=>?_)
  ·refine jv<|aS<|aC<|bp<|aQ J<|bK h fun r1 q_r1 h=>aK (EffOK.fr2 (EffOK.fr2 (an (xs:=[.tmp 11]) (ts:=[K (M b 0)]) [Z (rH aj [(0,M b1 0)]) 146 b r,Z cw 183 b1 ob1] _ J zN (u7 _ _ _ _ q_r1) ⟨(D J),d⟩ (fun _=>J)))) J fun i=>?_;refine(show RG _ _ _ _ [_,_,_] ((12,gA r1)::_)from ?_);refine Q (gg (D J))<|di h J (fun h=>?_) (fun h=>?_)
   ·refine dq<|aq<|bM J<|aq<|aq<|bR<|af<|af<|aH ?_;exact bU (tV out1 l1 c1 ob1 h) (bq J)
   ·refine jv<|av<|aQ J<|aQ J<|bK h fun r2 q_r2 h=>aK (EffOK.fr1 (EffOK.fr1 (o3 (xs:=[]) (fts:=[K (M b 0)]) (ts:=[]) [Z (rH aj [(0,M b1 0)]) 146 b r,Z cw 183 b1 ob1] _ J rA (nd _ _ _ _ q_r2) (D J) trivial (fun _=>J)))) J fun i1=>?_;refine(show RG _ _ _ _ [_,_,_] ((16,bw r2.1)::_)from ?_);refine Q (ba (r:=bN) (ys:=[r2.1]) (xs:=[.tmp 16]) fc bW J J J J J ⟨(D J),d⟩)<|cB<|bK h fun out2 q_out2 h=>c9 bW J J J J fc J J (D J) (D J) q_out2 fun l2 c2=>gB J<|aU<|aE<|aG<|av<|Q (fq (D J) hI)<|aQ J<|aU ?_;exact bm (aZ (ih out2 l2 c2 (IntKind.i64.wrap (x+(1:Int))) r2.2 h) (bq J))
  ·refine dq<|aq<|aq<|bR ?_;exact bU (tV out1 l1 c1 ob1 h) (bq J)

def GJ(b:Nat)(b1:Nat) r in1{R}(h:gZ r in1=some R):bf a8 137 [K (M b 0)] [Z (rH aj [(0,M b1 0)]) 146 b r,Z cw 183 b1 in1] (fun i:OI=>oo R.1) (fun i=>[Z (rH aj [(0,M b1 0)]) 146 b r,Z cw 183 b1 R.2]):=by
 refine bf.of Tryz.func137 J J J fun w0 S0=>be<|iJ bN<|bt<|ay J<|aQ J<|bK h fun r1 q_r1 h=>aK (EffOK.fr1 (EffOK.fr1 (an (xs:=[.tmp 4]) (ts:=[K (M b 0)]) [Z (rH aj [(0,M b1 0)]) 146 b r,Z cw 183 b1 in1] _ J rA (nd _ _ _ _ q_r1) ⟨(D J),d⟩ (fun _=>J)))) J fun i=>?_;refine(show RG _ _ _ _ [_,_] ((5,bw r1.1)::_)from ?_);refine aQ J<|Q (qn (fts:=[K (M b 0)]) (fst:=[.tmp 6]) ⟨(D J),d⟩)<|bK h fun r2 q_r2 h=>aK (EffOK.fr1 (EffOK.fr1 (an (xs:=[.tmp 3,.tmp 5,.tmp 7]) (ts:=[K (M b 0),bw r1.1,Cr 99 [K (M b 0)]]) [Z (rH aj [(0,M b1 0)]) 146 b r,Z cw 183 b1 r1.2] _ J Yh (KW _ _ _ _ _ q_r2) ⟨(D J),(D J),(D J),d⟩ (fun _=>J)))) J fun i1=>?_;refine(show RG _ _ _ _ [_,_] ((8,oo r2.1)::_)from ?_);exact bk J<|af<|af<|so h▸bA J jj J J (fun _ _ h=>h)

def GL(b:Nat)(b1:Nat) r in1{R}(h:eN r in1=some R):bf a8 106 [K (M b 0)] [Z (rH aj [(0,M b1 0)]) 146 b r,Z cw 183 b1 in1] (fun i:OI=>gA R.1) (fun i=>[Z (rH aj [(0,M b1 0)]) 146 b R.2.1,Z cw 183 b1 R.2.2]):=by
 refine bf.of Tryz.func106 J J J fun w0 S0=>be<|bL<|bt<|ay J<|Q (aA (D J))<|aT 0 lG J<|Q (cL jM J (.head _) (D J))<|bK h fun r1 q_r1 h=>aK (EffOK.fr1 (an (xs:=[.tmp 7]) (ts:=[K (M b1 0)]) [Z cw 183 b1 in1] _ J Fx (AF _ _ q_r1) ⟨(D J),d⟩ (fun _=>J))) J fun i=>?_;refine(show RG _ _ _ _ [_,_] ((8,tD (rI .u8) r1.1)::_)from ?_);refine aX J<|ay J<|aQ J<|Q (aA (D J))<|aT 2 tf J<|Q (aD (r:=rH aj [(0,M b1 0)]) (x:=r) yM J J (ee s8) (.tail _ (.head _)) (D J))<|aQ J<|b8 J (dd J)<|b8 J (fun V=>jW (bJ J V) hI)<|kG J<|Q (aA (D J))<|aT 2 tf J<|eE (EffOK.fr1 (dc yM J (nq (hs' :=[(0,M b1 0)]) sU ⟨.inr ⟨J,J⟩,d⟩ J) J (D J) (D J))) fun i1=>?_;refine(show RG _ _ _ _ [_,_] _ from ?_);exact bt<|ay J<|bP J<|bk J<|af<|af<|so h▸bA J jj J J (fun _ _ h=>h)

def KM(b:Nat) r{R}(h:ka r=some R):bf a8 144 [K (M b 0)] [Z cw 183 b r] (fun i:OI=>tD nh R.1) (fun i=>[Z cw 183 b R.2]):=by
 refine bf.of Tryz.func144 J J J fun w0 S0=>be<|cJ<|bt<|ay J<|bK h fun r1 q_r1 h=>aK (an (xs:=[.tmp 3,.const (.int .i64 (4))]) (ts:=[K (M b 0),bw 4]) [Z cw 183 b r] _ J MB (GH _ _ _ q_r1) ⟨(D J),hI,d⟩ (fun _=>J)) J fun i=>?_;refine(show RG _ _ _ _ [_] ((4,tD lx r1.1)::_)from ?_);exact Q (eW yQ ED (D J))<|bk J<|so h▸bA J jj J J (fun _ _ h=>h)

def Qh(b:Nat) r{R}(h:gW r=some R):bf a8 216 [K (M b 0)] [Z cw 183 b r] (fun i:OI=>tD FQ R.1) (fun i=>[Z cw 183 b R.2]):=by
 refine bf.of Tryz.func216 J J J fun w0 S0=>be<|cJ<|bt<|ay J<|bK h fun r1 q_r1 h=>aK (an (xs:=[.tmp 3,.const (.int .i64 (2))]) (ts:=[K (M b 0),bw 2]) [Z cw 183 b r] _ J MB (GH _ _ _ q_r1) ⟨(D J),hI,d⟩ (fun _=>J)) J fun i=>?_;refine(show RG _ _ _ _ [_] ((4,tD lx r1.1)::_)from ?_);exact Q (eW yQ EC (D J))<|bk J<|so h▸bA J jj J J (fun _ _ h=>h)

def Qg(b:Nat)(l:Option Nat)(c:Nat) t{R}(h:mH t=some R):bf a8 221 [K (M b 0)] [Z rV 186 b (au l c t.length),de bN 3 l c t] (fun i:OI=>bw R.1) (fun i=>[Z rV 186 b (au (i.h 0).1 (i.h 0).2 R.2.length),de bN 3 (i.h 0).1 (i.h 0).2 R.2]):=by
 refine bf.of Tryz.func221 J J J fun w0 S0=>be<|cJ<|bt<|ay J<|Q (aA (D J))<|Q (oI EL (.head _) (D J))<|aX J<|bp<|aQ J<|Q (iD Ca (.tail _ (.head _)) (D J))<|bP J<|di h J (fun h=>?_) (fun h=>?_)
 ·exact be<|gm<|aF<|af<|af<|so h▸bA J (p9 [(l,c)]) J J (fun _ _ h=>h)
 ·refine jv<|ay J<|aQ J<|Q (iD Ca (.tail _ (.head _)) (D J))<|Q (ic (D J) hI)<|bK h fun e q_e h=>Q (hU Ca bW (.tail _ (.head _)) (D J) (D J) q_e)<|Q (mF (r:=bN) (i:=(IntKind.i64.wrap ((t.length:Int)-(1:Int)))) (foff:=0) bW J J bj J (.tail _ (.head _)) q_e (D J))<|aX J<|ay J<|aQ J<|aQ J<|Q (iD Ca (.tail _ (.head _)) (D J))<|Q (ic (D J) hI)<|bK h fun y q_y h=>Q (nC Ca bW J (.tail _ (.head _)) (D J) (D J) q_y)<|Q (aA (D J)) ?_;exact cH<|DC q_y<|cH<|dX EL J ax J (D J) (IE (D J))<|bt<|ay J<|bk J<|af<|af<|so h▸bA J (p9 [(l,c)]) J J (fun _ _ h=>h)

def su(b:Nat)(b1:Nat)(b2:Nat)(l:Option Nat)(c:Nat) r in1 t n at1{R}(h:cD r in1 t n at1=some R):bf a8 189 [K (M b 0),K (M b2 0),bw n,bw at1] [Z (rH aj [(0,M b1 0)]) 146 b r,Z cw 183 b1 in1,Z rV 186 b2 (au l c t.length),de bN 3 l c t] (fun i:OI=>tT [bw R.1,bw R.2.1]) (fun i=>[Z (rH aj [(0,M b1 0)]) 146 b R.2.2.1,Z cw 183 b1 in1,Z rV 186 b2 (au (i.h 0).1 (i.h 0).2 R.2.2.2.length),de bN 3 (i.h 0).1 (i.h 0).2 R.2.2.2]):=by
 refine bf.of Tryz.func189 J J J fun w0 S0=>be<|cJ<|cJ<|bt<|be<|cJ<|cJ<|bt ?_;refine FG (bx:=fun b3 x l1 c1 ob=>kC n at1 b3 x ob=some R) (Of:=fun b3 x l1 c1 ob=>[Z rV 186 b2 (au l1 c1 x.length),de bN 3 l1 c1 x,Z (rH aj [(0,M b1 0)]) 146 b ob,Z cw 183 b1 in1]) (Gf:=fun b3 x l1 c1 ob=>[(0,K (M b 0)),(1,K (M b2 0)),(2,bw n),(3,bw at1),(10,bw (-1)),(11,bw b3)]) (fun b3 x l1 c1 ob h=>?_) (fun tV=>?_)
 ·skip
  refine FG (bx:=fun a1 x1 l2 c2 ob1=>iL at1 b3 a1 x1 ob1=some R) (Of:=fun a1 x1 l2 c2 ob1=>[Z rV 186 b2 (au l2 c2 x1.length),de bN 3 l2 c2 x1,Z (rH aj [(0,M b1 0)]) 146 b ob1,Z cw 183 b1 in1]) (Gf:=fun a1 x1 l2 c2 ob1=>[(1,K (M b2 0)),(3,bw at1),(10,bw a1),(11,bw b3)]) (fun a1 x1 l2 c2 ob1 h=>?_) (fun K1=>?_)
  ·skip
   refine ay J<|aQ J<|Q (aA (D J))<|Q (oI EL (.head _) (D J))<|aQ J<|Q (ba (r:=bN) (ys:=[at1]) (xs:=[.tmp 46]) Ca bW J J J J J ⟨(D J),d⟩)<|cH<|bK h fun l3 q_l3 h=>c9 bW J J J J Ca J J (D J) (D J) q_l3 fun l4 c3=>Q (aA (D J))<|cH<|dX EL J ax J (D J) (IE (D J))<|bt<|ay J<|aQ J<|gB J<|aX J ?_;exact qD<|af<|af<|aN<|aN<|so h▸pZ (ts:=[bw a1,bw b3]) (rvs:=[.tmp 8,.tmp 9]) J J ⟨gi J,gi J,d⟩ (p9 [(l4,c3)]) J J
  ·skip
   refine ay J<|Q (ie (D J) hI)<|di h J (fun h=>?_) (fun h=>?_)
   ·refine ay J<|bK h fun r1 q_r1 h=>aK (EffOK.fr1 (EffOK.fr1 (an (xs:=[.tmp 29]) (ts:=[K (M b2 0)]) [Z rV 186 b2 (au l1 c1 x.length),de bN 3 l1 c1 x] _ J TF (Qg _ _ _ _ q_r1) ⟨(D J),d⟩ (fun _=>J)))) J fun i=>?_;refine(show RG _ _ _ _ [_,_,_,_] ((30,bw r1.1)::_)from ?_);refine aX J<|av<|aQ J<|aQ J<|Q (aA (D J))<|aT 2 tf J<|Q (aD (r:=rH aj [(0,M b1 0)]) (x:=ob) yM J J (ee s8) (.tail _ (.tail _ (.head _))) (D J))<|aQ J<|b8 J (dd J)<|b8 J (fun V=>iC (bJ J V) hI)<|kG J<|Q (aA (D J))<|aT 2 tf J<|eE (EffOK.fr2 (dc yM J (nq (hs' :=[(0,M b1 0)]) sU ⟨.inr ⟨J,J⟩,d⟩ J) J (D J) (D J))) fun i1=>?_;refine(show RG _ _ _ _ [_,_,_,_] _ from ?_);refine aU<|aN<|af<|aN<|aN ?_;exact bU (K1 r1.1 r1.2 (i.h 0).1 (i.h 0).2 ({ob with bad:=(ob.bad||(decide (r1.1<(0:Int))))}:aJ) h) (bq J)
   ·refine bG ?_;exact bU (K1 Bx x l1 c1 ob h) (bq J)
 ·skip
  refine ay J<|bP J<|di h J (fun h=>?_) (fun h=>?_)
  ·refine ay J<|bK h fun r2 q_r2 h=>aK (EffOK.fr3 (EffOK.fr3 (an (xs:=[.tmp 14]) (ts:=[K (M b2 0)]) [Z rV 186 b2 (au l c t.length),de bN 3 l c t] _ J TF (Qg _ _ _ _ q_r2) ⟨(D J),d⟩ (fun _=>J)))) J fun i2=>?_;refine(show RG _ _ _ _ [_,_,_,_] ((15,bw r2.1)::_)from ?_);refine aX J<|av<|aQ J<|aQ J<|Q (aA (D J))<|aT 2 tf J<|Q (aD (r:=rH aj [(0,M b1 0)]) (x:=r) yM J J (ee s8) (.tail _ (.tail _ (.head _))) (D J))<|aQ J<|b8 J (dd J)<|b8 J (fun V=>iC (bJ J V) hI)<|kG J<|Q (aA (D J))<|aT 2 tf J<|eE (EffOK.fr2 (dc yM J (nq (hs' :=[(0,M b1 0)]) sU ⟨.inr ⟨J,J⟩,d⟩ J) J (D J) (D J))) fun i3=>?_;refine(show RG _ _ _ _ [_,_,_,_] _ from ?_);refine aU<|aN<|af<|aN<|aN ?_;exact bU (tV r2.1 r2.2 (i2.h 0).1 (i2.h 0).2 ({r with bad:=(r.bad||(decide (r2.1<(0:Int))))}:aJ) h) (bq J)
  ·refine bG<|af<|af<|aN<|aN ?_;exact bU (tV Bx t l c r h) (bq J)

def Qp(b:Nat)(b1:Nat) r in1{R}(h:il r in1=some R):bf a8 147 [K (M b 0)] [Z (rH aj [(0,M b1 0)]) 146 b r,Z cw 183 b1 in1] (fun i:OI=>eg ((rI .u8)) R) (fun i=>[Z (rH aj [(0,M b1 0)]) 146 b r,Z cw 183 b1 in1]):=by
 refine bf.of Tryz.func147 J J J fun w0 S0=>be<|iJ ((rI .u8))<|bt<|aS<|bK h fun r1 q_r1 h=>?_
 refine iv 15 [tc (K (M b 0)),tc (K (M b 0)),tc (K (M b 1)),tc (eg ((rI .u8)) r.all),tc (K (M b 0)),tc (K (M b 0)),tc (K (M b 1)),tc (eg ((rI .u8)) r.all),tc (oA r.all),tc (K (M b 0)),tc (K (M b 0)),tc (K (M b 0)),tc (K (M b1 0)),tc (bw r1),tc (bw (IntKind.i64.wrap ((r.all.length:Int)-r1)))] [false,false,false,false,false,false,false,false,false,false,false,false,false,true,false] [fun _=>[Z (rH aj [(0,M b1 0)]) 146 b r,Z cw 183 b1 in1],fun sg=>[Z cw 183 b1 in1,Z (rH aj [(0,M b1 0)]) 146 b r]] J mixed J J J J J
  ⟨⟨[⟨0,fun _=>K (M b 0),none⟩],_,0,1,J,⟨(fun _=>J),d⟩,J,J,J,J,J,fun _ sg _ _=>ac J (lz J)⟩,
  ⟨⟨[⟨3,fun _=>K (M b 0),some 0⟩],_,0,1,J,⟨(fun _=>J),d⟩,J,J,J,J,J,fun _ sg _ _=>ac J (aA (D J))⟩,
  ⟨⟨[⟨4,fun _=>K (M b 0),some 1⟩],_,0,1,J,⟨(fun _=>J),d⟩,J,J,J,J,J,fun _ sg _ _=>ac J (nR 1 Mm J J J)⟩,
  ⟨⟨[⟨5,fun _=>K (M b 1),some 2⟩],_,0,1,J,⟨(fun _=>J),d⟩,J,J,J,J,J,By (fun sg=>ac J (aD (r:=rH aj [(0,M b1 0)]) (x:=r) oS J J (ee s9) (.head _) (D J))) (mW (fun sg=>ac J (aD (r:=rH aj [(0,M b1 0)]) (x:=r) oS J J (ee s9) (.tail _ (.head _)) (D J))))⟩,
  ⟨⟨[⟨0,fun _=>K (M b 0),none⟩],_,0,1,J,⟨(fun _=>J),d⟩,J,J,J,J,J,fun _ sg _ _=>ac J (lz J)⟩,
  ⟨⟨[⟨7,fun _=>K (M b 0),some 4⟩],_,0,1,J,⟨(fun _=>J),d⟩,J,J,J,J,J,fun _ sg _ _=>ac J (aA (D J))⟩,
  ⟨⟨[⟨8,fun _=>K (M b 0),some 5⟩],_,0,1,J,⟨(fun _=>J),d⟩,J,J,J,J,J,fun _ sg _ _=>ac J (nR 1 Mm J J J)⟩,
  ⟨⟨[⟨9,fun _=>K (M b 1),some 6⟩],_,0,1,J,⟨(fun _=>J),d⟩,J,J,J,J,J,By (fun sg=>ac J (aD (r:=rH aj [(0,M b1 0)]) (x:=r) oS J J (ee s9) (.head _) (D J))) (mW (fun sg=>ac J (aD (r:=rH aj [(0,M b1 0)]) (x:=r) oS J J (ee s9) (.tail _ (.head _)) (D J))))⟩,
  ⟨⟨[⟨10,fun _=>tD Hq r.all,some 7⟩],_,0,1,J,⟨(fun _=>J),d⟩,J,J,J,J,J,fun _ sg _ _=>ac J (T0 hM J)⟩,
  ⟨⟨[⟨0,fun _=>K (M b 0),none⟩],_,0,0,J,⟨(fun _=>J),d⟩,J,J,J,J,J,fun _ sg _ _=>ac J (lz J)⟩,
  ⟨⟨[⟨12,fun _=>K (M b 0),some 9⟩],_,0,0,J,⟨(fun _=>J),d⟩,J,J,J,J,J,fun _ sg _ _=>ac J (aA (D J))⟩,
  ⟨⟨[⟨13,fun _=>K (M b 0),some 10⟩],_,0,0,J,⟨(fun _=>J),d⟩,J,J,J,J,J,fun _ sg _ _=>ac J (nR 0 lG J J J)⟩,
  ⟨⟨[⟨14,fun _=>K (M b 0),some 11⟩],_,0,0,J,⟨(fun _=>J),d⟩,J,J,J,J,J,mW (fun sg=>ac J (cL jM J (.head _) (D J)))⟩,
  ⟨⟨[⟨15,fun _=>K (M b1 0),some 12⟩],_,J,⟨(fun _=>J),d⟩,J,J,J,fun sg=>bT J (EffOK.fr1 (an (xs:=[.tmp 15]) (ts:=[K (M b1 0)]) [Z cw 183 b1 in1] _ J Fz (AG _ _ q_r1) ⟨(D J),d⟩ (fun _=>J)))⟩,
  ⟨⟨[⟨11,fun _=>tD bN (r.all.length:Int),some 8⟩,⟨16,fun _=>tD bN r1,some 13⟩],_,1,1,J,⟨(fun _=>J),(fun _=>J),d⟩,J,J,J,J,J,fun _ sg _ _=>ac J (ic (D J) (D J))⟩,
  d⟩⟩⟩⟩⟩⟩⟩⟩⟩⟩⟩⟩⟩⟩⟩ (fun sg=>?_)
 refine(show RG _ _ _ _ [_,_] _ from ?_);exact bK h fun y q_y h=>Q (Kn hM rZ J (D J) (D J) q_y)<|bk J<|af<|so h▸bA J jj J J (fun _ _ h=>h)

def Vg(b:Nat)(l:Option Nat)(c1:Nat) out c{R}(h:oV out c=some R):bf a8 225 [tD (rI .u8) c,K (M b 0)] [Z rV 37 b (au l c1 out.length),de (rI .u8) 5 l c1 out] (fun i:OI=>tT []) (fun i=>[Z rV 37 b (au (i.h 0).1 (i.h 0).2 R.length),de (rI .u8) 5 (i.h 0).1 (i.h 0).2 R]):=by
 exact bf.of Tryz.func225 J J J fun w0 S0=>av<|Q (oI oS (.head _) (D J))<|aQ J<|Q (ba (r:=(rI .u8)) (ys:=[c]) (xs:=[.tmp 4]) hM rZ J J J J J ⟨(D J),d⟩)<|cH<|bK h fun l1 q_l1 h=>c9 rZ J J J J hM J J (D J) (D J) q_l1 fun l2 c2=>cH<|dX oS J ax J (D J) (IE (D J))<|aU<|af<|af<|so h▸ep J (oi l2 c2) J J

end Go.Proofs.YtdohlidddcgfjaaGreat

