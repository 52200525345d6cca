/- bR of this claim: P18. -/
import Derived.Test.YtdohlidddcgfjaaGreatFbT
import Derived.Test.YtdohlidddcgfjaaGreatFbP17
set_option linter.all false
namespace Go.Proofs.YtdohlidddcgfjaaGreat
open Go
set_option maxRecDepth 100000

def Qn b{R}(h:qZ b=some R):bd aV 97 [ep ((rI .u8)) b] [] (fun i:OI=>K (M (i.h 0).2 0)) (fun i=>[Z cJ 183 (i.h 0).2 R]):=by
 refine bd.of Tryz.func97 J J J fun w0 S0=>a8<|s (bZ (hV (v:= .pointer none)))<|bp<|ay J<|cw gZ J<|bT h fun mk q_mk h=>aR (Nv (r:=(rI .u8)) (x:=(0:Int)) rk J J J gZ (fun _=>J) (D J) (D J) q_mk) J fun i=>s (eh (r:=rH n6 []) (y:=rE (⟨N7,mk⟩:af) (an (i.h 0).1 (i.h 0).2 mk.length)) Tf TR (zH Fl trivial) (⟨_,_,_,_,_,J,Dd Cx J J,J,(hW (D J) F6),J⟩))<|qx (D J) J fun b1=>aW J<|ay J<|s (aD (D J))<|aX 2 Aj J<|s (lX ny (dZ CL) (.head _) J (D J))<|aO J ?_;refine bT h fun cp q_cp h=>aR (EffOK.fr1 (Ln J gZ (Ei rk) (D J) (D J) (so q_cp))) J fun i1=>?_;refine(show RG _ _ _ _ [_,_] ((14,bA ((min b.length mk.length:Nat):Int))::_)from ?_);exact B8 (O' :=[cM (rI .u8) 5 (i.h 0).1 (i.h 0).2 cp,Z (rH n6 []) 183 b1 (rE (⟨N7,mk⟩:af) (an (i.h 0).1 (i.h 0).2 cp.length))]) (by rw [Ny (so q_cp)])<|bp<|ay J<|bk J<|df<|aj<|sw (r' :=rH gk []) (x' :=({(⟨N7,mk⟩:af)with own:=cp}:af)) (fun _ _ _ ho h=>NZ h (fun h=>zi (pI ho (.head _)) h))<|aj<|ba<|so h▸bB J (o5 [(none,b1)]) J J (fun _ _ h=>h)

def T9 b{R}(h:tH b=some R):bd aV 43 [ep ((rI .u8)) b] [] (fun i:OI=>K (M (i.h 0).2 0)) (fun i=>[Z (rH al [(0,M (i.h 1).2 0)]) 146 (i.h 0).2 R.1,Z cJ 183 (i.h 1).2 R.2]):=by
 refine bd.of Tryz.func43 J J J fun w0 S0=>a8<|s (bZ (hV (v:= .pointer none)))<|bp<|ay J<|bT h fun r q_r h=>aR (au (xs:=[.tmp 3]) (ts:=[ep ((rI .u8)) b]) [] _ J Uh (Qn _ q_r) ⟨(D J),d⟩ (fun _=>J)) J fun i=>?_;refine(show RG _ _ _ _ [_] ((4,K (M (i.h 0).2 0))::_)from ?_);exact aO J<|s (eh (r:=rH pO []) (y:=uZ (⟨N2,b,false⟩:aJ) (M (i.h 0).2 0)) Th TV (zH Fk trivial) (⟨_,_,_,_,_,J,Dd Cw J J,J,(hW (D J) J),⟨_,_,_,_,_,J,Dd Cv J J,J,(D J),J⟩⟩))<|qx (D J) J fun b1=>NP (r' :=rH al [(0,M (i.h 0).2 0)]) (x' :=(⟨N2,b,false⟩:aJ)) (fun _ _ _ _ h=>Uf h.1)<|bk J<|aj<|aj<|so h▸bB J (o5 [(none,b1),(none,(i.h 0).2)]) J J (fun _ _ h=>h)

def BL(b:Nat) r{R}(h:gm r=some R):bd aV 141 [K (M b 0)] [Z cJ 183 b r] (fun i:OI=>bA R) (fun i=>[Z cJ 183 b r]):=by
 refine bd.of Tryz.func141 J J J fun w0 S0=>a8<|cC<|bp<|bm<|aO J<|s (Ah Tryz.underlying143 (D J))<|dd h J (fun h=>?_) (fun h=>?_)
 ·exact a8<|fZ<|aC<|so h▸bB J j8 J J (fun _ _ h=>h)
 ·exact ji<|ay J<|s (aD (D J))<|aX 0 mw J<|aX 1 tQ J<|s (aE (r:=rH gk []) (x:=r) yN J J (dZ (dJ fK w6)) (.head _) (D J))<|bk J<|so h▸bB J j8 J J (fun _ _ h=>h)

def vk(b:Nat)(b1:Nat) r in1{R}(h:cW r in1=some R):bd aV 101 [K (M b 0)] [Z (rH al [(0,M b1 0)]) 146 b r,Z cJ 183 b1 in1] (fun i:OI=>gw R) (fun i=>[Z (rH al [(0,M b1 0)]) 146 b r,Z cJ 183 b1 in1]):=by
 refine bd.of Tryz.func101 J J J fun w0 S0=>a8<|bE<|bp<|ay J<|s (aD (D J))<|aX 2 rP J<|s (aE (r:=rH al [(0,M b1 0)]) (x:=r) yM J J (dZ rK) (.head _) (D J))<|s (fH (D J))<|aO J ?_;refine vt (!r.bad) (fun X=>?_) (fun X=>?_)
 ·have h:=ct h X;refine fY J J J X<|aO J<|fY J J J X<|s (aD (D J))<|fY J J J X<|aX 0 rQ J<|fY J J J X<|s (dv nX J (.head _) (D J))<|fY J J J X<|bT h fun r1 q_r1 h=>aR (EffOK.fr1 (au (xs:=[.tmp 12]) (ts:=[K (M b1 0)]) [Z cJ 183 b1 in1] _ J GT (BL _ _ q_r1) ⟨(D J),d⟩ (fun _=>J))) J fun i=>?_;refine(show RG _ _ _ _ [_,_] ((13,bA r1)::_)from ?_);exact fY J J J X<|bM J<|s (qD (D J) X (D J))<|bk J<|aj<|so h▸bB J j8 J J (fun _ _ h=>h)
 ·have h:=cf h X;exact dB J J J X J<|dB J J J X J<|dB J J J X J<|dB J J J X J<|dB J J J X J<|dB J J J X J<|s (pi (D J) X SV)<|bk J<|aj<|aj<|so h▸bB J j8 J J (fun _ _ h=>h)

def BN(b:Nat) r{R}(h:fJ r=some R):bd aV 102 [K (M b 0)] [Z cJ 183 b r] (fun i:OI=>bA R) (fun i=>[Z cJ 183 b r]):=by
 refine bd.of Tryz.func102 J J J fun w0 S0=>a8<|cC<|bp<|bm<|aO J<|s (Ah Tryz.underlying143 (D J))<|dd h J (fun h=>?_) (fun h=>?_)
 ·exact a8<|fZ<|aC<|so h▸bB J j8 J J (fun _ _ h=>h)
 ·refine ji<|aP ?_
  refine jV (ts:=[_,_,_,_,_,_,_,_,_,_,_,_]) mixed J J
   ⟨gx J J,
   ⟨fm 5 0 J J (aD (D J)),
   ⟨fm 6 1 J J (oz 2 Aj J J J),
   ⟨fm 7 2 J J (aE (r:=rH gk []) (x:=r) ny J J (dZ va) (.head _) (D J)),
   ⟨fm 8 3 J J (QK gZ J),
   ⟨gx J J,
   ⟨fm 10 5 J J (aD (D J)),
   ⟨fm 11 6 J J (oz 0 mw J J J),
   ⟨fm 12 7 J J (oz 0 tR J J J),
   ⟨fm 13 8 J J (aE (r:=rH gk []) (x:=r) bS J J (dZ (dJ fK q8)) (.head _) (D J)),
   ⟨jz 9 4 14 9 J J J (ii (D J) (D J)),
   ⟨fm 15 10 J J (Hp J),
   d⟩⟩⟩⟩⟩⟩⟩⟩⟩⟩⟩⟩ ?_
  exact aH<|pA<|so h▸bB J j8 J J (fun _ _ h=>h)

def T7(b:Nat)(b1:Nat) r in1{R}(h:io r in1=some R):bd aV 45 [K (M b 0)] [Z (rH al [(0,M b1 0)]) 146 b r,Z cJ 183 b1 in1] (fun i:OI=>gw R) (fun i=>[Z (rH al [(0,M b1 0)]) 146 b r,Z cJ 183 b1 in1]):=by
 refine bd.of Tryz.func45 J J J fun w0 S0=>a8<|bE<|bp<|ay J<|bT h fun r1 q_r1 h=>aR (EffOK.fr1 (EffOK.fr1 (au (xs:=[.tmp 3]) (ts:=[K (M b 0)]) [Z (rH al [(0,M b1 0)]) 146 b r,Z cJ 183 b1 in1] _ J zS (vk _ _ _ _ q_r1) ⟨(D J),d⟩ (fun _=>J)))) J fun i=>?_;refine(show RG _ _ _ _ [_,_] ((4,gw r1)::_)from ?_);refine aO J ?_;refine vt r1 (fun X=>?_) (fun X=>?_)
 ·have h:=ct h X;refine fY J J J X<|aO J<|fY J J J X<|s (aD (D J))<|fY J J J X<|aX 0 rQ J<|fY J J J X<|s (dv nX J (.head _) (D J))<|fY J J J X<|bT h fun r2 q_r2 h=>aR (EffOK.fr1 (au (xs:=[.tmp 9]) (ts:=[K (M b1 0)]) [Z cJ 183 b1 in1] _ J GV (BN _ _ q_r2) ⟨(D J),d⟩ (fun _=>J))) J fun i1=>?_;refine(show RG _ _ _ _ [_,_] ((10,bA r2)::_)from ?_);exact fY J J J X<|bM J<|s (qD (D J) X (D J))<|bk J<|aj<|so h▸bB J j8 J J (fun _ _ h=>h)
 ·have h:=cf h X;exact dB J J J X J<|dB J J J X J<|dB J J J X J<|dB J J J X J<|dB J J J X J<|dB J J J X J<|s (pi (D J) X SV)<|bk J<|aj<|aj<|so h▸bB J j8 J J (fun _ _ h=>h)

def R7(b:Nat) x c{R}(h:o6 x c=some R):bd aV 215 [tD (rI .u8) c,K (M b 0)] [Z lL 26 b x] (fun i:OI=>tT []) (fun i=>[Z lL 26 b R]):=by
 exact bd.of Tryz.func215 J J J fun w0 S0=>av<|s (aE oA J J bo (.head _) (D J))<|s (Rk (D J) hI (by decide))<|aO J<|s (eP sD xr (D J))<|s (fc (D J) (D J))<|bG oA aB J<|aS<|so h▸dW J (oi none 0) J J

def IG(b:Nat)(b1:Nat) r n x{R}(h:mi r n x=some R):bd aV 214 [K (M b 0),bA n,tC 215 [K (M b1 0)]] [Z cJ 183 b r,Z lL 26 b1 x] (fun i:OI=>tT []) (fun i=>[Z cJ 183 b R.1,Z lL 26 b1 R.2]):=by
 refine bd.of Tryz.func214 J J J fun w0 S0=>bm<|aO J<|s (Ah Tryz.underlying143 (D J))<|aO J<|fY J J J J<|aO J<|fY J J J J<|s (aD (D J))<|fY J J J J<|aX 0 mw J<|fY J J J J<|aX 1 tQ J<|fY J J J J<|s (aE (r:=rH gk []) (x:=r) yN J J (dZ (dJ fK w6)) (.head _) (D J))<|fY J J J J<|nW J<|s (pi (D J) J (D J))<|dd h J (fun h=>?_) (fun h=>?_)
 ·exact pA<|aC<|aj<|aj<|so h▸oZ J j8 J J
 ·refine ji<|bm<|aO J<|s (ij (D J) hI)<|dd h J (fun h=>?_) (fun h=>?_)
  ·refine ay J<|s (aD (D J))<|aX 0 mw J<|aX 1 tQ J<|d6 (cK yN J (mF (hs' :=[]) (qB fK nZ tv) trivial J) J (D J) hI) fun i=>?_;refine(show RG _ _ _ _ [_,_] _ from ?_);exact cj<|aC<|aj<|aj<|so h▸oZ J j8 J J
  ·refine ji<|bm<|aO J<|bT h fun r1 q_r1 h=>aR (au (xs:=[.tmp 22]) (ts:=[K (M b 0)]) [Z cJ 183 b r] _ J GV (BN _ _ q_r1) ⟨(D J),d⟩ (fun _=>J)) J fun i1=>?_;refine(show RG _ _ _ _ [_,_] ((23,bA r1)::_)from ?_);refine aO J<|nw J<|dd h J (fun h=>?_) (fun h=>?_)
   ·refine ay J<|s (aD (D J))<|aX 0 mw J<|aX 1 tQ J<|d6 (cK yN J (mF (hs' :=[]) (qB fK nZ tv) trivial J) J (D J) hI) fun i2=>?_;refine(show RG _ _ _ _ [_,_] _ from ?_);exact cj<|aC<|aj<|aj<|so h▸oZ J j8 J J
   ·refine ji<|ay J<|s (bU hI)<|bp<|aA<|bV<|fD ?_;refine aT (Kf (bx:=fun n1 x1 x2 ob=>eC n n1 x1 x2 ob=some R) (Of:=fun x1 x2 ob=>[Z lL 26 b1 x2,Z cJ 183 b ob]) (Gf:=fun x1 x2 ob=>[(0,K (M b 0)),(2,tC 215 [K (M b1 0)]),(30,bA n),(31,bA x1),(0,K (M b 0))]) (fun x1 x2 ob h=>nn h) (fun n1 ih x1 x2 ob h=>?_) eI (0:Int) x r h) (bj J);refine d8<|a8<|nw J<|bp<|aP<|iX h J (fun h=>?_) (fun h=>?_)
    ·refine ji<|aP<|aA<|aP<|bT h fun e q_e h=>?_
     refine pX 12 (ts:=[tC 215 [K (M b1 0)],K (M b 0),K (M b 0),K (M b 2),ep ((rI .u8)) ob.own,K (M b 0),K (M b 0),K (M b 0),K (M b 0),bA ob.place.at_,cH (rI .u8) e,tD (rI .u8) e]) mixed J J J
      ⟨gx J J,
      ⟨gx J J,
      ⟨fm 34 1 J J (aD (D J)),
      ⟨fm 35 2 J J (oz 2 Aj J J J),
      ⟨fm 36 3 J J (aE (r:=rH gk []) (x:=ob) ny J J (dZ va) (.tail _ (.head _)) (D J)),
      ⟨gx J J,
      ⟨fm 38 5 J J (aD (D J)),
      ⟨fm 39 6 J J (oz 0 mw J J J),
      ⟨fm 40 7 J J (oz 0 tR J J J),
      ⟨fm 41 8 J J (aE (r:=rH gk []) (x:=ob) bS J J (dZ (dJ fK q8)) (.tail _ (.head _)) (D J)),
      ⟨jz 37 4 42 9 J J J (Jh gZ rk J J J q_e),
      ⟨sH 10 rk J J,
      d⟩⟩⟩⟩⟩⟩⟩⟩⟩⟩⟩⟩ ?_
     refine bT h fun r2 q_r2 h=>aR (qG (xs:=[.tmp 44]) (ts:=[tD (rI .u8) e]) (cts:=[K (M b1 0)]) (post:=fun i=>[Z lL 26 b1 r2,Z cJ 183 b ob]) [Z lL 26 b1 x2] [Z cJ 183 b ob] J UQ (R7 b1 _ _ q_r2) (D J) ⟨(D J),d⟩ (fun _=>J)) J fun i3=>?_;refine(show RG _ _ _ _ [_,_] _ from ?_);refine bp<|av<|aO J<|s (aD (D J))<|aX 0 mw J<|aX 0 tR J<|s (aE (r:=rH gk []) (x:=ob) bS J J (dZ (dJ fK q8)) (.tail _ (.head _)) (D J))<|s (fc (D J) hI)<|s (aD (D J))<|aX 0 mw J<|aX 0 tR J<|d6 (EffOK.fr1 (cK bS J (mF (hs' :=[]) (qB fK nZ A3) trivial J) J (D J) (D J))) fun i4=>?_;refine(show RG _ _ _ _ [_,_] _ from ?_);refine aS<|aF<|aH<|av<|s (fc (D J) hI)<|aO J<|aS<|aj ?_;exact bf (aT (ih (IntKind.i64.wrap (x1+(1:Int))) r2 ({ob with place:=({ob.place with at_:=(IntKind.i64.wrap (ob.place.at_+(1:Int)))}:kK)}:af) h) (bj J))
    ·exact dh<|aq<|aq<|bY<|aj<|so h▸dW J j8 J J

def EQ(b:Nat) r n{R}(h:cb r n=some R):bd aV 181 [K (M b 0),bA n] [Z cJ 183 b r] (fun i:OI=>tD lL R.1) (fun i=>[Z cJ 183 b R.2]):=by
 refine bd.of Tryz.func181 J J J fun w0 S0=>a8<|bw (r:=lL) (x:=(0:Int)) oA (fun _=>J) J fun b1=>bp<|ay J<|aO J<|s (sQ (cts:=[K (M b1 0)]) (caps:=[.tmp 4]) ⟨(D J),d⟩)<|bT h fun r1 q_r1 h=>aR (EffOK.fr1 (au (xs:=[.tmp 5,.tmp 6,.tmp 7]) (ts:=[K (M b 0),bA n,tC 215 [K (M b1 0)]]) [Z cJ 183 b r,Z lL 26 b1 (0:Int)] _ J Qx (IG _ _ _ _ _ q_r1) ⟨(D J),(D J),(D J),d⟩ (fun _=>J))) J fun i=>?_;refine(show RG _ _ _ _ [_,_] ((8,tT [])::_)from ?_);exact bp<|a8<|s (aE (x:=r1.2) oA J J bo (.tail _ (.head _)) (D J))<|cu<|bG oA aB J<|cj<|gg 4 J<|so h▸d9 J oA J J J j8 J J

def BM(b:Nat) r{R}(h:cq r=some R):bd aV 136 [K (M b 0)] [Z cJ 183 b r] (fun i:OI=>tD (rI .u8) R.1) (fun i=>[Z cJ 183 b R.2]):=by
 refine bd.of Tryz.func136 J J J fun w0 S0=>a8<|cC<|bp<|ay J<|bT h fun r1 q_r1 h=>aR (au (xs:=[.tmp 3,.const (.int .i64 (1))]) (ts:=[K (M b 0),bA 1]) [Z cJ 183 b r] _ J J1 (EQ _ _ _ q_r1) ⟨(D J),hI,d⟩ (fun _=>J)) J fun i=>?_;refine(show RG _ _ _ _ [_] ((4,tD lL r1.1)::_)from ?_);exact s (eP xr sD (D J))<|bk J<|so h▸bB J j8 J J (fun _ _ h=>h)

def pU(b:Nat)(b1:Nat) r in1{R}(h:bl r in1=some R):bd aV 99 [K (M b 0)] [Z (rH al [(0,M b1 0)]) 146 b r,Z cJ 183 b1 in1] (fun i:OI=>bA R.1) (fun i=>[Z (rH al [(0,M b1 0)]) 146 b r,Z cJ 183 b1 R.2]):=by
 refine bd.of Tryz.func99 J J J fun w0 S0=>a8<|cC<|bp<|ay J<|s (aD (D J))<|aX 0 rQ J<|s (dv nX J (.head _) (D J))<|bT h fun r1 q_r1 h=>aR (EffOK.fr1 (au (xs:=[.tmp 6]) (ts:=[K (M b1 0)]) [Z cJ 183 b1 in1] _ J GU (BM _ _ q_r1) ⟨(D J),d⟩ (fun _=>J))) J fun i=>?_;refine(show RG _ _ _ _ [_,_] ((7,tD (rI .u8) r1.1)::_)from ?_);exact s (eP sD kz (D J))<|bk J<|aj<|so h▸bB J j8 J J (fun _ _ h=>h)

def IK(b:Nat)(b1:Nat) r in1 n{R}(h:kw r in1 n=some R):bd aV 182 [K (M b 0),bA n,FI 99 [K (M b 0)]] [Z (rH al [(0,M b1 0)]) 146 b r,Z cJ 183 b1 in1] (fun i:OI=>nj R.1) (fun i=>[Z (rH al [(0,M b1 0)]) 146 b r,Z cJ 183 b1 R.2]):=by
 refine bd.of Tryz.func182 J J J fun w0 S0=>a8<|kb bH<|bp<|a8<|cz false bH 3<|s (bZ u5)<|bp<|bm<|aO J<|s (bU hI)<|bp ?_;refine D3 (bx:=fun out l c ob=>mR out ob=some R) (Of:=fun out l c ob=>[cM bH 3 l c out,Z (rH al [(0,M b1 0)]) 146 b r,Z cJ 183 b1 ob]) (Gf:=fun out l c ob=>[(7,pY l c out)]) (fun out l c ob h=>?_) (fun tV=>?_)
 ·skip
  exact aH<|ay J<|bk J<|df<|bJ 7 J<|bJ 20 J<|bJ 6 J<|fE 6 J<|ba<|aj<|aj<|so h▸bB J j8 J J (fun _ _ h=>h)
 ·skip
  refine bV ?_;refine aT (E5 (bx:=fun n1 out1 l1 c1 x ob1=>go r n n1 out1 x ob1=some R) (Of:=fun out1 l1 c1 x ob1=>[cM bH 3 l1 c1 out1,Z (rH al [(0,M b1 0)]) 146 b r,Z cJ 183 b1 ob1]) (Gf:=fun out1 l1 c1 x ob1=>[(0,K (M b 0)),(2,FI 99 [K (M b 0)]),(7,pY l1 c1 out1),(8,bA n),(9,bA x)]) (fun out1 l1 c1 x ob1 h=>nn h) (fun n1 ih out1 l1 c1 x ob1 h=>?_) eI p9 none 0 (0:Int) in1 h) (bj J);refine d8<|a8<|nw J<|bp<|aP<|iX h J (fun h=>?_) (fun h=>?_)
  ·refine ji<|aP<|aA<|bm<|aO J<|bT h fun r1 q_r1 h=>aR (EffOK.fr2 (EffOK.fr2 (au (xs:=[.tmp 11]) (ts:=[K (M b 0)]) [Z (rH al [(0,M b1 0)]) 146 b r,Z cJ 183 b1 ob1] _ J zS (vk _ _ _ _ q_r1) ⟨(D J),d⟩ (fun _=>J)))) J fun i=>?_;refine(show RG _ _ _ _ [_,_,_] ((12,gw r1)::_)from ?_);refine s (fH (D J))<|dd h J (fun h=>?_) (fun h=>?_)
   ·refine dh<|aq<|bF J<|aq<|aq<|bY<|aj<|aj<|aG ?_;exact bP (tV out1 l1 c1 ob1 h) (bj J)
   ·refine ji<|av<|aO J<|aO J<|bT h fun r2 q_r2 h=>aR (EffOK.fr1 (EffOK.fr1 (rf (xs:=[]) (fts:=[K (M b 0)]) (ts:=[]) [Z (rH al [(0,M b1 0)]) 146 b r,Z cJ 183 b1 ob1] _ J vn (pU _ _ _ _ q_r2) (D J) trivial (fun _=>J)))) J fun i1=>?_;refine(show RG _ _ _ _ [_,_,_] ((16,bA r2.1)::_)from ?_);refine s (aY (r:=bH) (ys:=[r2.1]) (xs:=[.tmp 16]) er bS J J J J J ⟨(D J),d⟩)<|cL<|bT h fun out2 q_out2 h=>cU bS J J J J er J J (D J) (D J) q_out2 fun l2 c2=>gU J<|aS<|aF<|aH<|av<|s (fc (D J) hI)<|aO J<|aS ?_;exact bf (aT (ih out2 l2 c2 (IntKind.i64.wrap (x+(1:Int))) r2.2 h) (bj J))
  ·refine dh<|aq<|aq<|bY ?_;exact bP (tV out1 l1 c1 ob1 h) (bj J)

def ES(b:Nat)(b1:Nat) r in1{R}(h:gn r in1=some R):bd aV 137 [K (M b 0)] [Z (rH al [(0,M b1 0)]) 146 b r,Z cJ 183 b1 in1] (fun i:OI=>nj R.1) (fun i=>[Z (rH al [(0,M b1 0)]) 146 b r,Z cJ 183 b1 R.2]):=by
 refine bd.of Tryz.func137 J J J fun w0 S0=>a8<|kb bH<|bp<|ay J<|aO J<|bT h fun r1 q_r1 h=>aR (EffOK.fr1 (EffOK.fr1 (au (xs:=[.tmp 4]) (ts:=[K (M b 0)]) [Z (rH al [(0,M b1 0)]) 146 b r,Z cJ 183 b1 in1] _ J vn (pU _ _ _ _ q_r1) ⟨(D J),d⟩ (fun _=>J)))) J fun i=>?_;refine(show RG _ _ _ _ [_,_] ((5,bA r1.1)::_)from ?_);refine aO J<|s (sR (fts:=[K (M b 0)]) (fst:=[.tmp 6]) ⟨(D J),d⟩)<|bT h fun r2 q_r2 h=>aR (EffOK.fr1 (EffOK.fr1 (au (xs:=[.tmp 3,.tmp 5,.tmp 7]) (ts:=[K (M b 0),bA r1.1,FI 99 [K (M b 0)]]) [Z (rH al [(0,M b1 0)]) 146 b r,Z cJ 183 b1 r1.2] _ J U7 (IK _ _ _ _ _ q_r2) ⟨(D J),(D J),(D J),d⟩ (fun _=>J)))) J fun i1=>?_;refine(show RG _ _ _ _ [_,_] ((8,nj r2.1)::_)from ?_);exact bk J<|aj<|aj<|so h▸bB J j8 J J (fun _ _ h=>h)

def Nk(b:Nat)(b1:Nat) r in1{R}(h:iU r in1=some R):bd aV 106 [K (M b 0)] [Z (rH al [(0,M b1 0)]) 146 b r,Z cJ 183 b1 in1] (fun i:OI=>gw R.1) (fun i=>[Z (rH al [(0,M b1 0)]) 146 b R.2.1,Z cJ 183 b1 R.2.2]):=by
 refine bd.of Tryz.func106 J J J fun w0 S0=>a8<|bE<|bp<|ay J<|s (aD (D J))<|aX 0 rQ J<|s (dv nX J (.head _) (D J))<|bT h fun r1 q_r1 h=>aR (EffOK.fr1 (au (xs:=[.tmp 7]) (ts:=[K (M b1 0)]) [Z cJ 183 b1 in1] _ J GU (BM _ _ q_r1) ⟨(D J),d⟩ (fun _=>J))) J fun i=>?_;refine(show RG _ _ _ _ [_,_] ((8,tD (rI .u8) r1.1)::_)from ?_);refine aW J<|ay J<|aO J<|s (aD (D J))<|aX 2 rP J<|s (aE (r:=rH al [(0,M b1 0)]) (x:=r) yM J J (dZ rK) (.tail _ (.head _)) (D J))<|aO J<|bX J (cN J)<|bX J (fun X=>jL (bC J X) hI)<|ka J<|s (aD (D J))<|aX 2 rP J<|d6 (EffOK.fr1 (cK yM J (mF (hs' :=[(0,M b1 0)]) ry ⟨.inr ⟨J,J⟩,d⟩ J) J (D J) (D J))) fun i1=>?_;refine(show RG _ _ _ _ [_,_] _ from ?_);exact bp<|ay J<|bM J<|bk J<|aj<|aj<|so h▸bB J j8 J J (fun _ _ h=>h)

def Sr(b:Nat) r{R}(h:m8 r=some R):bd aV 144 [K (M b 0)] [Z cJ 183 b r] (fun i:OI=>tD m2 R.1) (fun i=>[Z cJ 183 b R.2]):=by
 refine bd.of Tryz.func144 J J J fun w0 S0=>a8<|cC<|bp<|ay J<|bT h fun r1 q_r1 h=>aR (au (xs:=[.tmp 3,.const (.int .i64 (4))]) (ts:=[K (M b 0),bA 4]) [Z cJ 183 b r] _ J J1 (EQ _ _ _ q_r1) ⟨(D J),hI,d⟩ (fun _=>J)) J fun i=>?_;refine(show RG _ _ _ _ [_] ((4,tD lL r1.1)::_)from ?_);exact s (eP xr CT (D J))<|bk J<|so h▸bB J j8 J J (fun _ _ h=>h)

def R6(b:Nat) r{R}(h:jB r=some R):bd aV 216 [K (M b 0)] [Z cJ 183 b r] (fun i:OI=>tD Fp R.1) (fun i=>[Z cJ 183 b R.2]):=by
 refine bd.of Tryz.func216 J J J fun w0 S0=>a8<|cC<|bp<|ay J<|bT h fun r1 q_r1 h=>aR (au (xs:=[.tmp 3,.const (.int .i64 (2))]) (ts:=[K (M b 0),bA 2]) [Z cJ 183 b r] _ J J1 (EQ _ _ _ q_r1) ⟨(D J),hI,d⟩ (fun _=>J)) J fun i=>?_;refine(show RG _ _ _ _ [_] ((4,tD lL r1.1)::_)from ?_);exact s (eP xr Fg (D J))<|bk J<|so h▸bB J j8 J J (fun _ _ h=>h)

def Nb(b:Nat)(l:Option Nat)(c:Nat) t{R}(h:lR t=some R):bd aV 221 [K (M b 0)] [Z rV 186 b (an l c t.length),cM bH 3 l c t] (fun i:OI=>bA R.1) (fun i=>[Z rV 186 b (an (i.h 0).1 (i.h 0).2 R.2.length),cM bH 3 (i.h 0).1 (i.h 0).2 R.2]):=by
 refine bd.of Tryz.func221 J J J fun w0 S0=>a8<|cC<|bp<|ay J<|s (aD (D J))<|s (nD C3 (.head _) (D J))<|aW J<|bm<|aO J<|s (hD AF (.tail _ (.head _)) (D J))<|bM J<|dd h J (fun h=>?_) (fun h=>?_)
 ·exact a8<|fZ<|aC<|aj<|aj<|so h▸bB J (o5 [(l,c)]) J J (fun _ _ h=>h)
 ·refine ji<|ay J<|aO J<|s (hD AF (.tail _ (.head _)) (D J))<|s (ii (D J) hI)<|bT h fun e q_e h=>s (gy AF bS (.tail _ (.head _)) (D J) (D J) q_e)<|s (lP (r:=bH) (i:=(IntKind.i64.wrap ((t.length:Int)-(1:Int)))) (foff:=0) bS J J bo J (.tail _ (.head _)) q_e (D J))<|aW J<|ay J<|aO J<|aO J<|s (hD AF (.tail _ (.head _)) (D J))<|s (ii (D J) hI)<|bT h fun y q_y h=>s (mO AF bS J (.tail _ (.head _)) (D J) (D J) q_y)<|s (aD (D J)) ?_;exact cu<|B7 q_y<|cu<|dV C3 J aB J (D J) (Gs (D J))<|bp<|ay J<|bk J<|aj<|aj<|so h▸bB J (o5 [(l,c)]) J J (fun _ _ h=>h)

def rb(b:Nat)(b1:Nat)(b2:Nat)(l:Option Nat)(c:Nat) r in1 t n at1{R}(h:ci r in1 t n at1=some R):bd aV 189 [K (M b 0),K (M b2 0),bA n,bA at1] [Z (rH al [(0,M b1 0)]) 146 b r,Z cJ 183 b1 in1,Z rV 186 b2 (an l c t.length),cM bH 3 l c t] (fun i:OI=>tT [bA R.1,bA R.2.1]) (fun i=>[Z (rH al [(0,M b1 0)]) 146 b R.2.2.1,Z cJ 183 b1 in1,Z rV 186 b2 (an (i.h 0).1 (i.h 0).2 R.2.2.2.length),cM bH 3 (i.h 0).1 (i.h 0).2 R.2.2.2]):=by
 refine bd.of Tryz.func189 J J J fun w0 S0=>a8<|cC<|cC<|bp<|a8<|cC<|cC<|bp ?_;refine D0 (bx:=fun b3 x l1 c1 ob=>jT n at1 b3 x ob=some R) (Of:=fun b3 x l1 c1 ob=>[Z rV 186 b2 (an l1 c1 x.length),cM bH 3 l1 c1 x,Z (rH al [(0,M b1 0)]) 146 b ob,Z cJ 183 b1 in1]) (Gf:=fun b3 x l1 c1 ob=>[(0,K (M b 0)),(1,K (M b2 0)),(2,bA n),(3,bA at1),(10,bA (-1)),(11,bA b3)]) (fun b3 x l1 c1 ob h=>?_) (fun tV=>?_)
 ·skip
  refine D0 (bx:=fun a1 x1 l2 c2 ob1=>hX at1 b3 a1 x1 ob1=some R) (Of:=fun a1 x1 l2 c2 ob1=>[Z rV 186 b2 (an l2 c2 x1.length),cM bH 3 l2 c2 x1,Z (rH al [(0,M b1 0)]) 146 b ob1,Z cJ 183 b1 in1]) (Gf:=fun a1 x1 l2 c2 ob1=>[(1,K (M b2 0)),(3,bA at1),(10,bA a1),(11,bA b3)]) (fun a1 x1 l2 c2 ob1 h=>?_) (fun K1=>?_)
  ·skip
   refine ay J<|aO J<|s (aD (D J))<|s (nD C3 (.head _) (D J))<|aO J<|s (aY (r:=bH) (ys:=[at1]) (xs:=[.tmp 46]) AF bS J J J J J ⟨(D J),d⟩)<|cu<|bT h fun l3 q_l3 h=>cU bS J J J J AF J J (D J) (D J) q_l3 fun l4 c3=>s (aD (D J))<|cu<|dV C3 J aB J (D J) (Gs (D J))<|bp<|ay J<|aO J<|gU J<|aW J ?_;exact pA<|aj<|aj<|aK<|aK<|so h▸tg (ts:=[bA a1,bA b3]) (rvs:=[.tmp 8,.tmp 9]) J J ⟨kR J,kR J,d⟩ (o5 [(l4,c3)]) J J
  ·skip
   refine ay J<|s (gE (D J) hI)<|dd h J (fun h=>?_) (fun h=>?_)
   ·refine ay J<|bT h fun r1 q_r1 h=>aR (EffOK.fr1 (EffOK.fr1 (au (xs:=[.tmp 29]) (ts:=[K (M b2 0)]) [Z rV 186 b2 (an l1 c1 x.length),cM bH 3 l1 c1 x] _ J Qw (Nb _ _ _ _ q_r1) ⟨(D J),d⟩ (fun _=>J)))) J fun i=>?_;refine(show RG _ _ _ _ [_,_,_,_] ((30,bA r1.1)::_)from ?_);refine aW J<|av<|aO J<|aO J<|s (aD (D J))<|aX 2 rP J<|s (aE (r:=rH al [(0,M b1 0)]) (x:=ob) yM J J (dZ rK) (.tail _ (.tail _ (.head _))) (D J))<|aO J<|bX J (cN J)<|bX J (fun X=>ij (bC J X) hI)<|ka J<|s (aD (D J))<|aX 2 rP J<|d6 (EffOK.fr2 (cK yM J (mF (hs' :=[(0,M b1 0)]) ry ⟨.inr ⟨J,J⟩,d⟩ J) J (D J) (D J))) fun i1=>?_;refine(show RG _ _ _ _ [_,_,_,_] _ from ?_);refine aS<|aK<|aj<|aK<|aK ?_;exact bP (K1 r1.1 r1.2 (i.h 0).1 (i.h 0).2 ({ob with bad:=(ob.bad||(decide (r1.1<(0:Int))))}:aJ) h) (bj J)
   ·refine bD ?_;exact bP (K1 z2 x l1 c1 ob h) (bj J)
 ·skip
  refine ay J<|bM J<|dd h J (fun h=>?_) (fun h=>?_)
  ·refine ay J<|bT h fun r2 q_r2 h=>aR (EffOK.fr3 (EffOK.fr3 (au (xs:=[.tmp 14]) (ts:=[K (M b2 0)]) [Z rV 186 b2 (an l c t.length),cM bH 3 l c t] _ J Qw (Nb _ _ _ _ q_r2) ⟨(D J),d⟩ (fun _=>J)))) J fun i2=>?_;refine(show RG _ _ _ _ [_,_,_,_] ((15,bA r2.1)::_)from ?_);refine aW J<|av<|aO J<|aO J<|s (aD (D J))<|aX 2 rP J<|s (aE (r:=rH al [(0,M b1 0)]) (x:=r) yM J J (dZ rK) (.tail _ (.tail _ (.head _))) (D J))<|aO J<|bX J (cN J)<|bX J (fun X=>ij (bC J X) hI)<|ka J<|s (aD (D J))<|aX 2 rP J<|d6 (EffOK.fr2 (cK yM J (mF (hs' :=[(0,M b1 0)]) ry ⟨.inr ⟨J,J⟩,d⟩ J) J (D J) (D J))) fun i3=>?_;refine(show RG _ _ _ _ [_,_,_,_] _ from ?_);refine aS<|aK<|aj<|aK<|aK ?_;exact bP (tV r2.1 r2.2 (i2.h 0).1 (i2.h 0).2 ({r with bad:=(r.bad||(decide (r2.1<(0:Int))))}:aJ) h) (bj J)
  ·refine bD<|aj<|aj<|aK<|aK ?_;exact bP (tV z2 t l c r h) (bj J)

def Sq(b:Nat)(b1:Nat) r in1{R}(h:mt r in1=some R):bd aV 147 [K (M b 0)] [Z (rH al [(0,M b1 0)]) 146 b r,Z cJ 183 b1 in1] (fun i:OI=>ep ((rI .u8)) R) (fun i=>[Z (rH al [(0,M b1 0)]) 146 b r,Z cJ 183 b1 in1]):=by
 refine bd.of Tryz.func147 J J J fun w0 S0=>a8<|kb ((rI .u8))<|bp<|aP<|bT h fun r1 q_r1 h=>?_
 refine ic 15 [tc (K (M b 0)),tc (K (M b 0)),tc (K (M b 1)),tc (ep ((rI .u8)) r.all),tc (K (M b 0)),tc (K (M b 0)),tc (K (M b 1)),tc (ep ((rI .u8)) r.all),tc (nu r.all),tc (K (M b 0)),tc (K (M b 0)),tc (K (M b 0)),tc (K (M b1 0)),tc (bA r1),tc (bA (IntKind.i64.wrap ((r.all.length:Int)-r1)))] [false,false,false,false,false,false,false,false,false,false,false,false,false,true,false] [fun _=>[Z (rH al [(0,M b1 0)]) 146 b r,Z cJ 183 b1 in1],fun sg=>[Z cJ 183 b1 in1,Z (rH al [(0,M b1 0)]) 146 b r]] J mixed J J J J J
  ⟨⟨[⟨0,fun _=>K (M b 0),none⟩],_,0,1,J,⟨(fun _=>J),d⟩,J,J,J,J,J,fun _ sg _ _=>ac J (m1 J)⟩,
  ⟨⟨[⟨3,fun _=>K (M b 0),some 0⟩],_,0,1,J,⟨(fun _=>J),d⟩,J,J,J,J,J,fun _ sg _ _=>ac J (aD (D J))⟩,
  ⟨⟨[⟨4,fun _=>K (M b 0),some 1⟩],_,0,1,J,⟨(fun _=>J),d⟩,J,J,J,J,J,fun _ sg _ _=>ac J (oz 1 JO J J J)⟩,
  ⟨⟨[⟨5,fun _=>K (M b 1),some 2⟩],_,0,1,J,⟨(fun _=>J),d⟩,J,J,J,J,J,AM (fun sg=>ac J (aE (r:=rH al [(0,M b1 0)]) (x:=r) ny J J (dZ rL) (.head _) (D J))) (mC (fun sg=>ac J (aE (r:=rH al [(0,M b1 0)]) (x:=r) ny J J (dZ rL) (.tail _ (.head _)) (D J))))⟩,
  ⟨⟨[⟨0,fun _=>K (M b 0),none⟩],_,0,1,J,⟨(fun _=>J),d⟩,J,J,J,J,J,fun _ sg _ _=>ac J (m1 J)⟩,
  ⟨⟨[⟨7,fun _=>K (M b 0),some 4⟩],_,0,1,J,⟨(fun _=>J),d⟩,J,J,J,J,J,fun _ sg _ _=>ac J (aD (D J))⟩,
  ⟨⟨[⟨8,fun _=>K (M b 0),some 5⟩],_,0,1,J,⟨(fun _=>J),d⟩,J,J,J,J,J,fun _ sg _ _=>ac J (oz 1 JO J J J)⟩,
  ⟨⟨[⟨9,fun _=>K (M b 1),some 6⟩],_,0,1,J,⟨(fun _=>J),d⟩,J,J,J,J,J,AM (fun sg=>ac J (aE (r:=rH al [(0,M b1 0)]) (x:=r) ny J J (dZ rL) (.head _) (D J))) (mC (fun sg=>ac J (aE (r:=rH al [(0,M b1 0)]) (x:=r) ny J J (dZ rL) (.tail _ (.head _)) (D J))))⟩,
  ⟨⟨[⟨10,fun _=>tD Fq r.all,some 7⟩],_,0,1,J,⟨(fun _=>J),d⟩,J,J,J,J,J,fun _ sg _ _=>ac J (QK gZ J)⟩,
  ⟨⟨[⟨0,fun _=>K (M b 0),none⟩],_,0,0,J,⟨(fun _=>J),d⟩,J,J,J,J,J,fun _ sg _ _=>ac J (m1 J)⟩,
  ⟨⟨[⟨12,fun _=>K (M b 0),some 9⟩],_,0,0,J,⟨(fun _=>J),d⟩,J,J,J,J,J,fun _ sg _ _=>ac J (aD (D J))⟩,
  ⟨⟨[⟨13,fun _=>K (M b 0),some 10⟩],_,0,0,J,⟨(fun _=>J),d⟩,J,J,J,J,J,fun _ sg _ _=>ac J (oz 0 rQ J J J)⟩,
  ⟨⟨[⟨14,fun _=>K (M b 0),some 11⟩],_,0,0,J,⟨(fun _=>J),d⟩,J,J,J,J,J,mC (fun sg=>ac J (dv nX J (.head _) (D J)))⟩,
  ⟨⟨[⟨15,fun _=>K (M b1 0),some 12⟩],_,J,⟨(fun _=>J),d⟩,J,J,J,fun sg=>cm J (EffOK.fr1 (au (xs:=[.tmp 15]) (ts:=[K (M b1 0)]) [Z cJ 183 b1 in1] _ J GV (BN _ _ q_r1) ⟨(D J),d⟩ (fun _=>J)))⟩,
  ⟨⟨[⟨11,fun _=>tD bH (r.all.length:Int),some 8⟩,⟨16,fun _=>tD bH r1,some 13⟩],_,1,1,J,⟨(fun _=>J),(fun _=>J),d⟩,J,J,J,J,J,fun _ sg _ _=>ac J (ii (D J) (D J))⟩,
  d⟩⟩⟩⟩⟩⟩⟩⟩⟩⟩⟩⟩⟩⟩⟩ (fun sg=>?_)
 refine(show RG _ _ _ _ [_,_] _ from ?_);exact bT h fun y q_y h=>s (Ic gZ rk J (D J) (D J) q_y)<|bk J<|aj<|so h▸bB J j8 J J (fun _ _ h=>h)

end Go.Proofs.YtdohlidddcgfjaaGreat

