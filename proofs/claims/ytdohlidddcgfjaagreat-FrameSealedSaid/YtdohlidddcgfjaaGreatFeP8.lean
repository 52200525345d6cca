/- bO of this claim: P8. -/
import Derived.Test.YtdohlidddcgfjaaGreatFeT
import Derived.Test.YtdohlidddcgfjaaGreatFeP7
set_option linter.all false
namespace Go.Proofs.YtdohlidddcgfjaaGreat
open Go
set_option maxRecDepth 100000

def Qc m{R}(h:ml m=some R):dV a8 29 [tD fQ m] (gA R):=by
 refine fb Tryz.func29 J<|be<|fv J<|bL<|bt<|be<|Q (b9 (show aI _ _ _ ((kU a8 Hr oR T4))from(PO ZZ fun x y h=>U6 _ h)))<|bt<|ay J<|bI Dh zz bW J<|bK h fun r q_r h=>Q (kX (args:=OC) (res:=y0) (f:=T4) (x:=((m.From):Int)) (D J) q_r ⟨(D J),d⟩)<|aQ J<|bK h fun t q_t h=>ai J (dd J)<|ai J (cq Dg zy J J)<|ai J (ck bW J J) ?_
 obtain⟨r1,h1t,h0t⟩:=og q_t
 have q_r1g:=fun W=>(h1t W).1
 refine ai J (fun V=>kX (args:=OC) (res:=y0) (f:=T4) (x:=((m.To):Int)) (bJ J V) (q_r1g V) ⟨(bJ J V),d⟩)<|Q (cR (D J) (fun W=>(bJ J W)) (fun W=>(h1t W).2) h0t)<|aQ J<|ai J (cq AE wx J J)<|ai J (ck bW J J)<|ai J (fun V=>ie (bJ J V) hI)<|cU J<|aQ J<|ai J (cq AE wx J J)<|ai J (ck bW J J)<|ai J (fun V=>gy (bJ J V) hI)<|cU J<|aQ J<|bK h fun t1 q_t1 h=>ai J (fun V=>Cf iZ J J) ?_
 obtain⟨r2,h1t1,h0t1⟩:=og q_t1
 have q_r2g:=fun W=>(h1t1 W).1
 refine ai J (fun V=>dx ZY (U5 _ (q_r2g V)) ⟨(bJ J V),d⟩)<|Q (cR (D J) (fun W=>(bJ J W)) (fun W=>(h1t1 W).2) h0t1)<|aQ J<|bK h fun t2 q_t2 h=>ai J (fun V=>Cf iZ J J) ?_
 obtain⟨r3,h1t2,h0t2⟩:=og q_t2
 have q_r3g:=fun W=>(h1t2 W).1
 exact ai J (fun V=>dx ZX (U4 _ (q_r3g V)) ⟨(bJ J V),d⟩)<|Q (cR (D J) (fun W=>(bJ J W)) (fun W=>(h1t2 W).2) h0t2)<|bk J<|so h▸aW J J

def qc(b:Nat)(ix:OI) w1 l{R}(h:bY w1 l=some R):bf a8 59 [K (M b 0),oo l] (eP b w1 ix) (fun _:OI=>tT []) (fun j=>eP b R j):=by
 refine bf.of Tryz.func59 J J J fun w0 S0=>?_;refine(show CG _ _ _ [Z (rH cQ [(0,au (ix.h 0).1 (ix.h 0).2 w1.bytes.length)]) 60 b w1,tip (rI .u8) 5 (ix.h 0).1 (ix.h 0).2 w1.bytes] _ from ?_);refine ay J<|cM fc J<|Q (ca hI)<|bt<|aC<|bD (k:=6) J fun hN=>b7 ?_;refine aZ (mJ (bx:=fun ls i ob l1 c=>(l.drop i=ls)/\ft ls ob=some R) (Of:=fun _ i ob l1 c=>[Z (rH cQ [(0,au l1 c ob.bytes.length)]) 60 b ob,tip (rI .u8) 5 l1 c ob.bytes]) (Gf:=fun _ i ob l1 c=>[(0,K (M b 0)),(6,oo l),(7,oA l),(8,bw (i:Int))]) (fun i ob l1 c h=>?_) (fun e tl ih i ob l1 c h=>?_) l 0 w1 (ix.h 0).1 (ix.h 0).2 ⟨J,h⟩) (bq J)
 ·obtain⟨X,h⟩:=h
  exact fY X J<|af<|af<|so h▸ep J (p9 [(l1,c)]) J J
 ·obtain⟨X,h⟩:=h
  refine fX X J<|aS<|aC<|be<|gq fc bW J (fa X)<|aX J<|av<|aQ J<|aQ J<|Q (aA (D J))<|aT 0 nL J ?_;refine Q (mE oS J (.head _) (.tail _ (.head _)) (D J))<|aQ J<|Q (eW kI tw (D J))<|Q (ba (r:=(rI .u8)) (ys:=[(IntKind.u8.wrap e)]) (xs:=[.tmp 18]) hM rZ J J J J J ⟨(D J),d⟩)<|cH<|bK h fun l2 q_l2 h=>vg rZ J J J J hM J J (D J) (D J) q_l2 fun l3 c1=>Q (aA (D J))<|aT 0 nL J<|eE (EffOK.fr1 (lp (hs' :=[(0,au l3 c1 l2.length)]) (u:=au l3 c1 l2.length) oS J J mi J ⟨.inl ⟨J,J,J⟩,d⟩ (D J) (rb (D J)) (BA (D J)))) fun i1=>?_;refine(show RG _ _ _ _ [_,_] _ from ?_);refine aU<|eu X hN J ?_;exact bm (aZ (ih (i+1) ({ob with bytes:=l2}:aP) l3 c1 ⟨ej X,h⟩) (bq J))

def PY(b:Nat)(ix:OI) w1 l{R}(h:jB w1 l=some R):bf a8 90 [K (M b 0),oo l] (eP b w1 ix) (fun _:OI=>tT []) (fun j=>eP b R j):=by
 refine bf.of Tryz.func90 J J J fun w0 S0=>?_;refine(show CG _ _ _ [Z (rH cQ [(0,au (ix.h 0).1 (ix.h 0).2 w1.bytes.length)]) 60 b w1,tip (rI .u8) 5 (ix.h 0).1 (ix.h 0).2 w1.bytes] _ from ?_);refine ay J<|aQ J<|cM fc J<|Q (ba (r:=bN) (ys:=[(l.length:Int)]) (xs:=[.tmp 6]) fc bW J J J J J ⟨(D J),d⟩)<|bK h fun r q_r h=>aK (EffOK.fr1 (EffOK.fr1 (an (xs:=[.tmp 4,.tmp 7]) (ts:=[K (M b 0),oo ([(l.length:Int)])]) (eP b w1 ix) _ J vE (qc b ix w1 _ q_r) ⟨(D J),(D J),d⟩ (fun _=>J)))) J fun i=>?_;refine(show RG _ _ _ _ [_,_] ((8,tT [])::_)from ?_);refine bt<|av<|aQ J<|aQ J<|bK h fun r1 q_r1 h=>aK (EffOK.fr1 (EffOK.fr1 (an (xs:=[.tmp 9,.tmp 10]) (ts:=[K (M b 0),oo l]) (eP b r i) _ J vE (qc b i r _ q_r1) ⟨(D J),(D J),d⟩ (fun _=>J)))) J fun i1=>?_;refine(show RG _ _ _ _ [_,_] ((11,tT [])::_)from ?_);exact aU<|af<|af<|so h▸ep J i1 J J

def Tx(b:Nat)(ix:OI) w1 n{R}(h:eM w1 n=some R):bf a8 84 [K (M b 0),tD bl n] (eP b w1 ix) (fun _:OI=>tT []) (fun j=>eP b R j):=by
 refine bf.of Tryz.func84 J J J fun w0 S0=>?_;refine(show CG _ _ _ [Z (rH cQ [(0,au (ix.h 0).1 (ix.h 0).2 w1.bytes.length)]) 60 b w1,tip (rI .u8) 5 (ix.h 0).1 (ix.h 0).2 w1.bytes] _ from ?_);refine be<|fv J<|bt<|ay J<|bI uZ nH bW J<|Q (ba (r:=bN) (ys:=[n.Table]) (xs:=[.tmp 6]) fc bW J J J J J ⟨(D J),d⟩)<|bK h fun r q_r h=>aK (EffOK.fr1 (EffOK.fr1 (an (xs:=[.tmp 4,.tmp 7]) (ts:=[K (M b 0),oo ([n.Table])]) (eP b w1 ix) _ J vE (qc b ix w1 _ q_r) ⟨(D J),(D J),d⟩ (fun _=>J)))) J fun i=>?_;refine(show RG _ _ _ _ [_,_] ((8,tT [])::_)from ?_);refine bt<|av<|aQ J<|bI qw jJ c0 J<|bK h fun r1 q_r1 h=>aK (EffOK.fr1 (EffOK.fr1 (an (xs:=[.tmp 9,.tmp 11]) (ts:=[K (M b 0),oo n.Kinds]) (eP b r i) _ J VO (PY b i r _ q_r1) ⟨(D J),(D J),d⟩ (fun _=>J)))) J fun i1=>?_;refine(show RG _ _ _ _ [_,_] ((12,tT [])::_)from ?_);exact aU<|af<|af<|so h▸ep J i1 J J

def Mn(b:Nat)(ix:OI) w1 is1{R}(h:gj w1 is1=some R):bf a8 61 [K (M b 0),gA is1] (eP b w1 ix) (fun _:OI=>tT []) (fun j=>eP b R j):=by
 refine bf.of Tryz.func61 J J J fun w0 S0=>?_;refine(show CG _ _ _ [Z (rH cQ [(0,au (ix.h 0).1 (ix.h 0).2 w1.bytes.length)]) 60 b w1,tip (rI .u8) 5 (ix.h 0).1 (ix.h 0).2 w1.bytes] _ from ?_);refine be<|cJ<|bt ?_;refine iy (bx:=fun n=>kZ w1 n=some R) (Of:=fun n=>[Z (rH cQ [(0,au (ix.h 0).1 (ix.h 0).2 w1.bytes.length)]) 60 b w1,tip (rI .u8) 5 (ix.h 0).1 (ix.h 0).2 w1.bytes]) (Gf:=fun n=>[(0,K (M b 0)),(4,bw n)]) (fun n h=>?_) (fun tV=>?_)
 ·skip
  refine av<|aQ J<|aQ J<|Q (ba (r:=bN) (ys:=[n]) (xs:=[.tmp 7]) fc bW J J J J J ⟨(D J),d⟩)<|bK h fun r q_r h=>aK (EffOK.fr1 (EffOK.fr1 (an (xs:=[.tmp 6,.tmp 8]) (ts:=[K (M b 0),oo ([n])]) (eP b w1 ix) _ J vE (qc b ix w1 _ q_r) ⟨(D J),(D J),d⟩ (fun _=>J)))) J fun i=>?_;refine(show RG _ _ _ _ [_,_] ((9,tT [])::_)from ?_);exact aU<|af<|af<|so h▸ep J i J J
 ·skip
  refine ay J<|di h J (fun h=>?_) (fun h=>?_)
  ·refine av<|cJ<|aU ?_;exact bU (tV (1:Int) h) (bq J)
  ·refine bG ?_;exact bU (tV (0:Int) h) (bq J)

def Qj b p bytes{R}(h:qq b p bytes=some R):iX a8 199 [eg ((rI .u8)) b,tD FQ p,bw bytes] false (rI .u8) 5 R:=by
 refine iX.of Tryz.func199 J J J fun w0 S0=>be<|cP false (rI .u8) 5<|Q (b9 vC)<|bt<|ay J<|cM hM J<|aQ J<|Q (fq (D J) (D J))<|bK h fun mk q_mk h=>aK (AI (r:=(rI .u8)) (x:=(0:Int)) rZ J J J hM (fun _=>J) hI (D J) q_mk) J fun i=>aX J<|ay J<|aQ J<|bK h fun out q_out h=>c9 rZ J J J J hM J J (D J) (D J) q_out fun l c=>?_;refine aX J<|bp<|aQ J<|Q (ca hI)<|bt<|aC<|b7<|gc<|rE ?_;refine aZ (BX (bx:=fun n out1 l1 c1 x=>jO p bytes n out1 x=some R) (Of:=fun out1 l1 c1 x=>[de (rI .u8) 5 l1 c1 out1]) (Gf:=fun out1 l1 c1 x=>[(1,tD FQ p),(2,bw bytes),(7,qP l1 c1 out1),(17,bw bytes),(18,bw x)]) (fun out1 l1 c1 x h=>nn h) (fun n ih out1 l1 c1 x h=>?_) eQ out l c (0:Int) h) (bq J);refine ea<|be<|nk J<|bt<|aS<|iY h J (fun h=>?_) (fun h=>?_)
 ·refine jv<|aS<|aC<|ay J<|aX J<|av<|aQ J<|aQ J<|Q (eW EC yQ (D J))<|aQ J<|aQ J<|Q (ic (D J) (D J))<|Q (CV hI (D J))<|Q (ic (D J) hI)<|bK h fun u q_u h=>Q (Ar (D J) (D J) (C3 q_u))<|Q (eW yQ tw (D J))<|Q (ba (r:=(rI .u8)) (ys:=[(IntKind.u8.wrap (((IntKind.u64.wrap p)).fdiv (2^(min (Int.toNat (IntKind.i64.wrap ((IntKind.i64.wrap ((8:Int)*(IntKind.i64.wrap (bytes-x))))-(8:Int)))) IntKind.u64.bits))))]) (xs:=[.tmp 30]) hM rZ J J J J J ⟨(D J),d⟩)<|bK h fun out2 q_out2 h=>?_;refine c9 rZ J J J J hM J J (D J) (D J) q_out2 fun l2 c2=>gB J<|aU<|aE<|aG<|av<|Q (fq (D J) hI)<|aQ J<|aU ?_;exact bm (aZ (ih out2 l2 c2 (IntKind.i64.wrap (x+(1:Int))) h) (bq J))
 ·exact dq<|aq<|aq<|bR<|aG<|ay J<|bk J<|so h▸mA J J
def IX b p{R}(h:pi b p=some R):iX a8 159 [eg ((rI .u8)) b,tD FQ p] false (rI .u8) 5 R:=by
 exact iX.of Tryz.func159 J J J fun w0 S0=>be<|cP false (rI .u8) 5<|Q (b9 vC)<|bt<|ay J<|aQ J<|sN h X7 (Qj _ _ _) (ez J) fun r h l c=>bk J<|so h▸mA J J
def Qn b p bytes{R}(h:qo b p bytes=some R):iX a8 157 [eg ((rI .u8)) b,tD lx p,bw bytes] false (rI .u8) 5 R:=by
 refine iX.of Tryz.func157 J J J fun w0 S0=>be<|cP false (rI .u8) 5<|Q (b9 vC)<|bt<|ay J<|cM hM J<|aQ J<|Q (fq (D J) (D J))<|bK h fun mk q_mk h=>aK (AI (r:=(rI .u8)) (x:=(0:Int)) rZ J J J hM (fun _=>J) hI (D J) q_mk) J fun i=>aX J<|ay J<|aQ J<|bK h fun out q_out h=>c9 rZ J J J J hM J J (D J) (D J) q_out fun l c=>?_;refine aX J<|bp<|aQ J<|Q (ca hI)<|bt<|aC<|b7<|gc<|rE ?_;refine aZ (BX (bx:=fun n out1 l1 c1 x=>dZ p bytes n out1 x=some R) (Of:=fun out1 l1 c1 x=>[de (rI .u8) 5 l1 c1 out1]) (Gf:=fun out1 l1 c1 x=>[(1,tD lx p),(2,bw bytes),(7,qP l1 c1 out1),(17,bw bytes),(18,bw x)]) (fun out1 l1 c1 x h=>nn h) (fun n ih out1 l1 c1 x h=>?_) eQ out l c (0:Int) h) (bq J);refine ea<|be<|nk J<|bt<|aS<|iY h J (fun h=>?_) (fun h=>?_)
 ·refine jv<|aS<|aC<|ay J<|aX J<|av<|aQ J<|aQ J<|aQ J<|aQ J<|Q (ic (D J) (D J))<|Q (CV hI (D J))<|Q (ic (D J) hI)<|bK h fun u q_u h=>Q (Ar (D J) (D J) (C3 q_u))<|Q (eW yQ tw (D J))<|Q (ba (r:=(rI .u8)) (ys:=[(IntKind.u8.wrap ((p).fdiv (2^(min (Int.toNat (IntKind.i64.wrap ((IntKind.i64.wrap ((8:Int)*(IntKind.i64.wrap (bytes-x))))-(8:Int)))) IntKind.u64.bits))))]) (xs:=[.tmp 29]) hM rZ J J J J J ⟨(D J),d⟩)<|bK h fun out2 q_out2 h=>c9 rZ J J J J hM J J (D J) (D J) q_out2 fun l2 c2=>?_;refine gB J<|aU<|aE<|aG<|av<|Q (fq (D J) hI)<|aQ J<|aU ?_;exact bm (aZ (ih out2 l2 c2 (IntKind.i64.wrap (x+(1:Int))) h) (bq J))
 ·exact dq<|aq<|aq<|bR<|aG<|ay J<|bk J<|so h▸mA J J
def wE b p{R}(h:jr b p=some R):iX a8 116 [eg ((rI .u8)) b,tD lx p] false (rI .u8) 5 R:=by
 exact iX.of Tryz.func116 J J J fun w0 S0=>be<|cP false (rI .u8) 5<|Q (b9 vC)<|bt<|ay J<|aQ J<|sN h Yx (Qn _ _ _) (ez J) fun r h l c=>bk J<|so h▸mA J J
def Mt b p{R}(h:jr b p=some R):dV a8 116 [eg ((rI .u8)) b,tD lx p] (eg ((rI .u8)) R):=(wE _ _ h).spec

def Ms v{R}(h:q5 v=some R):dV a8 177 [tD bd v] (tT [eg ((rI .u8)) R.1,bw R.2]):=by
 refine fb Tryz.func177 J<|be<|fv J<|iJ ((rI .u8))<|cJ<|bt<|bp<|fP db J<|iI h zL (ry _) (ez J) fun r h=>aX J<|ay J<|oj J<|di h J (fun h=>?_) (fun h=>?_)
 ·exact ay J<|iJ ((rI .u8))<|bk J<|aF<|so h▸eZ J J J
 ·refine jv<|be<|bI pT nF bW J<|Q (eW kI tw (D J))<|pq (r:=(rI .u8)) (ys:=[(IntKind.u8.wrap v.Kind)]) (xs:=[.tmp 13]) hM rZ J J J J J ⟨(D J),d⟩ J fun l c=>aX J<|bp<|bI pT nF bW J<|bt<|aC<|be<|bP J<|gB J<|aU ?_;refine aG<|iY h J (fun h=>?_) (fun h=>?_)
  ·refine av<|aQ J<|bI qN qr OX J<|Q (eW B7 tw (D J))<|Q (ba (r:=(rI .u8)) (ys:=[(IntKind.u8.wrap v.N)]) (xs:=[.tmp 22]) hM rZ J J J J J ⟨(D J),d⟩)<|bK h fun b q_b h=>c9 rZ J J J J hM J J (D J) (D J) q_b fun l1 c1=>gB J<|aU<|aE<|aG<|ay J<|gB J<|gm<|df<|bv 2 J<|bv 24 J<|bv 5 J ?_;exact bv 54 J<|eF 2 J<|aY<|so h▸eZ J J J
  ·refine be<|bP J<|aX J<|iY h J (fun h=>?_) (fun h=>?_)
   ·refine av<|aQ J<|bI qN qr OX J<|Q (eW B7 yQ (D J))<|qB<|md 14 J<|md 5 J<|md 27 J<|sN h Fy (wE _ _) ⟨(rb (D J)),(D J),d⟩ fun r1 h l2 c2=>gB J<|aU<|aE<|aG<|ay J<|gB J<|gm<|df ?_;exact bv 2 J<|bv 5 J<|bv 31 J<|bv 54 J<|eF 2 J<|aY<|aY<|so h▸eZ J J J
   ·refine be<|bP J<|aX J<|iY h J (fun h=>?_) (fun h=>?_)
    ·refine bK h fun l3 q_l3 h=>?_
     refine iv 9 [tc (K (au l c (([(IntKind.u8.wrap v.Kind)]).length))),tc (c8 rS v.S),tc (tD rS v.S),tc (oA v.S),tc (tD (rI .u8) (IntKind.u8.wrap (v.S.length:Int))),tc (eg ((rI .u8)) ([(IntKind.u8.wrap (v.S.length:Int))])),([6],fun h3=>K (au ((h3.getD 0 jj).h 0).1 ((h3.getD 0 jj).h 0).2 l3.length)),tc (c8 rS v.S),tc (tD rS v.S)] [false,false,false,false,false,false,true,false,false] [fun _=>[de (rI .u8) 5 l c ([(IntKind.u8.wrap v.Kind)])],fun sg=>[de (rI .u8) 5 ((sg 6).h 0).1 ((sg 6).h 0).2 l3]] J mixed J J J J J
      ⟨⟨[⟨5,fun _=>K (au l c (([(IntKind.u8.wrap v.Kind)]).length)),none⟩],_,0,0,J,⟨(fun _=>J),d⟩,J,J,J,J,J,fun _ sg _ _=>ac J (lz J)⟩,
      ⟨⟨[⟨1,fun _=>c8 bd v,none⟩],_,0,0,J,⟨(fun _=>J),d⟩,J,J,J,J,J,fun _ sg _ _=>ac J (vF zF uV J J)⟩,
      ⟨⟨[⟨35,fun _=>c8 rS v.S,some 1⟩],_,0,0,J,⟨(fun _=>J),d⟩,J,J,J,J,J,fun _ sg _ _=>ac J (Cf V0 J J)⟩,
      ⟨⟨[⟨36,fun _=>tD rS v.S,some 2⟩],_,0,0,J,⟨(fun _=>J),d⟩,J,J,J,J,J,fun _ sg _ _=>ac J (LY Cb (D J))⟩,
      ⟨⟨[⟨37,fun _=>tD bN (v.S.length:Int),some 3⟩],_,0,0,J,⟨(fun _=>J),d⟩,J,J,J,J,J,fun _ sg _ _=>ac J (eW kI tw (D J))⟩,
      ⟨⟨[⟨38,fun _=>tD (rI .u8) (IntKind.u8.wrap (v.S.length:Int)),some 4⟩],_,0,0,J,⟨(fun _=>J),d⟩,J,J,J,J,J,fun _ sg _ _=>ac J (ba (r:=(rI .u8)) (ys:=[(IntKind.u8.wrap (v.S.length:Int))]) (xs:=[.tmp 38]) hM rZ J J J J J ⟨(D J),d⟩)⟩,
      ⟨⟨[⟨34,fun _=>K (au l c (([(IntKind.u8.wrap v.Kind)]).length)),some 0⟩,⟨39,fun _=>tD Hq ([(IntKind.u8.wrap (v.S.length:Int))]),some 5⟩],_,J,⟨(fun _=>J),(fun _=>J),d⟩,J,J,J,fun sg=>bT J (tk rZ J J J J hM J (D J) (D J) q_l3)⟩,
      ⟨⟨[⟨1,fun _=>c8 bd v,none⟩],_,0,1,J,⟨(fun _=>J),d⟩,J,J,J,J,J,fun _ sg _ _=>ac J (vF zF uV J J)⟩,
      ⟨⟨[⟨41,fun _=>c8 rS v.S,some 7⟩],_,0,1,J,⟨(fun _=>J),d⟩,J,J,J,J,J,fun _ sg _ _=>ac J (Cf V0 J J)⟩,
      d⟩⟩⟩⟩⟩⟩⟩⟩⟩ (fun sg=>?_)
     refine(show RG _ _ _ _ [_] _ from ?_);exact bK h fun b1 q_b1 h=>Lk rZ J J hM Cb J (D J) (D J) q_b1 fun l4 c3=>gB J<|aU<|aE<|aG<|ay J<|gB J<|gm<|df<|bv 2 J<|bv 43 J<|bv 5 J<|bv 54 J<|eF 2 J<|aY<|so h▸eZ J J J
    ·refine be<|bP J<|aX J<|iY h J (fun h=>?_) (fun h=>?_)
     ·refine Oj<|DP 14 J<|DP 5 J<|bK h fun r2 q_r2 h=>bK h fun r3 q_r3 h=>?_
      refine kE (ts:=[_,_,_,_,_,_,_,_,_]) mixed J J
       ⟨hT J J,
       ⟨JA 1 J J (vF qN qr J J),
       ⟨tY 1 OX J J,
       ⟨fW 48 2 J J (eW B7 yQ (D J)),
       ⟨j9 46 0 49 3 J J J (dx Fy (Mt _ _ q_r2) ⟨(rb (D J)),(D J),d⟩),
       ⟨JA 1 J J (vF GC C7 J J),
       ⟨tY 5 oE J J,
       ⟨j9 50 4 52 6 J J J (dx Fy (Mt _ _ q_r3) ⟨(D J),(D J),d⟩),
       ⟨fW 53 7 J J (Js J),
       d⟩⟩⟩⟩⟩⟩⟩⟩⟩ ?_
      exact aE<|aG<|ay J<|gB J<|gm<|aY<|so h▸eZ J J J
     ·exact bG<|aE<|aG<|ay J<|gB J<|gm<|df<|bv 2 J<|bv 14 J<|bv 5 J<|bv 54 J<|eF 2 J<|aY<|so h▸eZ J J J

def GK(b:Nat)(ix:OI) w1 e{R}(h:ij w1 e=some R):bf a8 130 [K (M b 0),tD cY e] (eP b w1 ix) (fun _:OI=>tT []) (fun j=>eP b R j):=by
 refine bf.of Tryz.func130 J J J fun w0 S0=>?_;refine(show CG _ _ _ [Z (rH cQ [(0,au (ix.h 0).1 (ix.h 0).2 w1.bytes.length)]) 60 b w1,tip (rI .u8) 5 (ix.h 0).1 (ix.h 0).2 w1.bytes] _ from ?_);refine be<|fv J<|bt<|aS<|bK h fun r q_r h=>?_
 refine iv 10 [tc (K (M b 0)),tc (K (M b 0)),tc (K (M b 0)),tc (K (M b 0)),tc (tO (rI .u8) (ix.h 0).1 (ix.h 0).2 w1.bytes),tc (c8 (gE bC) e.Nodes),tc (eg (bC) e.Nodes),tc (oA e.Nodes),tc (tD FQ (IntKind.u16.wrap (e.Nodes.length:Int))),([9],fun h3=>tO (rI .u8) ((h3.getD 0 jj).h 0).1 ((h3.getD 0 jj).h 0).2 r)] [false,false,false,false,false,false,false,false,false,true] [fun _=>[Z (rH cQ [(0,au (ix.h 0).1 (ix.h 0).2 w1.bytes.length)]) 60 b w1,tip (rI .u8) 5 (ix.h 0).1 (ix.h 0).2 w1.bytes],fun sg=>[tip (rI .u8) 5 ((sg 9).h 0).1 ((sg 9).h 0).2 r,Z (rH cQ [(0,au (ix.h 0).1 (ix.h 0).2 w1.bytes.length)]) 60 b w1,tip (rI .u8) 5 (ix.h 0).1 (ix.h 0).2 w1.bytes]] J mixed J J J J J
  ⟨⟨[⟨0,fun _=>K (M b 0),none⟩],_,0,1,J,⟨(fun _=>J),d⟩,J,J,J,J,J,fun _ sg _ _=>ac J (lz J)⟩,
  ⟨⟨[⟨0,fun _=>K (M b 0),none⟩],_,0,0,J,⟨(fun _=>J),d⟩,J,J,J,J,J,fun _ sg _ _=>ac J (lz J)⟩,
  ⟨⟨[⟨9,fun _=>K (M b 0),some 1⟩],_,0,0,J,⟨(fun _=>J),d⟩,J,J,J,J,J,fun _ sg _ _=>ac J (aA (D J))⟩,
  ⟨⟨[⟨10,fun _=>K (M b 0),some 2⟩],_,0,0,J,⟨(fun _=>J),d⟩,J,J,J,J,J,fun _ sg _ _=>ac J (nR 0 nL J J J)⟩,
  ⟨⟨[⟨11,fun _=>K (M b 0),some 3⟩],_,0,0,J,⟨(fun _=>J),d⟩,J,J,J,J,J,mW (fun sg=>ac J (mE oS J (.head _) (.tail _ (.head _)) (D J)))⟩,
  ⟨⟨[⟨3,fun _=>c8 cY e,none⟩],_,0,0,J,⟨(fun _=>J),d⟩,J,J,J,J,J,fun _ sg _ _=>ac J (vF ss lW J J)⟩,
  ⟨⟨[⟨13,fun _=>c8 (gE bC) e.Nodes,some 5⟩],_,0,0,J,⟨(fun _=>J),d⟩,J,J,J,J,J,fun _ sg _ _=>ac J (Cf Cn J J)⟩,
  ⟨⟨[⟨14,fun _=>tD (gE bC) e.Nodes,some 6⟩],_,0,0,J,⟨(fun _=>J),d⟩,J,J,J,J,J,fun _ sg _ _=>ac J (T0 tU J)⟩,
  ⟨⟨[⟨15,fun _=>tD bN (e.Nodes.length:Int),some 7⟩],_,0,0,J,⟨(fun _=>J),d⟩,J,J,J,J,J,fun _ sg _ _=>ac J (eW kI EC (D J))⟩,
  ⟨⟨[⟨12,fun _=>tO (rI .u8) (ix.h 0).1 (ix.h 0).2 w1.bytes,some 4⟩,⟨16,fun _=>tD FQ (IntKind.u16.wrap (e.Nodes.length:Int)),some 8⟩],_,J,⟨(fun _=>J),(fun _=>J),d⟩,J,J,J,fun sg=>bT J (um (xs:=[.tmp 12,.tmp 16]) (ts:=[tD Hq w1.bytes,tD FQ (IntKind.u16.wrap (e.Nodes.length:Int))]) TO (IX _ _ q_r) ⟨(rb (D J)),(D J),d⟩)⟩,
  d⟩⟩⟩⟩⟩⟩⟩⟩⟩⟩ (fun sg=>?_)
 refine(show RG _ _ _ _ [_,_,_] _ from ?_);refine Q (aA (D J))<|aT 0 nL J<|eE (EffOK.fr1 (lp (hs' :=[(0,au ((sg 9).h 0).1 ((sg 9).h 0).2 r.length)]) (u:=au ((sg 9).h 0).1 ((sg 9).h 0).2 r.length) oS J J mi J ⟨.inl ⟨J,J,J⟩,d⟩ (D J) (rb (D J)) (BA (D J)))) fun i=>?_;refine(show RG _ _ _ _ [_,_,_] _ from ?_);refine cB<|zV<|bt<|be<|bI ss lW Cn J<|cM tU J<|Q (ca hI)<|bt<|aC<|bD (k:=21) J fun hN=>b7 ?_;refine aZ (mJ (bx:=fun ls i1 ob l c=>(e.Nodes.drop i1=ls)/\dI ls ob=some R) (Of:=fun _ i1 ob l c=>[Z (rH cQ [(0,au l c ob.bytes.length)]) 60 b ob,tip (rI .u8) 5 l c ob.bytes]) (Gf:=fun _ i1 ob l c=>[(0,K (M b 0)),(21,eg (bC) e.Nodes),(22,oA e.Nodes),(23,bw (i1:Int))]) (fun i1 ob l c h=>?_) (fun e1 tl ih i1 ob l c h=>?_) e.Nodes 0 ({w1 with bytes:=r}:aP) ((sg 9).h 0).1 ((sg 9).h 0).2 ⟨J,h⟩) (bq J)
 ·obtain⟨X,h⟩:=h
  exact fY X J<|af<|af<|so h▸ep J (p9 [(l,c)]) J J
 ·obtain⟨X,h⟩:=h
  refine fX X J<|aS<|aC<|be<|gq tU jL J (fa X)<|bz jL rW J fun b1=>bu jL ax J<|bh 5 J<|bt<|ay J ?_;refine bI lF fT bW J<|Q (ba (r:=bN) (ys:=[e1.Tag]) (xs:=[.tmp 29]) fc bW J J J J J ⟨(D J),d⟩)<|bK h fun r1 q_r1 h=>aK (EffOK.fr1 (EffOK.fr1 (an (xs:=[.tmp 27,.tmp 30]) (ts:=[K (M b 0),oo ([e1.Tag])]) (eP b ob (p9 [(l,c)])) _ J vE (qc b (p9 [(l,c)]) ob _ q_r1) ⟨(D J),(D J),d⟩ (fun _=>J)))) J fun i2=>?_;refine(show RG _ _ _ _ [_,_] ((31,tT [])::_)from ?_);refine bt<|be<|bI lF fT bW J<|bt<|aC<|be<|bP J<|aX J<|iY h J (fun h=>?_) (fun h=>?_)
  ·refine av<|aQ J<|bI te nJ bW J<|Q (ba (r:=bN) (ys:=[e1.Col]) (xs:=[.tmp 38]) fc bW J J J J J ⟨(D J),d⟩)<|bK h fun r2 q_r2 h=>aK (EffOK.fr1 (EffOK.fr1 (an (xs:=[.tmp 36,.tmp 39]) (ts:=[K (M b 0),oo ([e1.Col])]) (eP b r1 i2) _ J vE (qc b i2 r1 _ q_r2) ⟨(D J),(D J),d⟩ (fun _=>J)))) J fun i3=>?_;refine(show RG _ _ _ _ [_,_] ((40,tT [])::_)from ?_);refine aU<|aE<|eu X hN J ?_;exact bm (aZ (ih (i1+1) r2 (i3.h 0).1 (i3.h 0).2 ⟨ej X,h⟩) (bq J))
  ·refine be<|bP J<|aX J<|iY h J (fun h=>?_) (fun h=>?_)
   ·refine be<|bI xf qv db J<|iI h TM (Ms _) (ez J) fun r3 h=>aQ J<|eh J J<|eh J J<|gB J<|aX J<|av<|aQ J<|aQ J<|Q (aA (D J))<|aT 0 nL J<|Q (mE oS J (.head _) (.tail _ (.head _)) (D J))<|aQ J<|cH<|bK h fun l1 q_l1 h=>vg rZ J J J J hM J J (D J) (D J) q_l1 fun l2 c1=>Q (aA (D J)) ?_;refine aT 0 nL J<|eE (EffOK.fr1 (lp (hs' :=[(0,au l2 c1 l1.length)]) (u:=au l2 c1 l1.length) oS J J mi J ⟨.inl ⟨J,J,J⟩,d⟩ (D J) (rb (D J)) (BA (D J)))) fun i4=>?_;refine(show RG _ _ _ _ [_,_] _ from ?_);refine aU<|aE<|eu X hN J ?_;exact bm (aZ (ih (i1+1) ({r1 with bytes:=l1}:aP) l2 c1 ⟨ej X,h⟩) (bq J))
   ·refine bG<|aE<|eu X hN J ?_;exact bm (aZ (ih (i1+1) r1 (i2.h 0).1 (i2.h 0).2 ⟨ej X,h⟩) (bq J))

def Xa(b:Nat)(ix:OI) w1 n{R}(h:ii w1 n=some R):bf a8 85 [K (M b 0),tD bl n] (eP b w1 ix) (fun _:OI=>tT []) (fun j=>eP b R j):=by
 refine bf.of Tryz.func85 J J J fun w0 S0=>?_;refine(show CG _ _ _ [Z (rH cQ [(0,au (ix.h 0).1 (ix.h 0).2 w1.bytes.length)]) 60 b w1,tip (rI .u8) 5 (ix.h 0).1 (ix.h 0).2 w1.bytes] _ from ?_);refine be<|fv J<|bt<|ay J<|bI Dc uW yM J<|bK h fun r q_r h=>aK (EffOK.fr1 (EffOK.fr1 (an (xs:=[.tmp 4,.tmp 6]) (ts:=[K (M b 0),gA n.Left]) (eP b w1 ix) _ J SW (Mn b ix w1 _ q_r) ⟨(D J),(D J),d⟩ (fun _=>J)))) J fun i=>?_;refine(show RG _ _ _ _ [_,_] ((7,tT [])::_)from ?_);refine bt<|av<|aQ J<|bI uY oY lL J<|bK h fun r1 q_r1 h=>aK (EffOK.fr1 (EffOK.fr1 (an (xs:=[.tmp 8,.tmp 10]) (ts:=[K (M b 0),tD cY n.Cond]) (eP b r i) _ J MD (GK b i r _ q_r1) ⟨(D J),(D J),d⟩ (fun _=>J)))) J fun i1=>?_;refine(show RG _ _ _ _ [_,_] ((11,tT [])::_)from ?_);exact aU<|af<|af<|so h▸ep J i1 J J

def WZ(b:Nat)(ix:OI) w1 n{R}(h:gh w1 n=some R):bf a8 86 [K (M b 0),tD bl n] (eP b w1 ix) (fun _:OI=>tT []) (fun j=>eP b R j):=by
 refine bf.of Tryz.func86 J J J fun w0 S0=>?_;refine(show CG _ _ _ [Z (rH cQ [(0,au (ix.h 0).1 (ix.h 0).2 w1.bytes.length)]) 60 b w1,tip (rI .u8) 5 (ix.h 0).1 (ix.h 0).2 w1.bytes] _ from ?_);refine be<|fv J<|bt<|av<|aQ J<|bI uY oY lL J<|bK h fun r q_r h=>aK (EffOK.fr1 (EffOK.fr1 (an (xs:=[.tmp 4,.tmp 6]) (ts:=[K (M b 0),tD cY n.Cond]) (eP b w1 ix) _ J MD (GK b ix w1 _ q_r) ⟨(D J),(D J),d⟩ (fun _=>J)))) J fun i=>?_;refine(show RG _ _ _ _ [_,_] ((7,tT [])::_)from ?_);exact aU<|af<|af<|so h▸ep J i J J

def PZ(b:Nat)(ix:OI) w1 n{R}(h:dQ w1 n=some R):bf a8 87 [K (M b 0),tD bl n] (eP b w1 ix) (fun _:OI=>tT []) (fun j=>eP b R j):=by
 refine bf.of Tryz.func87 J J J fun w0 S0=>?_;refine(show CG _ _ _ [Z (rH cQ [(0,au (ix.h 0).1 (ix.h 0).2 w1.bytes.length)]) 60 b w1,tip (rI .u8) 5 (ix.h 0).1 (ix.h 0).2 w1.bytes] _ from ?_);refine be<|fv J<|bt<|ay J<|bI pS iW c0 J<|bK h fun r q_r h=>aK (EffOK.fr1 (EffOK.fr1 (an (xs:=[.tmp 6,.tmp 8]) (ts:=[K (M b 0),oo n.Keys]) (eP b w1 ix) _ J VO (PY b ix w1 _ q_r) ⟨(D J),(D J),d⟩ (fun _=>J)))) J fun i=>?_;refine(show RG _ _ _ _ [_,_] ((9,tT [])::_)from ?_);refine bt<|ay J<|bI ox gL xq J<|cM q9 J<|Q (ba (r:=bN) (ys:=[(n.Aggs.length:Int)]) (xs:=[.tmp 13]) fc bW J J J J J ⟨(D J),d⟩)<|bK h fun r1 q_r1 h=>aK (EffOK.fr1 (EffOK.fr1 (an (xs:=[.tmp 10,.tmp 14]) (ts:=[K (M b 0),oo ([(n.Aggs.length:Int)])]) (eP b r i) _ J vE (qc b i r _ q_r1) ⟨(D J),(D J),d⟩ (fun _=>J)))) J fun i1=>?_;refine(show RG _ _ _ _ [_,_] ((15,tT [])::_)from ?_);refine bt<|be<|bI ox gL xq J<|cM q9 J<|Q (ca hI)<|bt<|aC<|bD (k:=17) J fun hN=>b7 ?_;refine aZ (mJ (bx:=fun ls i2 ob l c=>(n.Aggs.drop i2=ls)/\go ls ob=some R) (Of:=fun _ i2 ob l c=>[Z (rH cQ [(0,au l c ob.bytes.length)]) 60 b ob,tip (rI .u8) 5 l c ob.bytes]) (Gf:=fun _ i2 ob l c=>[(0,K (M b 0)),(17,eg (fK) n.Aggs),(18,oA n.Aggs),(19,bw (i2:Int))]) (fun i2 ob l c h=>?_) (fun e tl ih i2 ob l c h=>?_) n.Aggs 0 r1 (i1.h 0).1 (i1.h 0).2 ⟨J,h⟩) (bq J)
 ·obtain⟨X,h⟩:=h
  exact fY X J<|af<|af<|so h▸ep J (p9 [(l,c)]) J J
 ·obtain⟨X,h⟩:=h
  refine fX X J<|aS<|aC<|be<|gq q9 kT J (fa X)<|bz kT uC J fun b1=>bu kT ax J<|bh 5 J<|bt<|ay J ?_;refine bI oe lX bW J<|Q (ba (r:=bN) (ys:=[e.Tag]) (xs:=[.tmp 25]) fc bW J J J J J ⟨(D J),d⟩)<|bK h fun r2 q_r2 h=>aK (EffOK.fr1 (EffOK.fr1 (an (xs:=[.tmp 23,.tmp 26]) (ts:=[K (M b 0),oo ([e.Tag])]) (eP b ob (p9 [(l,c)])) _ J vE (qc b (p9 [(l,c)]) ob _ q_r2) ⟨(D J),(D J),d⟩ (fun _=>J)))) J fun i3=>?_;refine(show RG _ _ _ _ [_,_] ((27,tT [])::_)from ?_);refine bt<|av<|aQ J<|bI tg q0 lL J<|bK h fun r3 q_r3 h=>aK (EffOK.fr1 (EffOK.fr1 (an (xs:=[.tmp 28,.tmp 30]) (ts:=[K (M b 0),tD cY e.Arg]) (eP b r2 i3) _ J MD (GK b i3 r2 _ q_r3) ⟨(D J),(D J),d⟩ (fun _=>J)))) J fun i4=>?_;refine(show RG _ _ _ _ [_,_] ((31,tT [])::_)from ?_);refine aU<|eu X hN J ?_;exact bm (aZ (ih (i2+1) r3 (i4.h 0).1 (i4.h 0).2 ⟨ej X,h⟩) (bq J))

def WY(b:Nat)(ix:OI) w1 n{R}(h:fR w1 n=some R):bf a8 88 [K (M b 0),tD bl n] (eP b w1 ix) (fun _:OI=>tT []) (fun j=>eP b R j):=by
 refine bf.of Tryz.func88 J J J fun w0 S0=>?_;refine(show CG _ _ _ [Z (rH cQ [(0,au (ix.h 0).1 (ix.h 0).2 w1.bytes.length)]) 60 b w1,tip (rI .u8) 5 (ix.h 0).1 (ix.h 0).2 w1.bytes] _ from ?_);refine be<|fv J<|bt<|ay J<|bI yx qu JN J<|cM Ac J<|Q (ba (r:=bN) (ys:=[(n.Items.length:Int)]) (xs:=[.tmp 9]) fc bW J J J J J ⟨(D J),d⟩)<|bK h fun r q_r h=>aK (EffOK.fr1 (EffOK.fr1 (an (xs:=[.tmp 6,.tmp 10]) (ts:=[K (M b 0),oo ([(n.Items.length:Int)])]) (eP b w1 ix) _ J vE (qc b ix w1 _ q_r) ⟨(D J),(D J),d⟩ (fun _=>J)))) J fun i=>?_;refine(show RG _ _ _ _ [_,_] ((11,tT [])::_)from ?_);refine bt<|be<|bI yx qu JN J<|cM Ac J<|Q (ca hI)<|bt<|aC<|bD (k:=13) J fun hN=>b7 ?_;refine aZ (mJ (bx:=fun ls i1 ob l c=>(n.Items.drop i1=ls)/\fN ls ob=some R) (Of:=fun _ i1 ob l c=>[Z (rH cQ [(0,au l c ob.bytes.length)]) 60 b ob,tip (rI .u8) 5 l c ob.bytes]) (Gf:=fun _ i1 ob l c=>[(0,K (M b 0)),(13,eg (cY) n.Items),(14,oA n.Items),(15,bw (i1:Int))]) (fun i1 ob l c h=>?_) (fun e tl ih i1 ob l c h=>?_) n.Items 0 r (i.h 0).1 (i.h 0).2 ⟨J,h⟩) (bq J)
 ·obtain⟨X,h⟩:=h
  exact fY X J<|af<|af<|so h▸ep J (p9 [(l,c)]) J J
 ·obtain⟨X,h⟩:=h
  refine fX X J<|aS<|aC<|be<|gq Ac lL J (fa X)<|bz lL sM J fun b1=>bu lL ax J<|bh 5 J<|bt<|av<|aQ J<|fP lL J ?_;refine bK h fun r1 q_r1 h=>aK (EffOK.fr1 (EffOK.fr1 (an (xs:=[.tmp 19,.tmp 20]) (ts:=[K (M b 0),tD cY e]) (eP b ob (p9 [(l,c)])) _ J MD (GK b (p9 [(l,c)]) ob _ q_r1) ⟨(D J),(D J),d⟩ (fun _=>J)))) J fun i2=>?_;refine(show RG _ _ _ _ [_,_] ((21,tT [])::_)from ?_);refine aU<|eu X hN J ?_;exact bm (aZ (ih (i1+1) r1 (i2.h 0).1 (i2.h 0).2 ⟨ej X,h⟩) (bq J))

end Go.Proofs.YtdohlidddcgfjaaGreat

