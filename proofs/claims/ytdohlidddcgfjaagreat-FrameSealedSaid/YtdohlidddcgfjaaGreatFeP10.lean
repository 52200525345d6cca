/- bO of this claim: P10. -/
import Derived.Test.YtdohlidddcgfjaaGreatFeT
import Derived.Test.YtdohlidddcgfjaaGreatFeP9
set_option linter.all false
namespace Go.Proofs.YtdohlidddcgfjaaGreat
open Go
set_option maxRecDepth 100000

def Xb(b:Nat)(ix:OI) w1 p{R}(h:lC w1 p=some R):bf a8 60 [K (M b 0),tD cu p] (eP b w1 ix) (fun _:OI=>tT []) (fun j=>eP b R j):=by
 refine bf.of Tryz.func60 J J J fun w0 S0=>?_;refine(show CG _ _ _ [Z (rH cQ [(0,au (ix.h 0).1 (ix.h 0).2 w1.bytes.length)]) 60 b w1,tip (rI .u8) 5 (ix.h 0).1 (ix.h 0).2 w1.bytes] _ from ?_);refine be<|fv J<|bt<|aS<|bK h fun r q_r h=>bK h fun r1 q_r1 h=>?_
 refine iv 11 [tc (K (M b 0)),tc (K (M b 0)),tc (K (M b 0)),tc (K (M b 0)),tc (tO (rI .u8) (ix.h 0).1 (ix.h 0).2 w1.bytes),tc (c8 nh p.Session),tc (tD nh p.Session),tc (eg ((rI .u8)) r),tc (c8 lx p.Seq),tc (tD lx p.Seq),([10],fun h3=>tO (rI .u8) ((h3.getD 0 jj).h 0).1 ((h3.getD 0 jj).h 0).2 r1)] [false,false,false,false,false,false,false,false,false,false,true] [fun _=>[Z (rH cQ [(0,au (ix.h 0).1 (ix.h 0).2 w1.bytes.length)]) 60 b w1,tip (rI .u8) 5 (ix.h 0).1 (ix.h 0).2 w1.bytes],fun sg=>[tip (rI .u8) 5 ((sg 10).h 0).1 ((sg 10).h 0).2 r1,Z (rH cQ [(0,au (ix.h 0).1 (ix.h 0).2 w1.bytes.length)]) 60 b w1,tip (rI .u8) 5 (ix.h 0).1 (ix.h 0).2 w1.bytes]] J mixed J J J J J
  ⟨⟨[⟨0,fun _=>K (M b 0),none⟩],_,0,1,J,⟨(fun _=>J),d⟩,J,J,J,J,J,fun _ sg _ _=>ac J (lz J)⟩,
  ⟨⟨[⟨0,fun _=>K (M b 0),none⟩],_,0,0,J,⟨(fun _=>J),d⟩,J,J,J,J,J,fun _ sg _ _=>ac J (lz J)⟩,
  ⟨⟨[⟨8,fun _=>K (M b 0),some 1⟩],_,0,0,J,⟨(fun _=>J),d⟩,J,J,J,J,J,fun _ sg _ _=>ac J (aA (D J))⟩,
  ⟨⟨[⟨9,fun _=>K (M b 0),some 2⟩],_,0,0,J,⟨(fun _=>J),d⟩,J,J,J,J,J,fun _ sg _ _=>ac J (nR 0 nL J J J)⟩,
  ⟨⟨[⟨10,fun _=>K (M b 0),some 3⟩],_,0,0,J,⟨(fun _=>J),d⟩,J,J,J,J,J,mW (fun sg=>ac J (mE oS J (.head _) (.tail _ (.head _)) (D J)))⟩,
  ⟨⟨[⟨3,fun _=>c8 cu p,none⟩],_,0,0,J,⟨(fun _=>J),d⟩,J,J,J,J,J,fun _ sg _ _=>ac J (vF Gz ta J J)⟩,
  ⟨⟨[⟨12,fun _=>c8 nh p.Session,some 5⟩],_,0,0,J,⟨(fun _=>J),d⟩,J,J,J,J,J,fun _ sg _ _=>ac J (Cf p7 J J)⟩,
  ⟨⟨[⟨11,fun _=>tO (rI .u8) (ix.h 0).1 (ix.h 0).2 w1.bytes,some 4⟩,⟨13,fun _=>tD nh p.Session,some 6⟩],_,0,0,J,⟨(fun _=>J),(fun _=>J),d⟩,J,J,J,J,J,fun _ sg _ _=>ac J (dx TR (SN _ _ q_r) ⟨(rb (D J)),(D J),d⟩)⟩,
  ⟨⟨[⟨3,fun _=>c8 cu p,none⟩],_,0,0,J,⟨(fun _=>J),d⟩,J,J,J,J,J,fun _ sg _ _=>ac J (vF yA nG J J)⟩,
  ⟨⟨[⟨15,fun _=>c8 lx p.Seq,some 8⟩],_,0,0,J,⟨(fun _=>J),d⟩,J,J,J,J,J,fun _ sg _ _=>ac J (Cf oE J J)⟩,
  ⟨⟨[⟨14,fun _=>tD Hq r,some 7⟩,⟨16,fun _=>tD lx p.Seq,some 9⟩],_,J,⟨(fun _=>J),(fun _=>J),d⟩,J,J,J,fun sg=>bT J (um (xs:=[.tmp 14,.tmp 16]) (ts:=[tD Hq r,tD lx p.Seq]) Fy (wE _ _ q_r1) ⟨(D J),(D J),d⟩)⟩,
  d⟩⟩⟩⟩⟩⟩⟩⟩⟩⟩⟩ (fun sg=>?_)
 refine(show RG _ _ _ _ [_,_,_] _ from ?_);refine Q (aA (D J))<|aT 0 nL J<|eE (EffOK.fr1 (lp (hs' :=[(0,au ((sg 10).h 0).1 ((sg 10).h 0).2 r1.length)]) (u:=au ((sg 10).h 0).1 ((sg 10).h 0).2 r1.length) oS J J mi J ⟨.inl ⟨J,J,J⟩,d⟩ (D J) (rb (D J)) (BA (D J)))) fun i=>?_;refine(show RG _ _ _ _ [_,_,_] _ from ?_);refine cB<|zV<|bt<|bp<|bI Di qY bW J<|bP J<|di h J (fun h=>?_) (fun h=>?_)
 ·refine aS<|bK h fun r2 q_r2 h=>?_
  refine iv 8 [tc (K (M b 0)),tc (K (M b 0)),tc (K (M b 0)),tc (K (M b 0)),tc (tO (rI .u8) ((sg 10).h 0).1 ((sg 10).h 0).2 r1),tc (c8 lx p.Limit),tc (tD lx p.Limit),([7],fun h3=>tO (rI .u8) ((h3.getD 0 jj).h 0).1 ((h3.getD 0 jj).h 0).2 r2)] [false,false,false,false,false,false,false,true] [fun _=>[Z (rH cQ [(0,au ((sg 10).h 0).1 ((sg 10).h 0).2 r1.length)]) 60 b ({w1 with bytes:=r1}:aP),tip (rI .u8) 5 ((sg 10).h 0).1 ((sg 10).h 0).2 r1],fun sg1=>[tip (rI .u8) 5 ((sg1 7).h 0).1 ((sg1 7).h 0).2 r2,Z (rH cQ [(0,au ((sg 10).h 0).1 ((sg 10).h 0).2 r1.length)]) 60 b ({w1 with bytes:=r1}:aP),tip (rI .u8) 5 ((sg 10).h 0).1 ((sg 10).h 0).2 r1]] J mixed J J J J J
   ⟨⟨[⟨0,fun _=>K (M b 0),none⟩],_,0,1,J,⟨(fun _=>J),d⟩,J,J,J,J,J,fun _ sg1 _ _=>ac J (lz J)⟩,
   ⟨⟨[⟨0,fun _=>K (M b 0),none⟩],_,0,0,J,⟨(fun _=>J),d⟩,J,J,J,J,J,fun _ sg1 _ _=>ac J (lz J)⟩,
   ⟨⟨[⟨24,fun _=>K (M b 0),some 1⟩],_,0,0,J,⟨(fun _=>J),d⟩,J,J,J,J,J,fun _ sg1 _ _=>ac J (aA (D J))⟩,
   ⟨⟨[⟨25,fun _=>K (M b 0),some 2⟩],_,0,0,J,⟨(fun _=>J),d⟩,J,J,J,J,J,fun _ sg1 _ _=>ac J (nR 0 nL J J J)⟩,
   ⟨⟨[⟨26,fun _=>K (M b 0),some 3⟩],_,0,0,J,⟨(fun _=>J),d⟩,J,J,J,J,J,mW (fun sg1=>ac J (mE oS J (.head _) (.tail _ (.head _)) (D J)))⟩,
   ⟨⟨[⟨3,fun _=>c8 cu p,none⟩],_,0,0,J,⟨(fun _=>J),d⟩,J,J,J,J,J,fun _ sg1 _ _=>ac J (vF yz pn J J)⟩,
   ⟨⟨[⟨28,fun _=>c8 lx p.Limit,some 5⟩],_,0,0,J,⟨(fun _=>J),d⟩,J,J,J,J,J,fun _ sg1 _ _=>ac J (Cf oE J J)⟩,
   ⟨⟨[⟨27,fun _=>tO (rI .u8) ((sg 10).h 0).1 ((sg 10).h 0).2 r1,some 4⟩,⟨29,fun _=>tD lx p.Limit,some 6⟩],_,J,⟨(fun _=>J),(fun _=>J),d⟩,J,J,J,fun sg1=>bT J (um (xs:=[.tmp 27,.tmp 29]) (ts:=[tD Hq r1,tD lx p.Limit]) Fy (wE _ _ q_r2) ⟨(rb (D J)),(D J),d⟩)⟩,
   d⟩⟩⟩⟩⟩⟩⟩⟩ (fun sg1=>?_)
  refine(show RG _ _ _ _ [_,_,_] _ from ?_);refine Q (aA (D J))<|aT 0 nL J<|eE (EffOK.fr1 (lp (hs' :=[(0,au ((sg1 7).h 0).1 ((sg1 7).h 0).2 r2.length)]) (u:=au ((sg1 7).h 0).1 ((sg1 7).h 0).2 r2.length) oS J J mi J ⟨.inl ⟨J,J,J⟩,d⟩ (D J) (rb (D J)) (BA (D J)))) fun i1=>?_;refine(show RG _ _ _ _ [_,_,_] _ from ?_);exact cB<|zV<|co<|aF<|af<|af<|so h▸p6 J (sg1 7) J J
 ·refine jv<|ay J<|tX oy fm J<|bI u4 nK yM J<|bK h fun r3 q_r3 h=>aK (EffOK.fr1 (EffOK.fr1 (an (xs:=[.tmp 33,.tmp 36]) (ts:=[K (M b 0),gA p.Batch.End]) (eP b ({w1 with bytes:=r1}:aP) (sg 10)) _ J SW (Mn b (sg 10) ({w1 with bytes:=r1}:aP) _ q_r3) ⟨(D J),(D J),d⟩ (fun _=>J)))) J fun i2=>?_;refine(show RG _ _ _ _ [_,_] ((37,tT [])::_)from ?_);refine bt<|bp<|tX oy fm J<|bI u4 nK yM J<|di h J (fun h=>?_) (fun h=>?_)
  ·refine aS<|bK h fun r4 q_r4 h=>?_
   refine iv 9 [tc (K (M b 0)),tc (K (M b 0)),tc (K (M b 0)),tc (K (M b 0)),tc (tO (rI .u8) (i2.h 0).1 (i2.h 0).2 r3.bytes),tc (c8 ki p.Batch),tc (c8 lx p.Batch.Count),tc (tD lx p.Batch.Count),([8],fun h3=>tO (rI .u8) ((h3.getD 0 jj).h 0).1 ((h3.getD 0 jj).h 0).2 r4)] [false,false,false,false,false,false,false,false,true] [fun _=>[Z (rH cQ [(0,au (i2.h 0).1 (i2.h 0).2 r3.bytes.length)]) 60 b r3,tip (rI .u8) 5 (i2.h 0).1 (i2.h 0).2 r3.bytes],fun sg2=>[tip (rI .u8) 5 ((sg2 8).h 0).1 ((sg2 8).h 0).2 r4,Z (rH cQ [(0,au (i2.h 0).1 (i2.h 0).2 r3.bytes.length)]) 60 b r3,tip (rI .u8) 5 (i2.h 0).1 (i2.h 0).2 r3.bytes]] J mixed J J J J J
    ⟨⟨[⟨0,fun _=>K (M b 0),none⟩],_,0,1,J,⟨(fun _=>J),d⟩,J,J,J,J,J,fun _ sg2 _ _=>ac J (lz J)⟩,
    ⟨⟨[⟨0,fun _=>K (M b 0),none⟩],_,0,0,J,⟨(fun _=>J),d⟩,J,J,J,J,J,fun _ sg2 _ _=>ac J (lz J)⟩,
    ⟨⟨[⟨42,fun _=>K (M b 0),some 1⟩],_,0,0,J,⟨(fun _=>J),d⟩,J,J,J,J,J,fun _ sg2 _ _=>ac J (aA (D J))⟩,
    ⟨⟨[⟨43,fun _=>K (M b 0),some 2⟩],_,0,0,J,⟨(fun _=>J),d⟩,J,J,J,J,J,fun _ sg2 _ _=>ac J (nR 0 nL J J J)⟩,
    ⟨⟨[⟨44,fun _=>K (M b 0),some 3⟩],_,0,0,J,⟨(fun _=>J),d⟩,J,J,J,J,J,mW (fun sg2=>ac J (mE oS J (.head _) (.tail _ (.head _)) (D J)))⟩,
    ⟨⟨[⟨3,fun _=>c8 cu p,none⟩],_,0,0,J,⟨(fun _=>J),d⟩,J,J,J,J,J,fun _ sg2 _ _=>ac J (vF oy fm J J)⟩,
    ⟨⟨[⟨46,fun _=>c8 ki p.Batch,some 5⟩],_,0,0,J,⟨(fun _=>J),d⟩,J,J,J,J,J,fun _ sg2 _ _=>ac J (vF wC oZ J J)⟩,
    ⟨⟨[⟨47,fun _=>c8 lx p.Batch.Count,some 6⟩],_,0,0,J,⟨(fun _=>J),d⟩,J,J,J,J,J,fun _ sg2 _ _=>ac J (Cf oE J J)⟩,
    ⟨⟨[⟨45,fun _=>tO (rI .u8) (i2.h 0).1 (i2.h 0).2 r3.bytes,some 4⟩,⟨48,fun _=>tD lx p.Batch.Count,some 7⟩],_,J,⟨(fun _=>J),(fun _=>J),d⟩,J,J,J,fun sg2=>bT J (um (xs:=[.tmp 45,.tmp 48]) (ts:=[tD Hq r3.bytes,tD lx p.Batch.Count]) Fy (wE _ _ q_r4) ⟨(rb (D J)),(D J),d⟩)⟩,
    d⟩⟩⟩⟩⟩⟩⟩⟩⟩ (fun sg2=>?_)
   refine(show RG _ _ _ _ [_,_,_] _ from ?_);refine Q (aA (D J))<|aT 0 nL J<|eE (EffOK.fr1 (lp (hs' :=[(0,au ((sg2 8).h 0).1 ((sg2 8).h 0).2 r4.length)]) (u:=au ((sg2 8).h 0).1 ((sg2 8).h 0).2 r4.length) oS J J mi J ⟨.inl ⟨J,J,J⟩,d⟩ (D J) (rb (D J)) (BA (D J)))) fun i3=>?_;refine(show RG _ _ _ _ [_,_,_] _ from ?_);exact cB<|zV<|co<|aF<|af<|af<|so h▸p6 J (sg2 8) J J
  ·refine jv<|be<|tX oy fm J<|bI wD o0 HF J<|iI h YK (SM _) (ez J) fun r5 h=>aQ J<|eh J J<|eh J J<|eh J J<|gB J<|gB J<|aX J<|av<|aQ J<|aQ J<|Q (aA (D J))<|aT 0 nL J<|Q (mE oS J (.head _) (.tail _ (.head _)) (D J)) ?_;refine aQ J<|cH<|bK h fun l q_l h=>vg rZ J J J J hM J J (D J) (D J) q_l fun l1 c=>Q (aA (D J))<|aT 0 nL J<|eE (EffOK.fr1 (lp (hs' :=[(0,au l1 c l.length)]) (u:=au l1 c l.length) oS J J mi J ⟨.inl ⟨J,J,J⟩,d⟩ (D J) (rb (D J)) (BA (D J)))) fun i4=>?_;refine(show RG _ _ _ _ [_,_] _ from ?_);exact aU<|af<|af<|so h▸ep J (p9 [(l1,c)]) J J

def Xh(b:Nat)(ix:OI) w1 m{R}(h:gY w1 m=some R):bf a8 30 [K (M b 0),tD fQ m] (eP b w1 ix) (fun _:OI=>tT []) (fun j=>eP b R j):=by
 refine bf.of Tryz.func30 J J J fun w0 S0=>?_;refine(show CG _ _ _ [Z (rH cQ [(0,au (ix.h 0).1 (ix.h 0).2 w1.bytes.length)]) 60 b w1,tip (rI .u8) 5 (ix.h 0).1 (ix.h 0).2 w1.bytes] _ from ?_);refine be<|fv J<|bt<|ay J<|bI u3 qZ bW J<|bI Dh zz bW J<|bI Dg zy bW J<|bI AE wx bW J<|Q (ba (r:=bN) (ys:=[m.Kind,m.From,m.To,m.Epoch]) (xs:=[.tmp 6,.tmp 8,.tmp 10,.tmp 12]) fc bW J J J J J ⟨(D J),(D J),(D J),(D J),d⟩)<|bK h fun r q_r h=>aK (EffOK.fr1 (EffOK.fr1 (an (xs:=[.tmp 4,.tmp 13]) (ts:=[K (M b 0),oo ([m.Kind,m.From,m.To,m.Epoch])]) (eP b w1 ix) _ J vE (qc b ix w1 _ q_r) ⟨(D J),(D J),d⟩ (fun _=>J)))) J fun i=>?_;refine(show RG _ _ _ _ [_,_] ((14,tT [])::_)from ?_);refine bt<|be<|bI u3 qZ bW J<|bt<|aC<|be<|bP J<|aX J<|iY h J (fun h=>?_) (fun h=>?_)
 ·refine ay J<|bI yy wv bW J<|Q (ba (r:=bN) (ys:=[m.Sites]) (xs:=[.tmp 21]) fc bW J J J J J ⟨(D J),d⟩)<|bK h fun r1 q_r1 h=>aK (EffOK.fr1 (EffOK.fr1 (an (xs:=[.tmp 19,.tmp 22]) (ts:=[K (M b 0),oo ([m.Sites])]) (eP b r i) _ J vE (qc b i r _ q_r1) ⟨(D J),(D J),d⟩ (fun _=>J)))) J fun i1=>?_;refine(show RG _ _ _ _ [_,_] ((23,tT [])::_)from ?_);refine bt<|av<|aQ J<|bI AD zx Co J<|bK h fun r2 q_r2 h=>aK (EffOK.fr1 (EffOK.fr1 (an (xs:=[.tmp 24,.tmp 26]) (ts:=[K (M b 0),tD m3 m.Plan]) (eP b r1 i1) _ J Z6 (Xg b i1 r1 _ q_r2) ⟨(D J),(D J),d⟩ (fun _=>J)))) J fun i2=>?_;refine(show RG _ _ _ _ [_,_] ((27,tT [])::_)from ?_);exact aU<|aE<|af<|af<|so h▸ep J i2 J J
 ·refine iy (bx:=fun x=>jA m r x=some R) (Of:=fun x=>[Z (rH cQ [(0,au (i.h 0).1 (i.h 0).2 r.bytes.length)]) 60 b r,tip (rI .u8) 5 (i.h 0).1 (i.h 0).2 r.bytes]) (Gf:=fun x=>[(0,K (M b 0)),(3,c8 fQ m),(16,bw m.Kind),(28,gA x)]) (fun x h=>?_) (fun tV=>?_)
  ·skip
   refine iY h J (fun h=>?_) (fun h=>?_)
   ·refine ay J<|bI wB ww bW J<|Q (ba (r:=bN) (ys:=[m.Frag]) (xs:=[.tmp 33]) fc bW J J J J J ⟨(D J),d⟩)<|bK h fun r3 q_r3 h=>aK (EffOK.fr1 (EffOK.fr1 (an (xs:=[.tmp 31,.tmp 34]) (ts:=[K (M b 0),oo ([m.Frag])]) (eP b r i) _ J vE (qc b i r _ q_r3) ⟨(D J),(D J),d⟩ (fun _=>J)))) J fun i3=>?_;refine(show RG _ _ _ _ [_,_] ((35,tT [])::_)from ?_);refine bt<|av<|aQ J<|bI wA wu rn J<|bK h fun r4 q_r4 h=>aK (EffOK.fr1 (EffOK.fr1 (an (xs:=[.tmp 36,.tmp 38]) (ts:=[K (M b 0),tD cu m.Packet]) (eP b r3 i3) _ J ZW (Xb b i3 r3 _ q_r4) ⟨(D J),(D J),d⟩ (fun _=>J)))) J fun i4=>?_;refine(show RG _ _ _ _ [_,_] ((39,tT [])::_)from ?_);exact aU<|aE<|af<|af<|so h▸ep J i4 J J
   ·refine be<|bP J<|aX J<|iY h J (fun h=>?_) (fun h=>?_)
    ·refine av<|aQ J<|bI wz wt xZ J<|bP J<|bK h fun r5 q_r5 h=>aK (EffOK.fr1 (EffOK.fr1 (an (xs:=[.tmp 42,.tmp 45]) (ts:=[K (M b 0),gA (m.Err==(300:Int))]) (eP b r i) _ J SW (Mn b i r _ q_r5) ⟨(D J),(D J),d⟩ (fun _=>J)))) J fun i5=>?_;refine(show RG _ _ _ _ [_,_] ((46,tT [])::_)from ?_);exact aU<|aE<|af<|af<|so h▸ep J i5 J J
    ·exact bG<|aE<|af<|af<|so h▸ep J i J J
  ·skip
   refine be<|bP J<|aX J<|iY h J (fun h=>?_) (fun h=>?_)
   ·refine bG ?_;exact bU (tV (m.Kind==(3:Int)) h) (bq J)
   ·refine av<|bP J<|gB J<|aU ?_;exact bU (tV (m.Kind==(4:Int)) h) (bq J)

def Qq m{R}(h:oc m=some R):dV a8 12 [tD fQ m] (tT [eg ((rI .u8)) R.1,bw R.2]):=by
 refine fb Tryz.func12 J<|be<|fv J<|iJ ((rI .u8))<|cJ<|bt<|bp<|fP iZ J<|iI h Xt (Qc _) (ez J) fun r h=>Q (gg (D J))<|di h J (fun h=>?_) (fun h=>?_)
 ·exact be<|iJ ((rI .u8))<|gm<|aF<|so h▸eZ J J J
 ·refine jv<|be<|Q (ec (r:=rH cQ [(0,.slice none 0 0)]) (y:=(⟨[]⟩:aP)) Zl Zx (zH MP ⟨J,d⟩) (J))<|tp (D J) J fun b=>cP true (rI .u8) 5 ?_;refine(show RG _ _ _ _ [_,_] _ from ?_);refine aX J<|ay J<|fP iZ J<|bK h fun r1 q_r1 h=>aK (EffOK.fr1 (an (xs:=[.tmp 11,.tmp 12]) (ts:=[K (M b 0),tD fQ m]) (eP b (⟨[]⟩:aP) (p9 [(none,0)])) _ J aaa (Xh b (p9 [(none,0)]) (⟨[]⟩:aP) _ q_r1) ⟨(D J),(D J),d⟩ (fun _=>J))) J fun i=>?_;refine(show RG _ _ _ _ [_,_] ((13,tT [])::_)from ?_);refine bt<|ay J<|Q (aA (D J))<|aT 0 nL J<|Q (mE oS J (.head _) (.tail _ (.head _)) (D J))<|sN h VT (GD _) ⟨(rb (D J)),d⟩ fun r2 h l c=>aX J<|bp<|aQ J<|Q (iD hM (.head _) (D J))<|Q (jW (D J) hI)<|di h J (fun h=>?_) (fun h=>?_)
  ·exact be<|iJ ((rI .u8))<|gm<|aF<|aY<|aY<|aY<|so h▸eZ J J J
  ·exact jv<|ay J<|gB J<|gm<|df<|bv 2 J<|bv 18 J<|bv 5 J<|bv 19 J<|bv 22 J<|eF 2 J<|aY<|aY<|aY<|so h▸eZ J J J

def KL a1 b{R}(h:lc a1 b=some R):dV a8 17 [eg ((rI .u8)) a1,eg ((rI .u8)) b] (gA R):=by
 exact fb Tryz.func17 J<|be<|bL<|bt<|ay J<|Q (As hM tw Cb rZ J (D J))<|aQ J<|Q (As hM tw Cb rZ J (D J))<|Q (RM (D J) (D J))<|bk J<|so h▸aW J J

def VI{R}(h:wn=some R):dV a8 10 [] (gA R):=by
 refine fb Tryz.func10 J<|be<|bL<|bt<|be<|Q (ec (y:=(⟨(2:Int),(2:Int),(0:Int),(3:Int),(0:Int),(0:Int),tW,qe,(0:Int)⟩:ci)) iZ IL py (⟨_,_,_,_,_,J,CF,J,hI,⟨_,_,_,_,_,J,CE,J,hI,⟨_,_,_,_,_,J,CD,J,hI,J⟩⟩⟩))<|iI h YI (Qq _) (ez J) fun r h=>aQ J<|eh J J<|eh J J<|gB J<|aX J<|ay J<|bP J<|aQ J<|ai J (dd J) ?_;refine ai J (m2 hM J)<|ai J (lr J)<|cU J<|aQ J<|bK h fun t q_t h=>ai J (dd J) ?_
 obtain⟨y,h1t,h0t⟩:=og q_t
 have q_yg:=fun W=>(h1t W).1
 refine ai J (fun V=>Ko hM rZ J (bJ J V) hI (q_yg V))<|ai J (fun V=>ba (r:=(rI .u8)) (ys:=[(2:Int),(2:Int),(0:Int),(3:Int)]) (xs:=[.const (.int .u8 (2)),.const (.int .u8 (2)),.const (.int .u8 (0)),.const (.int .u8 (3))]) hM rZ J J J J J ⟨hI,hI,hI,hI,d⟩) ?_
 obtain⟨r1,h1t⟩:=og2 (fun W=>(h1t W).2)
 have q_r1g:=fun W=>(h1t W).1
 exact ai J (fun V=>dx VU (KL _ _ (q_r1g V)) ⟨(bJ J V),(bJ J V),d⟩)<|Q (cR (D J) (fun W=>(bJ J W)) (fun W=>(h1t W).2) h0t)<|bk J<|so h▸aW J J

end Go.Proofs.YtdohlidddcgfjaaGreat

