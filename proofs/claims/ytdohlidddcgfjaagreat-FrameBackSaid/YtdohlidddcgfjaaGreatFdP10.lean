/- bT of this claim: P10. -/
import Derived.Test.YtdohlidddcgfjaaGreatFdT
import Derived.Test.YtdohlidddcgfjaaGreatFdP9
set_option linter.all false
namespace Go.Proofs.YtdohlidddcgfjaaGreat
open Go
set_option maxRecDepth 100000

def aai(b:Nat)(ix:OI) w1 p{R}(h:mi w1 p=some R):bk aY 60 [Z (M b 0),tD cx p] (fg b w1 ix) (fun _:OI=>tT []) (fun j=>fg b R j):=by
 refine bk.of Tryz.func60 J J J fun w0 S0=>?_;refine(show CG _ _ _ [Q (rH cV [(0,au (ix.h 0).1 (ix.h 0).2 w1.bytes.length)]) 60 b w1,tip (rI .u8) 5 (ix.h 0).1 (ix.h 0).2 w1.bytes] _ from ?_);refine a8<|eZ J<|br<|aT<|bM h fun r q_r h=>bM h fun r1 q_r1 h=>?_
 refine iT 11 [tc (Z (M b 0)),tc (Z (M b 0)),tc (Z (M b 0)),tc (Z (M b 0)),tc (tO (rI .u8) (ix.h 0).1 (ix.h 0).2 w1.bytes),tc (df nT p.Session),tc (tD nT p.Session),tc (d8 ((rI .u8)) r),tc (df md p.Seq),tc (tD md p.Seq),([10],fun ae=>tO (rI .u8) ((ae.getD 0 jK).h 0).1 ((ae.getD 0 jK).h 0).2 r1)] [false,false,false,false,false,false,false,false,false,false,true] [fun _=>[Q (rH cV [(0,au (ix.h 0).1 (ix.h 0).2 w1.bytes.length)]) 60 b w1,tip (rI .u8) 5 (ix.h 0).1 (ix.h 0).2 w1.bytes],fun sg=>[tip (rI .u8) 5 ((sg 10).h 0).1 ((sg 10).h 0).2 r1,Q (rH cV [(0,au (ix.h 0).1 (ix.h 0).2 w1.bytes.length)]) 60 b w1,tip (rI .u8) 5 (ix.h 0).1 (ix.h 0).2 w1.bytes]] J mixed J J J J J
  ⟨⟨[⟨0,fun _=>Z (M b 0),none⟩],_,0,1,J,⟨(fun _=>J),aM⟩,J,J,J,J,J,fun _ sg _ _=>ac J (lQ J)⟩,
  ⟨⟨[⟨0,fun _=>Z (M b 0),none⟩],_,0,0,J,⟨(fun _=>J),aM⟩,J,J,J,J,J,fun _ sg _ _=>ac J (lQ J)⟩,
  ⟨⟨[⟨8,fun _=>Z (M b 0),some 1⟩],_,0,0,J,⟨(fun _=>J),aM⟩,J,J,J,J,J,fun _ sg _ _=>ac J (aC (D J))⟩,
  ⟨⟨[⟨9,fun _=>Z (M b 0),some 2⟩],_,0,0,J,⟨(fun _=>J),aM⟩,J,J,J,J,J,fun _ sg _ _=>ac J (oK 0 oF J J J)⟩,
  ⟨⟨[⟨10,fun _=>Z (M b 0),some 3⟩],_,0,0,J,⟨(fun _=>J),aM⟩,J,J,J,J,J,nD (fun sg=>ac J (na pO J (.head _) (.tail _ (.head _)) (D J)))⟩,
  ⟨⟨[⟨3,fun _=>df cx p,none⟩],_,0,0,J,⟨(fun _=>J),aM⟩,J,J,J,J,J,fun _ sg _ _=>ac J (w6 Ix ux J J)⟩,
  ⟨⟨[⟨12,fun _=>df nT p.Session,some 5⟩],_,0,0,J,⟨(fun _=>J),aM⟩,J,J,J,J,J,fun _ sg _ _=>ac J (BA qY J J)⟩,
  ⟨⟨[⟨11,fun _=>tO (rI .u8) (ix.h 0).1 (ix.h 0).2 w1.bytes,some 4⟩,⟨13,fun _=>tD nT p.Session,some 6⟩],_,0,0,J,⟨(fun _=>J),(fun _=>J),aM⟩,J,J,J,J,J,fun _ sg _ _=>ac J (db Wz (Vp _ _ q_r) ⟨(tX (D J)),(D J),aM⟩)⟩,
  ⟨⟨[⟨3,fun _=>df cx p,none⟩],_,0,0,J,⟨(fun _=>J),aM⟩,J,J,J,J,J,fun _ sg _ _=>ac J (w6 zX oy J J)⟩,
  ⟨⟨[⟨15,fun _=>df md p.Seq,some 8⟩],_,0,0,J,⟨(fun _=>J),aM⟩,J,J,J,J,J,fun _ sg _ _=>ac J (BA pt J J)⟩,
  ⟨⟨[⟨14,fun _=>tD Jl r,some 7⟩,⟨16,fun _=>tD md p.Seq,some 9⟩],_,J,⟨(fun _=>J),(fun _=>J),aM⟩,J,J,J,fun sg=>bY J (vu (xs:=[.tmp 14,.tmp 16]) (ts:=[tD Jl r,tD md p.Seq]) He (xY _ _ q_r1) ⟨(D J),(D J),aM⟩)⟩,
  aM⟩⟩⟩⟩⟩⟩⟩⟩⟩⟩⟩ (fun sg=>?_)
 refine(show RG _ _ _ _ [_,_,_] _ from ?_);refine s (aC (D J))<|aW 0 oF J<|eW (EffOK.fr1 (lY (hs' :=[(0,au ((sg 10).h 0).1 ((sg 10).h 0).2 r1.length)]) (u:=au ((sg 10).h 0).1 ((sg 10).h 0).2 r1.length) pO J J mS J ⟨.inl ⟨J,J,J⟩,aM⟩ (D J) (tX (D J)) (C4 (D J)))) fun i=>?_;refine(show RG _ _ _ _ [_,_,_] _ from ?_);refine cF<|Bu<|br<|bm<|bG E1 rZ b9 J<|bW J<|cZ h J (fun h=>?_) (fun h=>?_)
 ·refine aT<|bM h fun r2 q_r2 h=>?_
  refine iT 8 [tc (Z (M b 0)),tc (Z (M b 0)),tc (Z (M b 0)),tc (Z (M b 0)),tc (tO (rI .u8) ((sg 10).h 0).1 ((sg 10).h 0).2 r1),tc (df md p.Limit),tc (tD md p.Limit),([7],fun ae=>tO (rI .u8) ((ae.getD 0 jK).h 0).1 ((ae.getD 0 jK).h 0).2 r2)] [false,false,false,false,false,false,false,true] [fun _=>[Q (rH cV [(0,au ((sg 10).h 0).1 ((sg 10).h 0).2 r1.length)]) 60 b ({w1 with bytes:=r1}:aU),tip (rI .u8) 5 ((sg 10).h 0).1 ((sg 10).h 0).2 r1],fun sg1=>[tip (rI .u8) 5 ((sg1 7).h 0).1 ((sg1 7).h 0).2 r2,Q (rH cV [(0,au ((sg 10).h 0).1 ((sg 10).h 0).2 r1.length)]) 60 b ({w1 with bytes:=r1}:aU),tip (rI .u8) 5 ((sg 10).h 0).1 ((sg 10).h 0).2 r1]] J mixed J J J J J
   ⟨⟨[⟨0,fun _=>Z (M b 0),none⟩],_,0,1,J,⟨(fun _=>J),aM⟩,J,J,J,J,J,fun _ sg1 _ _=>ac J (lQ J)⟩,
   ⟨⟨[⟨0,fun _=>Z (M b 0),none⟩],_,0,0,J,⟨(fun _=>J),aM⟩,J,J,J,J,J,fun _ sg1 _ _=>ac J (lQ J)⟩,
   ⟨⟨[⟨24,fun _=>Z (M b 0),some 1⟩],_,0,0,J,⟨(fun _=>J),aM⟩,J,J,J,J,J,fun _ sg1 _ _=>ac J (aC (D J))⟩,
   ⟨⟨[⟨25,fun _=>Z (M b 0),some 2⟩],_,0,0,J,⟨(fun _=>J),aM⟩,J,J,J,J,J,fun _ sg1 _ _=>ac J (oK 0 oF J J J)⟩,
   ⟨⟨[⟨26,fun _=>Z (M b 0),some 3⟩],_,0,0,J,⟨(fun _=>J),aM⟩,J,J,J,J,J,nD (fun sg1=>ac J (na pO J (.head _) (.tail _ (.head _)) (D J)))⟩,
   ⟨⟨[⟨3,fun _=>df cx p,none⟩],_,0,0,J,⟨(fun _=>J),aM⟩,J,J,J,J,J,fun _ sg1 _ _=>ac J (w6 zW qj J J)⟩,
   ⟨⟨[⟨28,fun _=>df md p.Limit,some 5⟩],_,0,0,J,⟨(fun _=>J),aM⟩,J,J,J,J,J,fun _ sg1 _ _=>ac J (BA pt J J)⟩,
   ⟨⟨[⟨27,fun _=>tO (rI .u8) ((sg 10).h 0).1 ((sg 10).h 0).2 r1,some 4⟩,⟨29,fun _=>tD md p.Limit,some 6⟩],_,J,⟨(fun _=>J),(fun _=>J),aM⟩,J,J,J,fun sg1=>bY J (vu (xs:=[.tmp 27,.tmp 29]) (ts:=[tD Jl r1,tD md p.Limit]) He (xY _ _ q_r2) ⟨(tX (D J)),(D J),aM⟩)⟩,
   aM⟩⟩⟩⟩⟩⟩⟩⟩ (fun sg1=>?_)
  refine(show RG _ _ _ _ [_,_,_] _ from ?_);refine s (aC (D J))<|aW 0 oF J<|eW (EffOK.fr1 (lY (hs' :=[(0,au ((sg1 7).h 0).1 ((sg1 7).h 0).2 r2.length)]) (u:=au ((sg1 7).h 0).1 ((sg1 7).h 0).2 r2.length) pO J J mS J ⟨.inl ⟨J,J,J⟩,aM⟩ (D J) (tX (D J)) (C4 (D J)))) fun i1=>?_;refine(show RG _ _ _ _ [_,_,_] _ from ?_);exact cF<|Bu<|bS<|av<|ah<|ah<|so h▸qX J (sg1 7) J J
 ·refine jg<|aB J<|rP oG ft J<|bG wk oD Ad J<|bM h fun r3 q_r3 h=>aL (EffOK.fr1 (EffOK.fr1 (an (xs:=[.tmp 33,.tmp 36]) (ts:=[Z (M b 0),gI p.Batch.End]) (fg b ({w1 with bytes:=r1}:aU) (sg 10)) _ J Vz (Ol b (sg 10) ({w1 with bytes:=r1}:aU) _ q_r3) ⟨(D J),(D J),aM⟩ (fun _=>J)))) J fun i2=>?_;refine(show RG _ _ _ _ [_,_] ((37,tT [])::_)from ?_);refine br<|bm<|rP oG ft J<|bG wk oD Ad J<|cZ h J (fun h=>?_) (fun h=>?_)
  ·refine aT<|bM h fun r4 q_r4 h=>?_
   refine iT 9 [tc (Z (M b 0)),tc (Z (M b 0)),tc (Z (M b 0)),tc (Z (M b 0)),tc (tO (rI .u8) (i2.h 0).1 (i2.h 0).2 r3.bytes),tc (df kj p.Batch),tc (df md p.Batch.Count),tc (tD md p.Batch.Count),([8],fun ae=>tO (rI .u8) ((ae.getD 0 jK).h 0).1 ((ae.getD 0 jK).h 0).2 r4)] [false,false,false,false,false,false,false,false,true] [fun _=>[Q (rH cV [(0,au (i2.h 0).1 (i2.h 0).2 r3.bytes.length)]) 60 b r3,tip (rI .u8) 5 (i2.h 0).1 (i2.h 0).2 r3.bytes],fun sg2=>[tip (rI .u8) 5 ((sg2 8).h 0).1 ((sg2 8).h 0).2 r4,Q (rH cV [(0,au (i2.h 0).1 (i2.h 0).2 r3.bytes.length)]) 60 b r3,tip (rI .u8) 5 (i2.h 0).1 (i2.h 0).2 r3.bytes]] J mixed J J J J J
    ⟨⟨[⟨0,fun _=>Z (M b 0),none⟩],_,0,1,J,⟨(fun _=>J),aM⟩,J,J,J,J,J,fun _ sg2 _ _=>ac J (lQ J)⟩,
    ⟨⟨[⟨0,fun _=>Z (M b 0),none⟩],_,0,0,J,⟨(fun _=>J),aM⟩,J,J,J,J,J,fun _ sg2 _ _=>ac J (lQ J)⟩,
    ⟨⟨[⟨42,fun _=>Z (M b 0),some 1⟩],_,0,0,J,⟨(fun _=>J),aM⟩,J,J,J,J,J,fun _ sg2 _ _=>ac J (aC (D J))⟩,
    ⟨⟨[⟨43,fun _=>Z (M b 0),some 2⟩],_,0,0,J,⟨(fun _=>J),aM⟩,J,J,J,J,J,fun _ sg2 _ _=>ac J (oK 0 oF J J J)⟩,
    ⟨⟨[⟨44,fun _=>Z (M b 0),some 3⟩],_,0,0,J,⟨(fun _=>J),aM⟩,J,J,J,J,J,nD (fun sg2=>ac J (na pO J (.head _) (.tail _ (.head _)) (D J)))⟩,
    ⟨⟨[⟨3,fun _=>df cx p,none⟩],_,0,0,J,⟨(fun _=>J),aM⟩,J,J,J,J,J,fun _ sg2 _ _=>ac J (w6 oG ft J J)⟩,
    ⟨⟨[⟨46,fun _=>df kj p.Batch,some 5⟩],_,0,0,J,⟨(fun _=>J),aM⟩,J,J,J,J,J,fun _ sg2 _ _=>ac J (w6 xX pW J J)⟩,
    ⟨⟨[⟨47,fun _=>df md p.Batch.Count,some 6⟩],_,0,0,J,⟨(fun _=>J),aM⟩,J,J,J,J,J,fun _ sg2 _ _=>ac J (BA pt J J)⟩,
    ⟨⟨[⟨45,fun _=>tO (rI .u8) (i2.h 0).1 (i2.h 0).2 r3.bytes,some 4⟩,⟨48,fun _=>tD md p.Batch.Count,some 7⟩],_,J,⟨(fun _=>J),(fun _=>J),aM⟩,J,J,J,fun sg2=>bY J (vu (xs:=[.tmp 45,.tmp 48]) (ts:=[tD Jl r3.bytes,tD md p.Batch.Count]) He (xY _ _ q_r4) ⟨(tX (D J)),(D J),aM⟩)⟩,
    aM⟩⟩⟩⟩⟩⟩⟩⟩⟩ (fun sg2=>?_)
   refine(show RG _ _ _ _ [_,_,_] _ from ?_);refine s (aC (D J))<|aW 0 oF J<|eW (EffOK.fr1 (lY (hs' :=[(0,au ((sg2 8).h 0).1 ((sg2 8).h 0).2 r4.length)]) (u:=au ((sg2 8).h 0).1 ((sg2 8).h 0).2 r4.length) pO J J mS J ⟨.inl ⟨J,J,J⟩,aM⟩ (D J) (tX (D J)) (C4 (D J)))) fun i3=>?_;refine(show RG _ _ _ _ [_,_,_] _ from ?_);exact cF<|Bu<|bS<|av<|ah<|ah<|so h▸qX J (sg2 8) J J
  ·refine jg<|a8<|rP oG ft J<|bG wl oE HM J<|iw h abS (Vo _) (ea J) fun r5 h=>aS J<|ek J J<|ek J J<|ek J J<|hE J<|hE J<|aZ J<|aw<|aS J<|aS J<|s (aC (D J))<|aW 0 oF J<|s (na pO J (.head _) (.tail _ (.head _)) (D J)) ?_;refine aS J<|cL<|bM h fun l q_l h=>wA tW J J J J iY J J (D J) (D J) q_l fun l1 c=>s (aC (D J))<|aW 0 oF J<|eW (EffOK.fr1 (lY (hs' :=[(0,au l1 c l.length)]) (u:=au l1 c l.length) pO J J mS J ⟨.inl ⟨J,J,J⟩,aM⟩ (D J) (tX (D J)) (C4 (D J)))) fun i4=>?_;refine(show RG _ _ _ _ [_,_] _ from ?_);exact aX<|ah<|ah<|so h▸eN J (qZ [(l1,c)]) J J

def aao(b:Nat)(ix:OI) w1 m{R}(h:jT w1 m=some R):bk aY 30 [Z (M b 0),tD fz m] (fg b w1 ix) (fun _:OI=>tT []) (fun j=>fg b R j):=by
 refine bk.of Tryz.func30 J J J fun w0 S0=>?_;refine(show CG _ _ _ [Q (rH cV [(0,au (ix.h 0).1 (ix.h 0).2 w1.bytes.length)]) 60 b w1,tip (rI .u8) 5 (ix.h 0).1 (ix.h 0).2 w1.bytes] _ from ?_);refine a8<|eZ J<|br<|aB J<|bG xW tB b9 J<|bG E0 Ba b9 J<|bG EZ A9 b9 J<|bG B7 xS b9 J<|s (bc (r:=bP) (ys:=[m.Kind,m.From,m.To,m.Epoch]) (xs:=[.tmp 6,.tmp 8,.tmp 10,.tmp 12]) fx b9 J J J J J ⟨(D J),(D J),(D J),(D J),aM⟩)<|bM h fun r q_r h=>aL (EffOK.fr1 (EffOK.fr1 (an (xs:=[.tmp 4,.tmp 13]) (ts:=[Z (M b 0),pi ([m.Kind,m.From,m.To,m.Epoch])]) (fg b w1 ix) _ J w5 (q6 b ix w1 _ q_r) ⟨(D J),(D J),aM⟩ (fun _=>J)))) J fun i=>?_;refine(show RG _ _ _ _ [_,_] ((14,tT [])::_)from ?_);refine br<|a8<|bG xW tB b9 J<|br<|aA<|a8<|bW J<|aZ J<|jz h J (fun h=>?_) (fun h=>?_)
 ·refine aB J<|bG zV xQ b9 J<|s (bc (r:=bP) (ys:=[m.Sites]) (xs:=[.tmp 21]) fx b9 J J J J J ⟨(D J),aM⟩)<|bM h fun r1 q_r1 h=>aL (EffOK.fr1 (EffOK.fr1 (an (xs:=[.tmp 19,.tmp 22]) (ts:=[Z (M b 0),pi ([m.Sites])]) (fg b r i) _ J w5 (q6 b i r _ q_r1) ⟨(D J),(D J),aM⟩ (fun _=>J)))) J fun i1=>?_;refine(show RG _ _ _ _ [_,_] ((23,tT [])::_)from ?_);refine br<|aw<|aS J<|bG zU xP C3 J<|bM h fun r2 q_r2 h=>aL (EffOK.fr1 (EffOK.fr1 (an (xs:=[.tmp 24,.tmp 26]) (ts:=[Z (M b 0),tD mh m.Plan]) (fg b r1 i1) _ J acO (aan b i1 r1 _ q_r2) ⟨(D J),(D J),aM⟩ (fun _=>J)))) J fun i2=>?_;refine(show RG _ _ _ _ [_,_] ((27,tT [])::_)from ?_);exact aX<|aF<|ah<|ah<|so h▸eN J i2 J J
 ·refine iV (tV:=fun x=>j6 m r x=some R) (Of:=fun x=>[Q (rH cV [(0,au (i.h 0).1 (i.h 0).2 r.bytes.length)]) 60 b r,tip (rI .u8) 5 (i.h 0).1 (i.h 0).2 r.bytes]) (Gf:=fun x=>[(0,Z (M b 0)),(3,df fz m),(16,bC m.Kind),(28,gI x)]) (fun x h=>?_) (fun hb=>?_)
  ·skip
   refine jz h J (fun h=>?_) (fun h=>?_)
   ·refine aB J<|bG xV xR b9 J<|s (bc (r:=bP) (ys:=[m.Frag]) (xs:=[.tmp 33]) fx b9 J J J J J ⟨(D J),aM⟩)<|bM h fun r3 q_r3 h=>aL (EffOK.fr1 (EffOK.fr1 (an (xs:=[.tmp 31,.tmp 34]) (ts:=[Z (M b 0),pi ([m.Frag])]) (fg b r i) _ J w5 (q6 b i r _ q_r3) ⟨(D J),(D J),aM⟩ (fun _=>J)))) J fun i3=>?_;refine(show RG _ _ _ _ [_,_] ((35,tT [])::_)from ?_);refine br<|aw<|aS J<|bG wj vp sx J<|bM h fun r4 q_r4 h=>aL (EffOK.fr1 (EffOK.fr1 (an (xs:=[.tmp 36,.tmp 38]) (ts:=[Z (M b 0),tD cx m.Packet]) (fg b r3 i3) _ J acE (aai b i3 r3 _ q_r4) ⟨(D J),(D J),aM⟩ (fun _=>J)))) J fun i4=>?_;refine(show RG _ _ _ _ [_,_] ((39,tT [])::_)from ?_);exact aX<|aF<|ah<|ah<|so h▸eN J i4 J J
   ·refine a8<|bW J<|aZ J<|jz h J (fun h=>?_) (fun h=>?_)
    ·refine aw<|aS J<|bG xU xO zx J<|bW J<|bM h fun r5 q_r5 h=>aL (EffOK.fr1 (EffOK.fr1 (an (xs:=[.tmp 42,.tmp 45]) (ts:=[Z (M b 0),gI (m.Err==(300:Int))]) (fg b r i) _ J Vz (Ol b i r _ q_r5) ⟨(D J),(D J),aM⟩ (fun _=>J)))) J fun i5=>?_;refine(show RG _ _ _ _ [_,_] ((46,tT [])::_)from ?_);exact aX<|aF<|ah<|ah<|so h▸eN J i5 J J
    ·exact bE<|aF<|ah<|ah<|so h▸eN J i J J
  ·skip
   refine a8<|bW J<|aZ J<|jz h J (fun h=>?_) (fun h=>?_)
   ·refine bE ?_;exact bZ (hb (m.Kind==(3:Int)) h) (bo J)
   ·refine aw<|bW J<|hE J<|aX ?_;exact bZ (hb (m.Kind==(4:Int)) h) (bo J)

def MJ m{R}(h:m2 m=some R):dJ aY 12 [tD fz m] (tT [d8 ((rI .u8)) R.1,bC R.2]):=by
 refine eX Tryz.func12 J<|a8<|eZ J<|jh ((rI .u8))<|cM<|br<|bm<|fi iz J<|iw h aaB (SF _) (ea J) fun r h=>s (gG (D J))<|cZ h J (fun h=>?_) (fun h=>?_)
 ·exact a8<|jh ((rI .u8))<|gQ<|av<|so h▸fH J J J
 ·refine jg<|a8<|s (ez (r:=rH cV [(0,.slice none 0 0)]) (y:=(⟨[]⟩:aU)) acb aci (zH O0 ⟨J,aM⟩) (J))<|uE (D J) J fun b=>cS true (rI .u8) 5 ?_;refine(show RG _ _ _ _ [_,_] _ from ?_);refine aZ J<|aB J<|fi iz J<|bM h fun r1 q_r1 h=>aL (EffOK.fr1 (an (xs:=[.tmp 11,.tmp 12]) (ts:=[Z (M b 0),tD fz m]) (fg b (⟨[]⟩:aU) (qZ [(none,0)])) _ J acT (aao b (qZ [(none,0)]) (⟨[]⟩:aU) _ q_r1) ⟨(D J),(D J),aM⟩ (fun _=>J))) J fun i=>?_;refine(show RG _ _ _ _ [_,_] ((13,tT [])::_)from ?_);refine br<|aB J<|s (aC (D J))<|aW 0 oF J<|s (na pO J (.head _) (.tail _ (.head _)) (D J))<|u6 h aaC (Oo _) ⟨(tX (D J)),aM⟩ fun r2 h l c=>aZ J<|bm<|aS J<|s (ja iY (.head _) (D J))<|s (ge (D J) hI)<|cZ h J (fun h=>?_) (fun h=>?_)
  ·exact a8<|jh ((rI .u8))<|gQ<|av<|ba<|ba<|ba<|so h▸fH J J J
  ·exact jg<|aB J<|hE J<|gQ<|dm<|bB 2 J<|bB 18 J<|bB 5 J<|bB 19 J<|bB 22 J<|eY 2 J<|ba<|ba<|ba<|so h▸fH J J J

def MH a1 b{R}(h:ql a1 b=some R):dJ aY 17 [d8 ((rI .u8)) a1,d8 ((rI .u8)) b] (gI R):=by
 exact eX Tryz.func17 J<|a8<|bA<|br<|aB J<|s (BX iY uZ Fx tW J (D J))<|aS J<|s (BX iY uZ Fx tW J (D J))<|s (Us (D J) (D J))<|bq J<|so h▸aN J J

def YA{R}(h:xJ=some R):dJ aY 10 [] (gI R):=by
 refine eX Tryz.func10 J<|a8<|bA<|br<|a8<|s (ez (y:=(⟨(2:Int),(2:Int),(0:Int),(3:Int),(0:Int),(0:Int),u5,q8,(0:Int)⟩:bR)) iz Kx qt (⟨_,_,_,_,_,J,Ed,J,hI,⟨_,_,_,_,_,J,Ec,J,hI,⟨_,_,_,_,_,J,Eb,J,hI,J⟩⟩⟩))<|iw h YM (MJ _) (ea J) fun r h=>aS J<|ek J J<|ek J J<|hE J<|aZ J<|aB J<|bW J<|aS J<|ai J (du J) ?_;refine ai J (ma iY J)<|ai J (mw J)<|c8 J<|aS J<|bM h fun t q_t h=>ai J (du J) ?_
 obtain⟨y,h1t,h0t⟩:=og q_t
 have q_yg:=fun K=>(h1t K).1
 refine ai J (fun H=>Mi iY tW J (bL J H) hI (q_yg H))<|ai J (fun H=>bc (r:=(rI .u8)) (ys:=[(2:Int),(2:Int),(0:Int),(3:Int)]) (xs:=[.const (.int .u8 (2)),.const (.int .u8 (2)),.const (.int .u8 (0)),.const (.int .u8 (3))]) iY tW J J J J J ⟨hI,hI,hI,hI,aM⟩) ?_
 obtain⟨r1,h1t⟩:=og2 (fun K=>(h1t K).2)
 have q_r1g:=fun K=>(h1t K).1
 exact ai J (fun H=>db YL (MH _ _ (q_r1g H)) ⟨(bL J H),(bL J H),aM⟩)<|s (de (D J) (fun K=>(bL J K)) (fun K=>(h1t K).2) h0t)<|bq J<|so h▸aN J J

def ME e{R}(h:lg e=some R):dJ aY 80 [tD cU e] (gI R):=by
 refine eX Tryz.func80 J<|a8<|eZ J<|bA<|br<|bm<|bG rq kS BG J<|cw sq J<|s (ge (D J) hI)<|cZ h J (fun h=>?_) (fun h=>?_)
 ·exact a8<|bA<|bS<|av<|so h▸aN J J
 ·refine jg<|bm<|bG rq kS BG J<|cw sq J<|s (bQ hI)<|br<|aA<|bt (k:=10) J fun hN=>bN ?_;refine aV (fv (tV:=fun ls i=>(e.Nodes.drop i=ls)/\j5 ls=some R) (Of:=fun _ i=>[]) (Gf:=fun _ i=>[(10,d8 (bD) e.Nodes),(11,nz e.Nodes),(12,bC (i:Int))]) (fun i h=>?_) (fun e1 tl ih i h=>?_) e.Nodes 0 ⟨J,h⟩) (bo J)
  ·obtain⟨V,h⟩:=h
   exact fm V J<|aG<|a8<|bA<|bS<|so h▸aN J J
  ·obtain⟨V,h⟩:=h
   refine fj V J<|aT<|aA<|a8<|fQ sq jx J (eF V)<|bw jx rO J fun b=>bv jx ax J<|bf 4 J<|br<|a8<|rP wp pV J ?_;refine bG wq ro V1 J<|s (Dk Fx (D J))<|s (ge (D J) hI)<|cZ h J (fun h=>?_) (fun h=>?_)
   ·exact a8<|bA<|bS<|ei<|av<|ei<|so h▸aN J J
   ·refine bE<|dW V hN J ?_;exact bj (aV (ih (i+1) ⟨dQ V,h⟩) (bo J))

def X0 l{R}(h:nd l=some R):dJ aY 39 [d8 (bl) l] (gI R):=by
 refine eX Tryz.func39 J<|a8<|bA<|br<|bm<|aS J<|cw tR J<|s (ge (D J) hI)<|cZ h J (fun h=>?_) (fun h=>?_)
 ·exact a8<|bA<|bS<|av<|so h▸aN J J
 ·refine jg<|bm<|aS J<|cw tR J<|s (bQ hI)<|br<|aA<|bt (k:=12) J fun hN=>bN ?_;refine aV (fv (tV:=fun ls i=>(l.drop i=ls)/\eI ls=some R) (Of:=fun _ i=>[]) (Gf:=fun _ i=>[(12,d8 (bl) l),(13,nz l),(14,bC (i:Int))]) (fun i h=>?_) (fun e tl ih i h=>?_) l 0 ⟨J,h⟩) (bo J)
  ·obtain⟨V,h⟩:=h
   exact fm V J<|aG<|a8<|bA<|bS<|so h▸aN J J
  ·obtain⟨V,h⟩:=h
   refine fj V J<|aT<|aA<|a8<|fQ tR gv J (eF V)<|bw gv kV J fun b=>bv gv ax J<|bf 4 J<|br<|bm ?_;refine bG qO jv c0 J<|cw fx J<|s (ge (D J) hI)<|aS J<|bz J (cj pX iQ J J)<|bz J (ce c0 J J)<|bz J (ma fx J)<|bz J (fun H=>ge (bL J H) hI)<|jW J<|aS J<|bz J (cj sH mU J J)<|bz J (ce HJ J J)<|bz J (ma yT J)<|bz J (fun H=>ge (bL J H) hI)<|jW J<|aS J<|bz J (cj wg oz J J)<|bz J (ce HK J J)<|bz J (ma xb J)<|bz J (fun H=>ge (bL J H) hI)<|jW J<|aS J<|bz J (cj nI gr J J) ?_;refine bz J (ce wY J J)<|bz J (ma qr J)<|bz J (fun H=>ge (bL J H) hI)<|jW J<|aS J<|bM h fun t q_t h=>bz J (cj uS oA J J)<|bz J (ce kY J J) ?_
   obtain⟨r,h1t,h0t⟩:=og q_t
   have q_rg:=fun K=>(h1t K).1
   refine bz J (fun H=>db YI (ME _ (q_rg H)) ⟨(bL J H),aM⟩)<|s (m0 (D J) (fun K=>(bL J (vT K))) (fun K=>(h1t K).2) h0t)<|cZ h J (fun h=>?_) (fun h=>?_)
   ·exact a8<|bA<|bS<|av<|ei<|av<|ei<|so h▸aN J J
   ·refine jg<|bm<|bG wg oz HK J<|cw xb J<|s (bQ hI)<|br<|aA<|bt (k:=52) J fun hN1=>bN ?_;refine aV (fv (tV:=fun ls1 i1=>(e.Items.drop i1=ls1)/\js (eI tl) e ls1=some R) (Of:=fun _ i1=>[]) (Gf:=fun _ i1=>[(4,df bl e),(12,d8 (bl) l),(13,nz l),(14,bC (i:Int)),(52,d8 (cU) e.Items),(53,nz e.Items),(54,bC (i1:Int))]) (fun i1 h=>?_) (fun e1 tl1 ih1 i1 h=>?_) e.Items 0 ⟨J,h⟩) (bo J)
    ·obtain⟨hx1,h⟩:=h
     refine fm hx1 J<|aG<|a8<|bG nI gr wY J<|cw qr J<|s (bQ hI)<|br<|aA<|bt (k:=62) J fun hN2=>bN ?_;refine aV (fv (tV:=fun ls2 i2=>(e.Aggs.drop i2=ls2)/\ia (eI tl) ls2=some R) (Of:=fun _ i2=>[]) (Gf:=fun _ i2=>[(12,d8 (bl) l),(13,nz l),(14,bC (i:Int)),(62,d8 (fI) e.Aggs),(63,nz e.Aggs),(64,bC (i2:Int))]) (fun i2 h=>?_) (fun e2 tl2 ih2 i2 h=>?_) e.Aggs 0 ⟨J,h⟩) (bo J)
     ·obtain⟨hx2,h⟩:=h
      refine fm hx2 J<|dW V hN J ?_;exact bj (aV (ih (i+1) ⟨dQ V,h⟩) (bo J))
     ·obtain⟨hx2,h⟩:=h
      refine fj hx2 J<|aT<|aA<|a8<|fQ qr kN J (eF hx2)<|bw kN uI J fun b1=>bv kN ax J<|bf 8 J<|br<|a8<|rP sJ qN J ?_;refine fi kY J<|iw h YI (ME _) (ea J) fun r1 h=>cZ h J (fun h=>?_) (fun h=>?_)
      ·exact a8<|bA<|bS<|ei<|av<|Cl<|ei<|av<|ei<|so h▸aN J J
      ·refine bE<|dW hx2 hN2 J ?_;exact bj (aV (ih2 (i2+1) ⟨dQ hx2,h⟩) (bo J))
    ·obtain⟨hx1,h⟩:=h
     refine fj hx1 J<|aT<|aA<|a8<|fQ xb kY J (eF hx1)<|bw kY sr J fun b2=>bv kY ax J<|bf 6 J<|br<|a8<|fi kY J ?_;refine iw h YI (ME _) (ea J) fun r2 h=>cZ h J (fun h=>?_) (fun h=>?_)
     ·exact a8<|bA<|bS<|ei<|av<|ei<|ei<|av<|ei<|so h▸aN J J
     ·refine bE<|dW hx1 hN1 J ?_;exact bj (aV (ih1 (i1+1) ⟨dQ hx1,h⟩) (bo J))

def Ye p{R}(h:ot p=some R):dJ aY 19 [tD mh p] (gI R):=by
 refine eX Tryz.func19 J<|a8<|eZ J<|bA<|br<|bm<|bG wm pb HN J<|cw wV J<|s (ge (D J) hI)<|cZ h J (fun h=>?_) (fun h=>?_)
 ·exact a8<|bA<|bS<|av<|so h▸aN J J
 ·refine jg<|bm<|bG wm pb HN J<|cw wV J<|s (bQ hI)<|br<|aA<|bt (k:=10) J fun hN=>bN ?_;refine aV (fv (tV:=fun ls i=>(p.Frags.drop i=ls)/\j4 ls=some R) (Of:=fun _ i=>[]) (Gf:=fun _ i=>[(10,d8 (cG) p.Frags),(11,nz p.Frags),(12,bC (i:Int))]) (fun i h=>?_) (fun e tl ih i h=>?_) p.Frags 0 ⟨J,h⟩) (bo J)
  ·obtain⟨V,h⟩:=h
   exact fm V J<|aG<|a8<|bA<|bS<|so h▸aN J J
  ·obtain⟨V,h⟩:=h
   refine fj V J<|aT<|aA<|a8<|fQ wV qq J (eF V)<|bw qq pF J fun b=>bv qq ax J<|bf 4 J<|br<|a8<|rP B6 sV J ?_;refine fi c0 J<|cw fx J<|s (ge (D J) hI)<|aS J<|bM h fun t q_t h=>bz J (cj zT sW J J)<|bz J (ce FC J J) ?_
   obtain⟨r,h1t,h0t⟩:=og q_t
   have q_rg:=fun K=>(h1t K).1
   refine bz J (fun H=>db acQ (X0 _ (q_rg H)) ⟨(bL J H),aM⟩)<|s (m0 (D J) (fun K=>(bL J (vT K))) (fun K=>(h1t K).2) h0t)<|cZ h J (fun h=>?_) (fun h=>?_)
   ·exact a8<|bA<|bS<|ei<|av<|ei<|so h▸aN J J
   ·refine bE<|dW V hN J ?_;exact bj (aV (ih (i+1) ⟨dQ V,h⟩) (bo J))

def X3 l{R}(h:oq l=some R):dJ aY 28 [d8 (me) l] (gI R):=by
 refine eX Tryz.func28 J<|a8<|bA<|br<|bm<|aS J<|cw u4 J<|s (ge (D J) hI)<|cZ h J (fun h=>?_) (fun h=>?_)
 ·exact a8<|bA<|bS<|av<|so h▸aN J J
 ·refine jg<|bm<|aS J<|cw u4 J<|s (bQ hI)<|br<|aA<|bt (k:=10) J fun hN=>bN ?_;refine aV (fv (tV:=fun ls i=>(l.drop i=ls)/\gK ls=some R) (Of:=fun _ i=>[]) (Gf:=fun _ i=>[(10,d8 (me) l),(11,nz l),(12,bC (i:Int))]) (fun i h=>?_) (fun e tl ih i h=>?_) l 0 ⟨J,h⟩) (bo J)
  ·obtain⟨V,h⟩:=h
   exact fm V J<|aG<|a8<|bA<|bS<|so h▸aN J J
  ·obtain⟨V,h⟩:=h
   refine fj V J<|aT<|aA<|a8<|fQ u4 Cy J (eF V)<|aZ J<|bm<|aS J<|cw Aj J ?_;refine s (ge (D J) hI)<|cZ h J (fun h=>?_) (fun h=>?_)
   ·exact a8<|bA<|bS<|av<|ei<|av<|ei<|so h▸aN J J
   ·refine jg<|aB J<|cw Aj J<|s (bQ hI)<|br<|aA<|bt (k:=19) J fun hN1=>bN ?_;refine aV (fv (tV:=fun ls1 i1=>(e.drop i1=ls1)/\j3 (gK tl) ls1=some R) (Of:=fun _ i1=>[]) (Gf:=fun _ i1=>[(10,d8 (me) l),(11,nz l),(12,bC (i:Int)),(19,d8 (be) e),(20,nz e),(21,bC (i1:Int))]) (fun i1 h=>?_) (fun e1 tl1 ih1 i1 h=>?_) e 0 ⟨J,h⟩) (bo J)
    ·obtain⟨hx1,h⟩:=h
     refine fm hx1 J<|dW V hN J ?_;exact bj (aV (ih (i+1) ⟨dQ V,h⟩) (bo J))
    ·obtain⟨hx1,h⟩:=h
     refine fj hx1 J<|aT<|aA<|a8<|fQ Aj dd J (eF hx1)<|bw dd mu J fun b=>bv dd ax J<|bf 6 J<|br<|a8<|rP wq ro J ?_;refine fi V1 J<|s (Dk Fx (D J))<|s (ge (D J) hI)<|cZ h J (fun h=>?_) (fun h=>?_)
     ·exact a8<|bA<|bS<|ei<|av<|Cl<|ei<|av<|ei<|so h▸aN J J
     ·refine bE<|dW hx1 hN1 J ?_;exact bj (aV (ih1 (i1+1) ⟨dQ hx1,h⟩) (bo J))

end Go.Proofs.YtdohlidddcgfjaaGreat

