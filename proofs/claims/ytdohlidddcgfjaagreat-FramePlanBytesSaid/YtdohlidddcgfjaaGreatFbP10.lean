/- bR of this claim: P10. -/
import Derived.Test.YtdohlidddcgfjaaGreatFbT
import Derived.Test.YtdohlidddcgfjaaGreatFbP9
set_option linter.all false
namespace Go.Proofs.YtdohlidddcgfjaaGreat
open Go
set_option maxRecDepth 100000

def T5(b:Nat)(ix:OI) w1 p{R}(h:qi w1 p=some R):bd aV 60 [K (M b 0),tD fL p] (ea b w1 ix) (fun _:OI=>tT []) (fun j=>ea b R j):=by
 refine bd.of Tryz.func60 J J J fun w0 S0=>?_;refine(show CG _ _ _ [Z (rH cr [(0,an (ix.h 0).1 (ix.h 0).2 w1.bytes.length)]) 60 b w1,tip (rI .u8) 5 (ix.h 0).1 (ix.h 0).2 w1.bytes] _ from ?_);refine a8<|eG J<|bp<|aP<|bT h fun r q_r h=>bT h fun r1 q_r1 h=>?_
 refine ic 11 [tc (K (M b 0)),tc (K (M b 0)),tc (K (M b 0)),tc (K (M b 0)),tc (tO (rI .u8) (ix.h 0).1 (ix.h 0).2 w1.bytes),tc (cH m2 p.Session),tc (tD m2 p.Session),tc (ep ((rI .u8)) r),tc (cH lL p.Seq),tc (tD lL p.Seq),([10],fun ae=>tO (rI .u8) ((ae.getD 0 j8).h 0).1 ((ae.getD 0 j8).h 0).2 r1)] [false,false,false,false,false,false,false,false,false,false,true] [fun _=>[Z (rH cr [(0,an (ix.h 0).1 (ix.h 0).2 w1.bytes.length)]) 60 b w1,tip (rI .u8) 5 (ix.h 0).1 (ix.h 0).2 w1.bytes],fun sg=>[tip (rI .u8) 5 ((sg 10).h 0).1 ((sg 10).h 0).2 r1,Z (rH cr [(0,an (ix.h 0).1 (ix.h 0).2 w1.bytes.length)]) 60 b w1,tip (rI .u8) 5 (ix.h 0).1 (ix.h 0).2 w1.bytes]] J mixed J J J J J
  ⟨⟨[⟨0,fun _=>K (M b 0),none⟩],_,0,1,J,⟨(fun _=>J),d⟩,J,J,J,J,J,fun _ sg _ _=>ac J (m1 J)⟩,
  ⟨⟨[⟨0,fun _=>K (M b 0),none⟩],_,0,0,J,⟨(fun _=>J),d⟩,J,J,J,J,J,fun _ sg _ _=>ac J (m1 J)⟩,
  ⟨⟨[⟨8,fun _=>K (M b 0),some 1⟩],_,0,0,J,⟨(fun _=>J),d⟩,J,J,J,J,J,fun _ sg _ _=>ac J (aD (D J))⟩,
  ⟨⟨[⟨9,fun _=>K (M b 0),some 2⟩],_,0,0,J,⟨(fun _=>J),d⟩,J,J,J,J,J,fun _ sg _ _=>ac J (oz 0 mj J J J)⟩,
  ⟨⟨[⟨10,fun _=>K (M b 0),some 3⟩],_,0,0,J,⟨(fun _=>J),d⟩,J,J,J,J,J,mC (fun sg=>ac J (lc ny J (.head _) (.tail _ (.head _)) (D J)))⟩,
  ⟨⟨[⟨3,fun _=>cH fL p,none⟩],_,0,0,J,⟨(fun _=>J),d⟩,J,J,J,J,J,fun _ sg _ _=>ac J (uv EK rM J J)⟩,
  ⟨⟨[⟨12,fun _=>cH m2 p.Session,some 5⟩],_,0,0,J,⟨(fun _=>J),d⟩,J,J,J,J,J,fun _ sg _ _=>ac J (AJ o3 J J)⟩,
  ⟨⟨[⟨11,fun _=>tO (rI .u8) (ix.h 0).1 (ix.h 0).2 w1.bytes,some 4⟩,⟨13,fun _=>tD m2 p.Session,some 6⟩],_,0,0,J,⟨(fun _=>J),(fun _=>J),d⟩,J,J,J,J,J,fun _ sg _ _=>ac J (c7 QD (PF _ _ q_r) ⟨(sf (D J)),(D J),d⟩)⟩,
  ⟨⟨[⟨3,fun _=>cH fL p,none⟩],_,0,0,J,⟨(fun _=>J),d⟩,J,J,J,J,J,fun _ sg _ _=>ac J (uv xa mT J J)⟩,
  ⟨⟨[⟨15,fun _=>cH lL p.Seq,some 8⟩],_,0,0,J,⟨(fun _=>J),d⟩,J,J,J,J,J,fun _ sg _ _=>ac J (AJ oA J J)⟩,
  ⟨⟨[⟨14,fun _=>tD Fq r,some 7⟩,⟨16,fun _=>tD lL p.Seq,some 9⟩],_,J,⟨(fun _=>J),(fun _=>J),d⟩,J,J,J,fun sg=>cm J (s5 (xs:=[.tmp 14,.tmp 16]) (ts:=[tD Fq r,tD lL p.Seq]) DU (vj _ _ q_r1) ⟨(D J),(D J),d⟩)⟩,
  d⟩⟩⟩⟩⟩⟩⟩⟩⟩⟩⟩ (fun sg=>?_)
 refine(show RG _ _ _ _ [_,_,_] _ from ?_);refine s (aD (D J))<|aX 0 mj J<|d6 (EffOK.fr1 (kJ (hs' :=[(0,an ((sg 10).h 0).1 ((sg 10).h 0).2 r1.length)]) (u:=an ((sg 10).h 0).1 ((sg 10).h 0).2 r1.length) ny J J ly J ⟨.inl ⟨J,J,J⟩,d⟩ (D J) (sf (D J)) (z7 (D J)))) fun i=>?_;refine(show RG _ _ _ _ [_,_,_] _ from ?_);refine cL<|yx<|bp<|bm<|bz BK pS bS J<|bM J<|dd h J (fun h=>?_) (fun h=>?_)
 ·refine aP<|bT h fun r2 q_r2 h=>?_
  refine ic 8 [tc (K (M b 0)),tc (K (M b 0)),tc (K (M b 0)),tc (K (M b 0)),tc (tO (rI .u8) ((sg 10).h 0).1 ((sg 10).h 0).2 r1),tc (cH lL p.Limit),tc (tD lL p.Limit),([7],fun ae=>tO (rI .u8) ((ae.getD 0 j8).h 0).1 ((ae.getD 0 j8).h 0).2 r2)] [false,false,false,false,false,false,false,true] [fun _=>[Z (rH cr [(0,an ((sg 10).h 0).1 ((sg 10).h 0).2 r1.length)]) 60 b ({w1 with bytes:=r1}:aL),tip (rI .u8) 5 ((sg 10).h 0).1 ((sg 10).h 0).2 r1],fun sg1=>[tip (rI .u8) 5 ((sg1 7).h 0).1 ((sg1 7).h 0).2 r2,Z (rH cr [(0,an ((sg 10).h 0).1 ((sg 10).h 0).2 r1.length)]) 60 b ({w1 with bytes:=r1}:aL),tip (rI .u8) 5 ((sg 10).h 0).1 ((sg 10).h 0).2 r1]] J mixed J J J J J
   ⟨⟨[⟨0,fun _=>K (M b 0),none⟩],_,0,1,J,⟨(fun _=>J),d⟩,J,J,J,J,J,fun _ sg1 _ _=>ac J (m1 J)⟩,
   ⟨⟨[⟨0,fun _=>K (M b 0),none⟩],_,0,0,J,⟨(fun _=>J),d⟩,J,J,J,J,J,fun _ sg1 _ _=>ac J (m1 J)⟩,
   ⟨⟨[⟨24,fun _=>K (M b 0),some 1⟩],_,0,0,J,⟨(fun _=>J),d⟩,J,J,J,J,J,fun _ sg1 _ _=>ac J (aD (D J))⟩,
   ⟨⟨[⟨25,fun _=>K (M b 0),some 2⟩],_,0,0,J,⟨(fun _=>J),d⟩,J,J,J,J,J,fun _ sg1 _ _=>ac J (oz 0 mj J J J)⟩,
   ⟨⟨[⟨26,fun _=>K (M b 0),some 3⟩],_,0,0,J,⟨(fun _=>J),d⟩,J,J,J,J,J,mC (fun sg1=>ac J (lc ny J (.head _) (.tail _ (.head _)) (D J)))⟩,
   ⟨⟨[⟨3,fun _=>cH fL p,none⟩],_,0,0,J,⟨(fun _=>J),d⟩,J,J,J,J,J,fun _ sg1 _ _=>ac J (uv zf oo J J)⟩,
   ⟨⟨[⟨28,fun _=>cH lL p.Limit,some 5⟩],_,0,0,J,⟨(fun _=>J),d⟩,J,J,J,J,J,fun _ sg1 _ _=>ac J (AJ oA J J)⟩,
   ⟨⟨[⟨27,fun _=>tO (rI .u8) ((sg 10).h 0).1 ((sg 10).h 0).2 r1,some 4⟩,⟨29,fun _=>tD lL p.Limit,some 6⟩],_,J,⟨(fun _=>J),(fun _=>J),d⟩,J,J,J,fun sg1=>cm J (s5 (xs:=[.tmp 27,.tmp 29]) (ts:=[tD Fq r1,tD lL p.Limit]) DU (vj _ _ q_r2) ⟨(sf (D J)),(D J),d⟩)⟩,
   d⟩⟩⟩⟩⟩⟩⟩⟩ (fun sg1=>?_)
  refine(show RG _ _ _ _ [_,_,_] _ from ?_);refine s (aD (D J))<|aX 0 mj J<|d6 (EffOK.fr1 (kJ (hs' :=[(0,an ((sg1 7).h 0).1 ((sg1 7).h 0).2 r2.length)]) (u:=an ((sg1 7).h 0).1 ((sg1 7).h 0).2 r2.length) ny J J ly J ⟨.inl ⟨J,J,J⟩,d⟩ (D J) (sf (D J)) (z7 (D J)))) fun i1=>?_;refine(show RG _ _ _ _ [_,_,_] _ from ?_);exact cL<|yx<|cj<|aC<|aj<|aj<|so h▸oZ J (sg1 7) J J
 ·refine ji<|ay J<|sG qf gY J<|bz xc nT yM J<|bT h fun r3 q_r3 h=>aR (EffOK.fr1 (EffOK.fr1 (au (xs:=[.tmp 33,.tmp 36]) (ts:=[K (M b 0),gw p.Batch.End]) (ea b ({w1 with bytes:=r1}:aL) (sg 10)) _ J PN (JP b (sg 10) ({w1 with bytes:=r1}:aL) _ q_r3) ⟨(D J),(D J),d⟩ (fun _=>J)))) J fun i2=>?_;refine(show RG _ _ _ _ [_,_] ((37,tT [])::_)from ?_);refine bp<|bm<|sG qf gY J<|bz xc nT yM J<|dd h J (fun h=>?_) (fun h=>?_)
  ·refine aP<|bT h fun r4 q_r4 h=>?_
   refine ic 9 [tc (K (M b 0)),tc (K (M b 0)),tc (K (M b 0)),tc (K (M b 0)),tc (tO (rI .u8) (i2.h 0).1 (i2.h 0).2 r3.bytes),tc (cH mI p.Batch),tc (cH lL p.Batch.Count),tc (tD lL p.Batch.Count),([8],fun ae=>tO (rI .u8) ((ae.getD 0 j8).h 0).1 ((ae.getD 0 j8).h 0).2 r4)] [false,false,false,false,false,false,false,false,true] [fun _=>[Z (rH cr [(0,an (i2.h 0).1 (i2.h 0).2 r3.bytes.length)]) 60 b r3,tip (rI .u8) 5 (i2.h 0).1 (i2.h 0).2 r3.bytes],fun sg2=>[tip (rI .u8) 5 ((sg2 8).h 0).1 ((sg2 8).h 0).2 r4,Z (rH cr [(0,an (i2.h 0).1 (i2.h 0).2 r3.bytes.length)]) 60 b r3,tip (rI .u8) 5 (i2.h 0).1 (i2.h 0).2 r3.bytes]] J mixed J J J J J
    ⟨⟨[⟨0,fun _=>K (M b 0),none⟩],_,0,1,J,⟨(fun _=>J),d⟩,J,J,J,J,J,fun _ sg2 _ _=>ac J (m1 J)⟩,
    ⟨⟨[⟨0,fun _=>K (M b 0),none⟩],_,0,0,J,⟨(fun _=>J),d⟩,J,J,J,J,J,fun _ sg2 _ _=>ac J (m1 J)⟩,
    ⟨⟨[⟨42,fun _=>K (M b 0),some 1⟩],_,0,0,J,⟨(fun _=>J),d⟩,J,J,J,J,J,fun _ sg2 _ _=>ac J (aD (D J))⟩,
    ⟨⟨[⟨43,fun _=>K (M b 0),some 2⟩],_,0,0,J,⟨(fun _=>J),d⟩,J,J,J,J,J,fun _ sg2 _ _=>ac J (oz 0 mj J J J)⟩,
    ⟨⟨[⟨44,fun _=>K (M b 0),some 3⟩],_,0,0,J,⟨(fun _=>J),d⟩,J,J,J,J,J,mC (fun sg2=>ac J (lc ny J (.head _) (.tail _ (.head _)) (D J)))⟩,
    ⟨⟨[⟨3,fun _=>cH fL p,none⟩],_,0,0,J,⟨(fun _=>J),d⟩,J,J,J,J,J,fun _ sg2 _ _=>ac J (uv qf gY J J)⟩,
    ⟨⟨[⟨46,fun _=>cH mI p.Batch,some 5⟩],_,0,0,J,⟨(fun _=>J),d⟩,J,J,J,J,J,fun _ sg2 _ _=>ac J (uv xb nS J J)⟩,
    ⟨⟨[⟨47,fun _=>cH lL p.Batch.Count,some 6⟩],_,0,0,J,⟨(fun _=>J),d⟩,J,J,J,J,J,fun _ sg2 _ _=>ac J (AJ oA J J)⟩,
    ⟨⟨[⟨45,fun _=>tO (rI .u8) (i2.h 0).1 (i2.h 0).2 r3.bytes,some 4⟩,⟨48,fun _=>tD lL p.Batch.Count,some 7⟩],_,J,⟨(fun _=>J),(fun _=>J),d⟩,J,J,J,fun sg2=>cm J (s5 (xs:=[.tmp 45,.tmp 48]) (ts:=[tD Fq r3.bytes,tD lL p.Batch.Count]) DU (vj _ _ q_r4) ⟨(sf (D J)),(D J),d⟩)⟩,
    d⟩⟩⟩⟩⟩⟩⟩⟩⟩ (fun sg2=>?_)
   refine(show RG _ _ _ _ [_,_,_] _ from ?_);refine s (aD (D J))<|aX 0 mj J<|d6 (EffOK.fr1 (kJ (hs' :=[(0,an ((sg2 8).h 0).1 ((sg2 8).h 0).2 r4.length)]) (u:=an ((sg2 8).h 0).1 ((sg2 8).h 0).2 r4.length) ny J J ly J ⟨.inl ⟨J,J,J⟩,d⟩ (D J) (sf (D J)) (z7 (D J)))) fun i3=>?_;refine(show RG _ _ _ _ [_,_,_] _ from ?_);exact cL<|yx<|cj<|aC<|aj<|aj<|so h▸oZ J (sg2 8) J J
  ·refine ji<|a8<|sG qf gY J<|bz xd nU HB J<|iw h VC (PE _) (eb J) fun r5 h=>aO J<|eF J J<|eF J J<|eF J J<|gU J<|gU J<|aW J<|av<|aO J<|aO J<|s (aD (D J))<|aX 0 mj J<|s (lc ny J (.head _) (.tail _ (.head _)) (D J)) ?_;refine aO J<|cu<|bT h fun l q_l h=>t6 rk J J J J gZ J J (D J) (D J) q_l fun l1 c=>s (aD (D J))<|aX 0 mj J<|d6 (EffOK.fr1 (kJ (hs' :=[(0,an l1 c l.length)]) (u:=an l1 c l.length) ny J J ly J ⟨.inl ⟨J,J,J⟩,d⟩ (D J) (sf (D J)) (z7 (D J)))) fun i4=>?_;refine(show RG _ _ _ _ [_,_] _ from ?_);exact aS<|aj<|aj<|so h▸dW J (o5 [(l1,c)]) J J

def Ua(b:Nat)(ix:OI) w1 m{R}(h:pR w1 m=some R):bd aV 30 [K (M b 0),tD fS m] (ea b w1 ix) (fun _:OI=>tT []) (fun j=>ea b R j):=by
 refine bd.of Tryz.func30 J J J fun w0 S0=>?_;refine(show CG _ _ _ [Z (rH cr [(0,an (ix.h 0).1 (ix.h 0).2 w1.bytes.length)]) 60 b w1,tip (rI .u8) 5 (ix.h 0).1 (ix.h 0).2 w1.bytes] _ from ?_);refine a8<|eG J<|bp<|ay J<|bz w9 sX bS J<|bz BJ yc bS J<|bz BI yb bS J<|bz ze vf bS J<|s (aY (r:=bH) (ys:=[m.Kind,m.From,m.To,m.Epoch]) (xs:=[.tmp 6,.tmp 8,.tmp 10,.tmp 12]) er bS J J J J J ⟨(D J),(D J),(D J),(D J),d⟩)<|bT h fun r q_r h=>aR (EffOK.fr1 (EffOK.fr1 (au (xs:=[.tmp 4,.tmp 13]) (ts:=[K (M b 0),nj ([m.Kind,m.From,m.To,m.Epoch])]) (ea b w1 ix) _ J uu (o7 b ix w1 _ q_r) ⟨(D J),(D J),d⟩ (fun _=>J)))) J fun i=>?_;refine(show RG _ _ _ _ [_,_] ((14,tT [])::_)from ?_);refine bp<|a8<|bz w9 sX bS J<|bp<|aA<|a8<|bM J<|aW J<|iX h J (fun h=>?_) (fun h=>?_)
 ·refine ay J<|bz zc vd bS J<|s (aY (r:=bH) (ys:=[m.Sites]) (xs:=[.tmp 21]) er bS J J J J J ⟨(D J),d⟩)<|bT h fun r1 q_r1 h=>aR (EffOK.fr1 (EffOK.fr1 (au (xs:=[.tmp 19,.tmp 22]) (ts:=[K (M b 0),nj ([m.Sites])]) (ea b r i) _ J uu (o7 b i r _ q_r1) ⟨(D J),(D J),d⟩ (fun _=>J)))) J fun i1=>?_;refine(show RG _ _ _ _ [_,_] ((23,tT [])::_)from ?_);refine bp<|av<|aO J<|bz BH ya qa J<|bT h fun r2 q_r2 h=>aR (EffOK.fr1 (EffOK.fr1 (au (xs:=[.tmp 24,.tmp 26]) (ts:=[K (M b 0),tD kj m.Plan]) (ea b r1 i1) _ J Ul (Qp b i1 r1 _ q_r2) ⟨(D J),(D J),d⟩ (fun _=>J)))) J fun i2=>?_;refine(show RG _ _ _ _ [_,_] ((27,tT [])::_)from ?_);exact aS<|aF<|aj<|aj<|so h▸dW J i2 J J
 ·refine gR (bx:=fun x=>lh m r x=some R) (Of:=fun x=>[Z (rH cr [(0,an (i.h 0).1 (i.h 0).2 r.bytes.length)]) 60 b r,tip (rI .u8) 5 (i.h 0).1 (i.h 0).2 r.bytes]) (Gf:=fun x=>[(0,K (M b 0)),(3,cH fS m),(16,bA m.Kind),(28,gw x)]) (fun x h=>?_) (fun tV=>?_)
  ·skip
   refine iX h J (fun h=>?_) (fun h=>?_)
   ·refine ay J<|bz zd ve bS J<|s (aY (r:=bH) (ys:=[m.Frag]) (xs:=[.tmp 33]) er bS J J J J J ⟨(D J),d⟩)<|bT h fun r3 q_r3 h=>aR (EffOK.fr1 (EffOK.fr1 (au (xs:=[.tmp 31,.tmp 34]) (ts:=[K (M b 0),nj ([m.Frag])]) (ea b r i) _ J uu (o7 b i r _ q_r3) ⟨(D J),(D J),d⟩ (fun _=>J)))) J fun i3=>?_;refine(show RG _ _ _ _ [_,_] ((35,tT [])::_)from ?_);refine bp<|av<|aO J<|bz zb vc Ks J<|bT h fun r4 q_r4 h=>aR (EffOK.fr1 (EffOK.fr1 (au (xs:=[.tmp 36,.tmp 38]) (ts:=[K (M b 0),tD fL m.Packet]) (ea b r3 i3) _ J Wy (T5 b i3 r3 _ q_r4) ⟨(D J),(D J),d⟩ (fun _=>J)))) J fun i4=>?_;refine(show RG _ _ _ _ [_,_] ((39,tT [])::_)from ?_);exact aS<|aF<|aj<|aj<|so h▸dW J i4 J J
   ·refine a8<|bM J<|aW J<|iX h J (fun h=>?_) (fun h=>?_)
    ·refine av<|aO J<|bz za vb yN J<|bM J<|bT h fun r5 q_r5 h=>aR (EffOK.fr1 (EffOK.fr1 (au (xs:=[.tmp 42,.tmp 45]) (ts:=[K (M b 0),gw (m.Err==(300:Int))]) (ea b r i) _ J PN (JP b i r _ q_r5) ⟨(D J),(D J),d⟩ (fun _=>J)))) J fun i5=>?_;refine(show RG _ _ _ _ [_,_] ((46,tT [])::_)from ?_);exact aS<|aF<|aj<|aj<|so h▸dW J i5 J J
    ·exact bD<|aF<|aj<|aj<|so h▸dW J i J J
  ·skip
   refine a8<|bM J<|aW J<|iX h J (fun h=>?_) (fun h=>?_)
   ·refine bD ?_;exact bP (tV (m.Kind==(3:Int)) h) (bj J)
   ·refine av<|bM J<|gU J<|aS ?_;exact bP (tV (m.Kind==(4:Int)) h) (bj J)

def Sw m{R}(h:xX m=some R):dy aV 12 [tD fS m] (tT [ep ((rI .u8)) R.1,bA R.2]):=by
 refine eu Tryz.func12 J<|a8<|eG J<|kb ((rI .u8))<|cC<|bp<|bm<|eJ v7 J<|iw h WK (RU _) (eb J) fun r h=>s (fH (D J))<|dd h J (fun h=>?_) (fun h=>?_)
 ·exact a8<|kb ((rI .u8))<|fZ<|aC<|so h▸ev J J J
 ·refine ji<|a8<|s (eh (r:=rH cr [(0,.slice none 0 0)]) (y:=Kj) Td TP (zH CW ⟨J,d⟩) (J))<|qx (D J) J fun b=>cz true (rI .u8) 5 ?_;refine(show RG _ _ _ _ [_,_] _ from ?_);refine aW J<|ay J<|eJ v7 J<|bT h fun r1 q_r1 h=>aR (EffOK.fr1 (au (xs:=[.tmp 11,.tmp 12]) (ts:=[K (M b 0),tD fS m]) (ea b Kj N1) _ J WJ (Ua b N1 Kj _ q_r1) ⟨(D J),(D J),d⟩ (fun _=>J))) J fun i=>?_;refine(show RG _ _ _ _ [_,_] ((13,tT [])::_)from ?_);refine bp<|ay J<|s (aD (D J))<|aX 0 mj J<|s (lc ny J (.head _) (.tail _ (.head _)) (D J))<|uE h WL (O0 _) ⟨(sf (D J)),d⟩ fun r2 h l c=>aW J<|bm<|aO J<|s (hD gZ (.head _) (D J))<|s (jL (D J) hI)<|dd h J (fun h=>?_) (fun h=>?_)
  ·exact a8<|kb ((rI .u8))<|fZ<|aC<|ba<|ba<|ba<|so h▸ev J J J
  ·exact ji<|ay J<|gU J<|fZ<|df<|bJ 2 J<|bJ 18 J<|bJ 5 J<|bJ 19 J<|bJ 22 J<|fE 2 J<|ba<|ba<|ba<|so h▸ev J J J

def Nh a1 b{R}(h:ot a1 b=some R):dy aV 17 [ep ((rI .u8)) a1,ep ((rI .u8)) b] (gw R):=by
 exact eu Tryz.func17 J<|a8<|bE<|bp<|ay J<|s (y0 gZ sD AG rk J (D J))<|aO J<|s (y0 gZ sD AG rk J (D J))<|s (OJ (D J) (D J))<|bk J<|so h▸aQ J J

def SB{R}(h:u0=some R):dy aV 10 [] (gw R):=by
 refine eu Tryz.func10 J<|a8<|bE<|bp<|a8<|s (eh (y:=(⟨(2:Int),(2:Int),(0:Int),(3:Int),(0:Int),(0:Int),(⟨[]⟩:iu),(⟨(0:Int),(0:Int),(0:Int),(0:Int),(⟨[],false,(0:Int)⟩:mZ)⟩:kW),(0:Int)⟩:oY)) v7 MZ yK (⟨_,_,_,_,_,J,FQ,J,hI,⟨_,_,_,_,_,J,FP,J,hI,⟨_,_,_,_,_,J,FO,J,hI,J⟩⟩⟩))<|iw h WO (Sw _) (eb J) fun r h=>aO J<|eF J J<|eF J J<|gU J<|aW J<|ay J<|bM J<|aO J<|ah J (cN J) ?_;refine ah J (ml gZ J)<|ah J (kL J)<|cB J<|aO J<|bT h fun t q_t h=>ah J (cN J) ?_
 obtain⟨y,h1t,h0t⟩:=og q_t
 have q_yg:=fun W=>(h1t W).1
 refine ah J (fun X=>Id gZ rk J (bC J X) hI (q_yg X))<|ah J (fun X=>aY (r:=(rI .u8)) (ys:=[(2:Int),(2:Int),(0:Int),(3:Int)]) (xs:=[.const (.int .u8 (2)),.const (.int .u8 (2)),.const (.int .u8 (0)),.const (.int .u8 (3))]) gZ rk J J J J J ⟨hI,hI,hI,hI,d⟩) ?_
 obtain⟨r1,h1t⟩:=og2 (fun W=>(h1t W).2)
 have q_r1g:=fun W=>(h1t W).1
 exact ah J (fun X=>c7 Vf (Nh _ _ (q_r1g X)) ⟨(bC J X),(bC J X),d⟩)<|s (cA (D J) (fun W=>(bC J W)) (fun W=>(h1t W).2) h0t)<|bk J<|so h▸aQ J J

end Go.Proofs.YtdohlidddcgfjaaGreat

