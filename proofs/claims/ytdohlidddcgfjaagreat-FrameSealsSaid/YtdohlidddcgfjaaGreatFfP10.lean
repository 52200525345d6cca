/- bS of this claim: P10. -/
import Derived.Test.YtdohlidddcgfjaaGreatFfT
import Derived.Test.YtdohlidddcgfjaaGreatFfP9
set_option linter.all false
namespace Go.Proofs.YtdohlidddcgfjaaGreat
open Go
set_option maxRecDepth 100000

def aa7(b:Nat)(ix:OI) w1 p{R}(h:mq w1 p=some R):bk aY 60 [Z (M b 0),tD cz p] (fm b w1 ix) (fun _:OI=>tT []) (fun j=>fm b R j):=by
 refine bk.of Tryz.func60 J J J fun w0 S0=>?_;refine(show CG _ _ _ [Q (rH cX [(0,av (ix.h 0).1 (ix.h 0).2 w1.bytes.length)]) 60 b w1,tip (rI .u8) 5 (ix.h 0).1 (ix.h 0).2 w1.bytes] _ from ?_);refine bc<|fx J<|br<|aU<|bL h fun r q_r h=>bL h fun r1 q_r1 h=>?_
 refine iX 11 [tc (Z (M b 0)),tc (Z (M b 0)),tc (Z (M b 0)),tc (Z (M b 0)),tc (tO (rI .u8) (ix.h 0).1 (ix.h 0).2 w1.bytes),tc (dk od p.Session),tc (tD od p.Session),tc (eg ((rI .u8)) r),tc (dk mi p.Seq),tc (tD mi p.Seq),([10],fun ae=>tO (rI .u8) ((ae.getD 0 jQ).h 0).1 ((ae.getD 0 jQ).h 0).2 r1)] [false,false,false,false,false,false,false,false,false,false,true] [fun _=>[Q (rH cX [(0,av (ix.h 0).1 (ix.h 0).2 w1.bytes.length)]) 60 b w1,tip (rI .u8) 5 (ix.h 0).1 (ix.h 0).2 w1.bytes],fun sg=>[tip (rI .u8) 5 ((sg 10).h 0).1 ((sg 10).h 0).2 r1,Q (rH cX [(0,av (ix.h 0).1 (ix.h 0).2 w1.bytes.length)]) 60 b w1,tip (rI .u8) 5 (ix.h 0).1 (ix.h 0).2 w1.bytes]] J mixed J J J J J
  ⟨⟨[⟨0,fun _=>Z (M b 0),none⟩],_,0,1,J,⟨(fun _=>J),aM⟩,J,J,J,J,J,fun _ sg _ _=>ac J (mn J)⟩,
  ⟨⟨[⟨0,fun _=>Z (M b 0),none⟩],_,0,0,J,⟨(fun _=>J),aM⟩,J,J,J,J,J,fun _ sg _ _=>ac J (mn J)⟩,
  ⟨⟨[⟨8,fun _=>Z (M b 0),some 1⟩],_,0,0,J,⟨(fun _=>J),aM⟩,J,J,J,J,J,fun _ sg _ _=>ac J (aC (D J))⟩,
  ⟨⟨[⟨9,fun _=>Z (M b 0),some 2⟩],_,0,0,J,⟨(fun _=>J),aM⟩,J,J,J,J,J,fun _ sg _ _=>ac J (oZ 0 oS J J J)⟩,
  ⟨⟨[⟨10,fun _=>Z (M b 0),some 3⟩],_,0,0,J,⟨(fun _=>J),aM⟩,J,J,J,J,J,nO (fun sg=>ac J (nm qa J (.head _) (.tail _ (.head _)) (D J)))⟩,
  ⟨⟨[⟨3,fun _=>dk cz p,none⟩],_,0,0,J,⟨(fun _=>J),aM⟩,J,J,J,J,J,fun _ sg _ _=>ac J (xm IU uM J J)⟩,
  ⟨⟨[⟨12,fun _=>dk od p.Session,some 5⟩],_,0,0,J,⟨(fun _=>J),aM⟩,J,J,J,J,J,fun _ sg _ _=>ac J (Eb re J J)⟩,
  ⟨⟨[⟨11,fun _=>tO (rI .u8) (ix.h 0).1 (ix.h 0).2 w1.bytes,some 4⟩,⟨13,fun _=>tD od p.Session,some 6⟩],_,0,0,J,⟨(fun _=>J),(fun _=>J),aM⟩,J,J,J,J,J,fun _ sg _ _=>ac J (dz Xw (Wc _ _ q_r) ⟨(rq (D J)),(D J),aM⟩)⟩,
  ⟨⟨[⟨3,fun _=>dk cz p,none⟩],_,0,0,J,⟨(fun _=>J),aM⟩,J,J,J,J,J,fun _ sg _ _=>ac J (xm Ak oL J J)⟩,
  ⟨⟨[⟨15,fun _=>dk mi p.Seq,some 8⟩],_,0,0,J,⟨(fun _=>J),aM⟩,J,J,J,J,J,fun _ sg _ _=>ac J (Eb pN J J)⟩,
  ⟨⟨[⟨14,fun _=>tD JI r,some 7⟩,⟨16,fun _=>tD mi p.Seq,some 9⟩],_,J,⟨(fun _=>J),(fun _=>J),aM⟩,J,J,J,fun sg=>bY J (vJ (xs:=[.tmp 14,.tmp 16]) (ts:=[tD JI r,tD mi p.Seq]) HA (yo _ _ q_r1) ⟨(D J),(D J),aM⟩)⟩,
  aM⟩⟩⟩⟩⟩⟩⟩⟩⟩⟩⟩ (fun sg=>?_)
 refine(show RG _ _ _ _ [_,_,_] _ from ?_);refine s (aC (D J))<|aW 0 oS J<|fb (EffOK.fr1 (md (hs' :=[(0,av ((sg 10).h 0).1 ((sg 10).h 0).2 r1.length)]) (u:=av ((sg 10).h 0).1 ((sg 10).h 0).2 r1.length) qa J J m0 J ⟨.inl ⟨J,J,J⟩,aM⟩ (D J) (rq (D J)) (Dm (D J)))) fun i=>?_;refine(show RG _ _ _ _ [_,_,_] _ from ?_);refine cI<|BQ<|br<|bm<|bG Fm sq b9 J<|bU J<|c0 h J (fun h=>?_) (fun h=>?_)
 ·refine aU<|bL h fun r2 q_r2 h=>?_
  refine iX 8 [tc (Z (M b 0)),tc (Z (M b 0)),tc (Z (M b 0)),tc (Z (M b 0)),tc (tO (rI .u8) ((sg 10).h 0).1 ((sg 10).h 0).2 r1),tc (dk mi p.Limit),tc (tD mi p.Limit),([7],fun ae=>tO (rI .u8) ((ae.getD 0 jQ).h 0).1 ((ae.getD 0 jQ).h 0).2 r2)] [false,false,false,false,false,false,false,true] [fun _=>[Q (rH cX [(0,av ((sg 10).h 0).1 ((sg 10).h 0).2 r1.length)]) 60 b ({w1 with bytes:=r1}:aT),tip (rI .u8) 5 ((sg 10).h 0).1 ((sg 10).h 0).2 r1],fun sg1=>[tip (rI .u8) 5 ((sg1 7).h 0).1 ((sg1 7).h 0).2 r2,Q (rH cX [(0,av ((sg 10).h 0).1 ((sg 10).h 0).2 r1.length)]) 60 b ({w1 with bytes:=r1}:aT),tip (rI .u8) 5 ((sg 10).h 0).1 ((sg 10).h 0).2 r1]] J mixed J J J J J
   ⟨⟨[⟨0,fun _=>Z (M b 0),none⟩],_,0,1,J,⟨(fun _=>J),aM⟩,J,J,J,J,J,fun _ sg1 _ _=>ac J (mn J)⟩,
   ⟨⟨[⟨0,fun _=>Z (M b 0),none⟩],_,0,0,J,⟨(fun _=>J),aM⟩,J,J,J,J,J,fun _ sg1 _ _=>ac J (mn J)⟩,
   ⟨⟨[⟨24,fun _=>Z (M b 0),some 1⟩],_,0,0,J,⟨(fun _=>J),aM⟩,J,J,J,J,J,fun _ sg1 _ _=>ac J (aC (D J))⟩,
   ⟨⟨[⟨25,fun _=>Z (M b 0),some 2⟩],_,0,0,J,⟨(fun _=>J),aM⟩,J,J,J,J,J,fun _ sg1 _ _=>ac J (oZ 0 oS J J J)⟩,
   ⟨⟨[⟨26,fun _=>Z (M b 0),some 3⟩],_,0,0,J,⟨(fun _=>J),aM⟩,J,J,J,J,J,nO (fun sg1=>ac J (nm qa J (.head _) (.tail _ (.head _)) (D J)))⟩,
   ⟨⟨[⟨3,fun _=>dk cz p,none⟩],_,0,0,J,⟨(fun _=>J),aM⟩,J,J,J,J,J,fun _ sg1 _ _=>ac J (xm Aj qz J J)⟩,
   ⟨⟨[⟨28,fun _=>dk mi p.Limit,some 5⟩],_,0,0,J,⟨(fun _=>J),aM⟩,J,J,J,J,J,fun _ sg1 _ _=>ac J (Eb pN J J)⟩,
   ⟨⟨[⟨27,fun _=>tO (rI .u8) ((sg 10).h 0).1 ((sg 10).h 0).2 r1,some 4⟩,⟨29,fun _=>tD mi p.Limit,some 6⟩],_,J,⟨(fun _=>J),(fun _=>J),aM⟩,J,J,J,fun sg1=>bY J (vJ (xs:=[.tmp 27,.tmp 29]) (ts:=[tD JI r1,tD mi p.Limit]) HA (yo _ _ q_r2) ⟨(rq (D J)),(D J),aM⟩)⟩,
   aM⟩⟩⟩⟩⟩⟩⟩⟩ (fun sg1=>?_)
  refine(show RG _ _ _ _ [_,_,_] _ from ?_);refine s (aC (D J))<|aW 0 oS J<|fb (EffOK.fr1 (md (hs' :=[(0,av ((sg1 7).h 0).1 ((sg1 7).h 0).2 r2.length)]) (u:=av ((sg1 7).h 0).1 ((sg1 7).h 0).2 r2.length) qa J J m0 J ⟨.inl ⟨J,J,J⟩,aM⟩ (D J) (rq (D J)) (Dm (D J)))) fun i1=>?_;refine(show RG _ _ _ _ [_,_,_] _ from ?_);exact cI<|BQ<|bQ<|au<|ah<|ah<|so h▸rb J (sg1 7) J J
 ·refine jf<|aB J<|sf oT fz J<|bG wB oQ Aw J<|bL h fun r3 q_r3 h=>aL (EffOK.fr1 (EffOK.fr1 (an (xs:=[.tmp 33,.tmp 36]) (ts:=[Z (M b 0),gR p.Batch.End]) (fm b ({w1 with bytes:=r1}:aT) (sg 10)) _ J Wn (OX b (sg 10) ({w1 with bytes:=r1}:aT) _ q_r3) ⟨(D J),(D J),aM⟩ (fun _=>J)))) J fun i2=>?_;refine(show RG _ _ _ _ [_,_] ((37,tT [])::_)from ?_);refine br<|bm<|sf oT fz J<|bG wB oQ Aw J<|c0 h J (fun h=>?_) (fun h=>?_)
  ·refine aU<|bL h fun r4 q_r4 h=>?_
   refine iX 9 [tc (Z (M b 0)),tc (Z (M b 0)),tc (Z (M b 0)),tc (Z (M b 0)),tc (tO (rI .u8) (i2.h 0).1 (i2.h 0).2 r3.bytes),tc (dk ky p.Batch),tc (dk mi p.Batch.Count),tc (tD mi p.Batch.Count),([8],fun ae=>tO (rI .u8) ((ae.getD 0 jQ).h 0).1 ((ae.getD 0 jQ).h 0).2 r4)] [false,false,false,false,false,false,false,false,true] [fun _=>[Q (rH cX [(0,av (i2.h 0).1 (i2.h 0).2 r3.bytes.length)]) 60 b r3,tip (rI .u8) 5 (i2.h 0).1 (i2.h 0).2 r3.bytes],fun sg2=>[tip (rI .u8) 5 ((sg2 8).h 0).1 ((sg2 8).h 0).2 r4,Q (rH cX [(0,av (i2.h 0).1 (i2.h 0).2 r3.bytes.length)]) 60 b r3,tip (rI .u8) 5 (i2.h 0).1 (i2.h 0).2 r3.bytes]] J mixed J J J J J
    ⟨⟨[⟨0,fun _=>Z (M b 0),none⟩],_,0,1,J,⟨(fun _=>J),aM⟩,J,J,J,J,J,fun _ sg2 _ _=>ac J (mn J)⟩,
    ⟨⟨[⟨0,fun _=>Z (M b 0),none⟩],_,0,0,J,⟨(fun _=>J),aM⟩,J,J,J,J,J,fun _ sg2 _ _=>ac J (mn J)⟩,
    ⟨⟨[⟨42,fun _=>Z (M b 0),some 1⟩],_,0,0,J,⟨(fun _=>J),aM⟩,J,J,J,J,J,fun _ sg2 _ _=>ac J (aC (D J))⟩,
    ⟨⟨[⟨43,fun _=>Z (M b 0),some 2⟩],_,0,0,J,⟨(fun _=>J),aM⟩,J,J,J,J,J,fun _ sg2 _ _=>ac J (oZ 0 oS J J J)⟩,
    ⟨⟨[⟨44,fun _=>Z (M b 0),some 3⟩],_,0,0,J,⟨(fun _=>J),aM⟩,J,J,J,J,J,nO (fun sg2=>ac J (nm qa J (.head _) (.tail _ (.head _)) (D J)))⟩,
    ⟨⟨[⟨3,fun _=>dk cz p,none⟩],_,0,0,J,⟨(fun _=>J),aM⟩,J,J,J,J,J,fun _ sg2 _ _=>ac J (xm oT fz J J)⟩,
    ⟨⟨[⟨46,fun _=>dk ky p.Batch,some 5⟩],_,0,0,J,⟨(fun _=>J),aM⟩,J,J,J,J,J,fun _ sg2 _ _=>ac J (xm yn qi J J)⟩,
    ⟨⟨[⟨47,fun _=>dk mi p.Batch.Count,some 6⟩],_,0,0,J,⟨(fun _=>J),aM⟩,J,J,J,J,J,fun _ sg2 _ _=>ac J (Eb pN J J)⟩,
    ⟨⟨[⟨45,fun _=>tO (rI .u8) (i2.h 0).1 (i2.h 0).2 r3.bytes,some 4⟩,⟨48,fun _=>tD mi p.Batch.Count,some 7⟩],_,J,⟨(fun _=>J),(fun _=>J),aM⟩,J,J,J,fun sg2=>bY J (vJ (xs:=[.tmp 45,.tmp 48]) (ts:=[tD JI r3.bytes,tD mi p.Batch.Count]) HA (yo _ _ q_r4) ⟨(rq (D J)),(D J),aM⟩)⟩,
    aM⟩⟩⟩⟩⟩⟩⟩⟩⟩ (fun sg2=>?_)
   refine(show RG _ _ _ _ [_,_,_] _ from ?_);refine s (aC (D J))<|aW 0 oS J<|fb (EffOK.fr1 (md (hs' :=[(0,av ((sg2 8).h 0).1 ((sg2 8).h 0).2 r4.length)]) (u:=av ((sg2 8).h 0).1 ((sg2 8).h 0).2 r4.length) qa J J m0 J ⟨.inl ⟨J,J,J⟩,aM⟩ (D J) (rq (D J)) (Dm (D J)))) fun i3=>?_;refine(show RG _ _ _ _ [_,_,_] _ from ?_);exact cI<|BQ<|bQ<|au<|ah<|ah<|so h▸rb J (sg2 8) J J
  ·refine jf<|bc<|sf oT fz J<|bG wC oR Ij J<|iq h acH (Wb _) (ez J) fun r5 h=>aR J<|ei J J<|ei J J<|ei J J<|ia J<|ia J<|a8 J<|ax<|aR J<|aR J<|s (aC (D J))<|aW 0 oS J<|s (nm qa J (.head _) (.tail _ (.head _)) (D J)) ?_;refine aR J<|cN<|bL h fun l q_l h=>wQ qL J J J J oh J J (D J) (D J) q_l fun l1 c=>s (aC (D J))<|aW 0 oS J<|fb (EffOK.fr1 (md (hs' :=[(0,av l1 c l.length)]) (u:=av l1 c l.length) qa J J m0 J ⟨.inl ⟨J,J,J⟩,aM⟩ (D J) (rq (D J)) (Dm (D J)))) fun i4=>?_;refine(show RG _ _ _ _ [_,_] _ from ?_);exact aX<|ah<|ah<|so h▸eV J (rf [(l1,c)]) J J

def abd(b:Nat)(ix:OI) w1 m{R}(h:jZ w1 m=some R):bk aY 30 [Z (M b 0),tD fM m] (fm b w1 ix) (fun _:OI=>tT []) (fun j=>fm b R j):=by
 refine bk.of Tryz.func30 J J J fun w0 S0=>?_;refine(show CG _ _ _ [Q (rH cX [(0,av (ix.h 0).1 (ix.h 0).2 w1.bytes.length)]) 60 b w1,tip (rI .u8) 5 (ix.h 0).1 (ix.h 0).2 w1.bytes] _ from ?_);refine bc<|fx J<|br<|aB J<|bG ym t7 b9 J<|bG Fl Bv b9 J<|bG Fk Bu b9 J<|bG Cs yi b9 J<|s (ba (r:=bP) (ys:=[m.Kind,m.From,m.To,m.Epoch]) (xs:=[.tmp 6,.tmp 8,.tmp 10,.tmp 12]) fD b9 J J J J J ⟨(D J),(D J),(D J),(D J),aM⟩)<|bL h fun r q_r h=>aL (EffOK.fr1 (EffOK.fr1 (an (xs:=[.tmp 4,.tmp 13]) (ts:=[Z (M b 0),pF ([m.Kind,m.From,m.To,m.Epoch])]) (fm b w1 ix) _ J xl (rk b ix w1 _ q_r) ⟨(D J),(D J),aM⟩ (fun _=>J)))) J fun i=>?_;refine(show RG _ _ _ _ [_,_] ((14,tT [])::_)from ?_);refine br<|bc<|bG ym t7 b9 J<|br<|aA<|bc<|bU J<|a8 J<|jE h J (fun h=>?_) (fun h=>?_)
 ·refine aB J<|bG Ai yg b9 J<|s (ba (r:=bP) (ys:=[m.Sites]) (xs:=[.tmp 21]) fD b9 J J J J J ⟨(D J),aM⟩)<|bL h fun r1 q_r1 h=>aL (EffOK.fr1 (EffOK.fr1 (an (xs:=[.tmp 19,.tmp 22]) (ts:=[Z (M b 0),pF ([m.Sites])]) (fm b r i) _ J xl (rk b i r _ q_r1) ⟨(D J),(D J),aM⟩ (fun _=>J)))) J fun i1=>?_;refine(show RG _ _ _ _ [_,_] ((23,tT [])::_)from ?_);refine br<|ax<|aR J<|bG Ah yf Dl J<|bL h fun r2 q_r2 h=>aL (EffOK.fr1 (EffOK.fr1 (an (xs:=[.tmp 24,.tmp 26]) (ts:=[Z (M b 0),tD mp m.Plan]) (fm b r1 i1) _ J adD (abc b i1 r1 _ q_r2) ⟨(D J),(D J),aM⟩ (fun _=>J)))) J fun i2=>?_;refine(show RG _ _ _ _ [_,_] ((27,tT [])::_)from ?_);exact aX<|aF<|ah<|ah<|so h▸eV J i2 J J
 ·refine i0 (tV:=fun x=>kc m r x=some R) (Of:=fun x=>[Q (rH cX [(0,av (i.h 0).1 (i.h 0).2 r.bytes.length)]) 60 b r,tip (rI .u8) 5 (i.h 0).1 (i.h 0).2 r.bytes]) (Gf:=fun x=>[(0,Z (M b 0)),(3,dk fM m),(16,bB m.Kind),(28,gR x)]) (fun x h=>?_) (fun hg=>?_)
  ·skip
   refine jE h J (fun h=>?_) (fun h=>?_)
   ·refine aB J<|bG yl yh b9 J<|s (ba (r:=bP) (ys:=[m.Frag]) (xs:=[.tmp 33]) fD b9 J J J J J ⟨(D J),aM⟩)<|bL h fun r3 q_r3 h=>aL (EffOK.fr1 (EffOK.fr1 (an (xs:=[.tmp 31,.tmp 34]) (ts:=[Z (M b 0),pF ([m.Frag])]) (fm b r i) _ J xl (rk b i r _ q_r3) ⟨(D J),(D J),aM⟩ (fun _=>J)))) J fun i3=>?_;refine(show RG _ _ _ _ [_,_] ((35,tT [])::_)from ?_);refine br<|ax<|aR J<|bG wA vF sP J<|bL h fun r4 q_r4 h=>aL (EffOK.fr1 (EffOK.fr1 (an (xs:=[.tmp 36,.tmp 38]) (ts:=[Z (M b 0),tD cz m.Packet]) (fm b r3 i3) _ J adt (aa7 b i3 r3 _ q_r4) ⟨(D J),(D J),aM⟩ (fun _=>J)))) J fun i4=>?_;refine(show RG _ _ _ _ [_,_] ((39,tT [])::_)from ?_);exact aX<|aF<|ah<|ah<|so h▸eV J i4 J J
   ·refine bc<|bU J<|a8 J<|jE h J (fun h=>?_) (fun h=>?_)
    ·refine ax<|aR J<|bG yk ye zO J<|bU J<|bL h fun r5 q_r5 h=>aL (EffOK.fr1 (EffOK.fr1 (an (xs:=[.tmp 42,.tmp 45]) (ts:=[Z (M b 0),gR (m.Err==(300:Int))]) (fm b r i) _ J Wn (OX b i r _ q_r5) ⟨(D J),(D J),aM⟩ (fun _=>J)))) J fun i5=>?_;refine(show RG _ _ _ _ [_,_] ((46,tT [])::_)from ?_);exact aX<|aF<|ah<|ah<|so h▸eV J i5 J J
    ·exact bE<|aF<|ah<|ah<|so h▸eV J i J J
  ·skip
   refine bc<|bU J<|a8 J<|jE h J (fun h=>?_) (fun h=>?_)
   ·refine bE ?_;exact bZ (hg (m.Kind==(3:Int)) h) (bp J)
   ·refine ax<|bU J<|ia J<|aX ?_;exact bZ (hg (m.Kind==(4:Int)) h) (bp J)

def TF m{R}(h:pr m=some R):dR aY 12 [tD fM m] (tT [eg ((rI .u8)) R.1,bB R.2]):=by
 refine fc Tryz.func12 J<|bc<|fx J<|jm ((rI .u8))<|cO<|br<|bm<|fL jc J<|iq h abp (Tm _) (ez J) fun r h=>s (gO (D J))<|c0 h J (fun h=>?_) (fun h=>?_)
 ·exact bc<|jm ((rI .u8))<|gZ<|au<|so h▸fK J J J
 ·refine jf<|bc<|s (eG (r:=rH cX [(0,.slice none 0 0)]) (y:=(⟨[]⟩:aT)) acZ ac6 (zH PC ⟨J,aM⟩) (J))<|uU (D J) J fun b=>cU true (rI .u8) 5 ?_;refine(show RG _ _ _ _ [_,_] _ from ?_);refine a8 J<|aB J<|fL jc J<|bL h fun r1 q_r1 h=>aL (EffOK.fr1 (an (xs:=[.tmp 11,.tmp 12]) (ts:=[Z (M b 0),tD fM m]) (fm b (⟨[]⟩:aT) (rf [(none,0)])) _ J adI (abd b (rf [(none,0)]) (⟨[]⟩:aT) _ q_r1) ⟨(D J),(D J),aM⟩ (fun _=>J))) J fun i=>?_;refine(show RG _ _ _ _ [_,_] ((13,tT [])::_)from ?_);refine br<|aB J<|s (aC (D J))<|aW 0 oS J<|s (nm qa J (.head _) (.tail _ (.head _)) (D J))<|tE h Wo (DM _) ⟨(rq (D J)),aM⟩ fun r2 h l c=>a8 J<|bm<|aR J<|s (jg oh (.head _) (D J))<|s (gm (D J) hI)<|c0 h J (fun h=>?_) (fun h=>?_)
  ·exact bc<|jm ((rI .u8))<|gZ<|au<|aZ<|aZ<|aZ<|so h▸fK J J J
  ·exact jf<|aB J<|ia J<|gZ<|du<|bA 2 J<|bA 18 J<|bA 5 J<|bA 19 J<|bA 22 J<|fd 2 J<|aZ<|aZ<|aZ<|so h▸fK J J J

def TA a1 b{R}(h:ss a1 b=some R):dR aY 17 [eg ((rI .u8)) a1,eg ((rI .u8)) b] (gR R):=by
 exact fc Tryz.func17 J<|bc<|bz<|br<|aB J<|s (Ch oh uZ FS qL J (D J))<|aR J<|s (Ch oh uZ FS qL J (D J))<|s (Vd (D J) (D J))<|bq J<|so h▸aN J J

def Zv{R}(h:xZ=some R):dR aY 10 [] (gR R):=by
 refine fc Tryz.func10 J<|bc<|bz<|br<|bc<|s (eG (y:=(⟨(2:Int),(2:Int),(0:Int),(3:Int),(0:Int),(0:Int),vn,rn,(0:Int)⟩:bT)) jc K9 p7 (⟨_,_,_,_,_,J,EB,J,hI,⟨_,_,_,_,_,J,EA,J,hI,⟨_,_,_,_,_,J,Ez,J,hI,J⟩⟩⟩))<|iq h acF (TF _) (ez J) fun r h=>aR J<|ei J J<|ei J J<|ia J<|a8 J<|aB J<|bU J<|aR J<|ai J (dy J) ?_;refine ai J (mf oh J)<|ai J (mD J)<|de J<|aR J<|bL h fun t q_t h=>ai J (dy J) ?_
 obtain⟨y,h1t,h0t⟩:=og q_t
 have q_yg:=fun H=>(h1t H).1
 refine ai J (fun K=>z7 oh qL J (bM J K) hI (q_yg K))<|ai J (fun K=>ba (r:=(rI .u8)) (ys:=[(2:Int),(2:Int),(0:Int),(3:Int)]) (xs:=[.const (.int .u8 (2)),.const (.int .u8 (2)),.const (.int .u8 (0)),.const (.int .u8 (3))]) oh qL J J J J J ⟨hI,hI,hI,hI,aM⟩) ?_
 obtain⟨r1,h1t⟩:=og2 (fun H=>(h1t H).2)
 have q_r1g:=fun H=>(h1t H).1
 exact ai J (fun K=>dz acl (TA _ _ (q_r1g K)) ⟨(bM J K),(bM J K),aM⟩)<|s (dj (D J) (fun H=>(bM J H)) (fun H=>(h1t H).2) h0t)<|bq J<|so h▸aN J J

def Nb e{R}(h:ll e=some R):dR aY 80 [tD cW e] (gR R):=by
 refine fc Tryz.func80 J<|bc<|fx J<|bz<|br<|bm<|bG rF kY B2 J<|cr sK J<|s (gm (D J) hI)<|c0 h J (fun h=>?_) (fun h=>?_)
 ·exact bc<|bz<|bQ<|au<|so h▸aN J J
 ·refine jf<|bm<|bG rF kY B2 J<|cr sK J<|s (bR hI)<|br<|aA<|bt (k:=10) J fun hN=>bN ?_;refine aV (fC (tV:=fun ls i=>(e.Nodes.drop i=ls)/\kb ls=some R) (Of:=fun _ i=>[]) (Gf:=fun _ i=>[(10,eg (bC) e.Nodes),(11,nL e.Nodes),(12,bB (i:Int))]) (fun i h=>?_) (fun e1 tl ih i h=>?_) e.Nodes 0 ⟨J,h⟩) (bp J)
  ·obtain⟨V,h⟩:=h
   exact fv V J<|aG<|bc<|bz<|bQ<|so h▸aN J J
  ·obtain⟨V,h⟩:=h
   refine ft V J<|aU<|aA<|bc<|fV sK jC J (eK V)<|bv jC se J fun b=>bw jC aw J<|be 4 J<|br<|bc<|sf wG qh J ?_;refine bG wH rD WM J<|s (DC FS (D J))<|s (gm (D J) hI)<|c0 h J (fun h=>?_) (fun h=>?_)
   ·exact bc<|bz<|bQ<|eu<|au<|eu<|so h▸aN J J
   ·refine bE<|d6 V hN J ?_;exact bj (aV (ih (i+1) ⟨dZ V,h⟩) (bp J))

def YP l{R}(h:np l=some R):dR aY 39 [eg (bl) l] (gR R):=by
 refine fc Tryz.func39 J<|bc<|bz<|br<|bm<|aR J<|cr uj J<|s (gm (D J) hI)<|c0 h J (fun h=>?_) (fun h=>?_)
 ·exact bc<|bz<|bQ<|au<|so h▸aN J J
 ·refine jf<|bm<|aR J<|cr uj J<|s (bR hI)<|br<|aA<|bt (k:=12) J fun hN=>bN ?_;refine aV (fC (tV:=fun ls i=>(l.drop i=ls)/\eP ls=some R) (Of:=fun _ i=>[]) (Gf:=fun _ i=>[(12,eg (bl) l),(13,nL l),(14,bB (i:Int))]) (fun i h=>?_) (fun e tl ih i h=>?_) l 0 ⟨J,h⟩) (bp J)
  ·obtain⟨V,h⟩:=h
   exact fv V J<|aG<|bc<|bz<|bQ<|so h▸aN J J
  ·obtain⟨V,h⟩:=h
   refine ft V J<|aU<|aA<|bc<|fV uj gB J (eK V)<|bv gB k9 J fun b=>bw gB aw J<|be 4 J<|br<|bm ?_;refine bG q5 jA dc J<|cr fD J<|s (gm (D J) hI)<|aR J<|bD J (ci qj iU J J)<|bD J (ce dc J J)<|bD J (mf fD J)<|bD J (fun K=>gm (bM J K) hI)<|j5 J<|aR J<|bD J (ci sZ m4 J J)<|bD J (ce Ih J J)<|bD J (mf y8 J)<|bD J (fun K=>gm (bM J K) hI)<|j5 J<|aR J<|bD J (ci wx oM J J)<|bD J (ce Ii J J)<|bD J (mf xr J)<|bD J (fun K=>gm (bM J K) hI)<|j5 J<|aR J<|bD J (ci nT gx J J) ?_;refine bD J (ce xh J J)<|bD J (mf qG J)<|bD J (fun K=>gm (bM J K) hI)<|j5 J<|aR J<|bL h fun t q_t h=>bD J (ci ve oN J J)<|bD J (ce lc J J) ?_
   obtain⟨r,h1t,h0t⟩:=og q_t
   have q_rg:=fun H=>(h1t H).1
   refine bD J (fun K=>dz ZF (Nb _ (q_rg K)) ⟨(bM J K),aM⟩)<|s (ru (D J) (fun H=>(bM J (zb H))) (fun H=>(h1t H).2) h0t)<|c0 h J (fun h=>?_) (fun h=>?_)
   ·exact bc<|bz<|bQ<|au<|eu<|au<|eu<|so h▸aN J J
   ·refine jf<|bm<|bG wx oM Ii J<|cr xr J<|s (bR hI)<|br<|aA<|bt (k:=52) J fun hN1=>bN ?_;refine aV (fC (tV:=fun ls1 i1=>(e.Items.drop i1=ls1)/\jx (eP tl) e ls1=some R) (Of:=fun _ i1=>[]) (Gf:=fun _ i1=>[(4,dk bl e),(12,eg (bl) l),(13,nL l),(14,bB (i:Int)),(52,eg (cW) e.Items),(53,nL e.Items),(54,bB (i1:Int))]) (fun i1 h=>?_) (fun e1 tl1 ih1 i1 h=>?_) e.Items 0 ⟨J,h⟩) (bp J)
    ·obtain⟨hx1,h⟩:=h
     refine fv hx1 J<|aG<|bc<|bG nT gx xh J<|cr qG J<|s (bR hI)<|br<|aA<|bt (k:=62) J fun hN2=>bN ?_;refine aV (fC (tV:=fun ls2 i2=>(e.Aggs.drop i2=ls2)/\il (eP tl) ls2=some R) (Of:=fun _ i2=>[]) (Gf:=fun _ i2=>[(12,eg (bl) l),(13,nL l),(14,bB (i:Int)),(62,eg (fN) e.Aggs),(63,nL e.Aggs),(64,bB (i2:Int))]) (fun i2 h=>?_) (fun e2 tl2 ih2 i2 h=>?_) e.Aggs 0 ⟨J,h⟩) (bp J)
     ·obtain⟨hx2,h⟩:=h
      refine fv hx2 J<|d6 V hN J ?_;exact bj (aV (ih (i+1) ⟨dZ V,h⟩) (bp J))
     ·obtain⟨hx2,h⟩:=h
      refine ft hx2 J<|aU<|aA<|bc<|fV qG kR J (eK hx2)<|bv kR u0 J fun b1=>bw kR aw J<|be 8 J<|br<|bc<|sf s5 q0 J ?_;refine fL lc J<|iq h ZF (Nb _) (ez J) fun r1 h=>c0 h J (fun h=>?_) (fun h=>?_)
      ·exact bc<|bz<|bQ<|eu<|au<|CE<|eu<|au<|eu<|so h▸aN J J
      ·refine bE<|d6 hx2 hN2 J ?_;exact bj (aV (ih2 (i2+1) ⟨dZ hx2,h⟩) (bp J))
    ·obtain⟨hx1,h⟩:=h
     refine ft hx1 J<|aU<|aA<|bc<|fV xr lc J (eK hx1)<|bv lc sM J fun b2=>bw lc aw J<|be 6 J<|br<|bc<|fL lc J ?_;refine iq h ZF (Nb _) (ez J) fun r2 h=>c0 h J (fun h=>?_) (fun h=>?_)
     ·exact bc<|bz<|bQ<|eu<|au<|eu<|eu<|au<|eu<|so h▸aN J J
     ·refine bE<|d6 hx1 hN1 J ?_;exact bj (aV (ih1 (i1+1) ⟨dZ hx1,h⟩) (bp J))

def Y8 p{R}(h:oG p=some R):dR aY 19 [tD mp p] (gR R):=by
 refine fc Tryz.func19 J<|bc<|fx J<|bz<|br<|bm<|bG wD pu Ik J<|cr xe J<|s (gm (D J) hI)<|c0 h J (fun h=>?_) (fun h=>?_)
 ·exact bc<|bz<|bQ<|au<|so h▸aN J J
 ·refine jf<|bm<|bG wD pu Ik J<|cr xe J<|s (bR hI)<|br<|aA<|bt (k:=10) J fun hN=>bN ?_;refine aV (fC (tV:=fun ls i=>(p.Frags.drop i=ls)/\ka ls=some R) (Of:=fun _ i=>[]) (Gf:=fun _ i=>[(10,eg (cJ) p.Frags),(11,nL p.Frags),(12,bB (i:Int))]) (fun i h=>?_) (fun e tl ih i h=>?_) p.Frags 0 ⟨J,h⟩) (bp J)
  ·obtain⟨V,h⟩:=h
   exact fv V J<|aG<|bc<|bz<|bQ<|so h▸aN J J
  ·obtain⟨V,h⟩:=h
   refine ft V J<|aU<|aA<|bc<|fV xe qF J (eK V)<|bv qF pU J fun b=>bw qF aw J<|be 4 J<|br<|bc<|sf Cr tm J ?_;refine fL dc J<|cr fD J<|s (gm (D J) hI)<|aR J<|bL h fun t q_t h=>bD J (ci Af tn J J)<|bD J (ce FY J J) ?_
   obtain⟨r,h1t,h0t⟩:=og q_t
   have q_rg:=fun H=>(h1t H).1
   refine bD J (fun K=>dz adF (YP _ (q_rg K)) ⟨(bM J K),aM⟩)<|s (ru (D J) (fun H=>(bM J (zb H))) (fun H=>(h1t H).2) h0t)<|c0 h J (fun h=>?_) (fun h=>?_)
   ·exact bc<|bz<|bQ<|eu<|au<|eu<|so h▸aN J J
   ·refine bE<|d6 V hN J ?_;exact bj (aV (ih (i+1) ⟨dZ V,h⟩) (bp J))

def YS l{R}(h:oF l=some R):dR aY 28 [eg (mj) l] (gR R):=by
 refine fc Tryz.func28 J<|bc<|bz<|br<|bm<|aR J<|cr vm J<|s (gm (D J) hI)<|c0 h J (fun h=>?_) (fun h=>?_)
 ·exact bc<|bz<|bQ<|au<|so h▸aN J J
 ·refine jf<|bm<|aR J<|cr vm J<|s (bR hI)<|br<|aA<|bt (k:=10) J fun hN=>bN ?_;refine aV (fC (tV:=fun ls i=>(l.drop i=ls)/\gU ls=some R) (Of:=fun _ i=>[]) (Gf:=fun _ i=>[(10,eg (mj) l),(11,nL l),(12,bB (i:Int))]) (fun i h=>?_) (fun e tl ih i h=>?_) l 0 ⟨J,h⟩) (bp J)
  ·obtain⟨V,h⟩:=h
   exact fv V J<|aG<|bc<|bz<|bQ<|so h▸aN J J
  ·obtain⟨V,h⟩:=h
   refine ft V J<|aU<|aA<|bc<|fV vm CT J (eK V)<|a8 J<|bm<|aR J<|cr AA J ?_;refine s (gm (D J) hI)<|c0 h J (fun h=>?_) (fun h=>?_)
   ·exact bc<|bz<|bQ<|au<|eu<|au<|eu<|so h▸aN J J
   ·refine jf<|aB J<|cr AA J<|s (bR hI)<|br<|aA<|bt (k:=19) J fun hN1=>bN ?_;refine aV (fC (tV:=fun ls1 i1=>(e.drop i1=ls1)/\j9 (gU tl) ls1=some R) (Of:=fun _ i1=>[]) (Gf:=fun _ i1=>[(10,eg (mj) l),(11,nL l),(12,bB (i:Int)),(19,eg (bg) e),(20,nL e),(21,bB (i1:Int))]) (fun i1 h=>?_) (fun e1 tl1 ih1 i1 h=>?_) e 0 ⟨J,h⟩) (bp J)
    ·obtain⟨hx1,h⟩:=h
     refine fv hx1 J<|d6 V hN J ?_;exact bj (aV (ih (i+1) ⟨dZ V,h⟩) (bp J))
    ·obtain⟨hx1,h⟩:=h
     refine ft hx1 J<|aU<|aA<|bc<|fV AA di J (eK hx1)<|bv di mB J fun b=>bw di aw J<|be 6 J<|br<|bc<|sf wH rD J ?_;refine fL WM J<|s (DC FS (D J))<|s (gm (D J) hI)<|c0 h J (fun h=>?_) (fun h=>?_)
     ·exact bc<|bz<|bQ<|eu<|au<|CE<|eu<|au<|eu<|so h▸aN J J
     ·refine bE<|d6 hx1 hN1 J ?_;exact bj (aV (ih1 (i1+1) ⟨dZ hx1,h⟩) (bp J))

end Go.Proofs.YtdohlidddcgfjaaGreat

