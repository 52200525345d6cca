/- cE of this claim: P10. -/
import Derived.Test.YtdohlidddcgfjaaGreatFcT
import Derived.Test.YtdohlidddcgfjaaGreatFcP9
set_option linter.all false
namespace Go.Proofs.YtdohlidddcgfjaaGreat
open Go
set_option maxRecDepth 100000

def ZU(b:Nat)(ix:OI) w1 p{R}(h:tF w1 p=some R):bK bd 60 [M (Z b 0),tD iw p] (fW b w1 ix) (fun _:OI=>tT []) (fun j=>fW b R j):=by
 refine bK.of Tryz.func60 J J J fun w0 S0=>?_;refine(show CG _ _ _ [bx (rH dc [(0,ay (ix.h 0).1 (ix.h 0).2 w1.bytes.length)]) 60 b w1,tip (rI .u8) 5 (ix.h 0).1 (ix.h 0).2 w1.bytes] _ from ?_);refine d<|dl J<|bu<|aP<|bR h fun r q_r h=>bR h fun r1 q_r1 h=>?_
 refine ja 11 [tc (M (Z b 0)),tc (M (Z b 0)),tc (M (Z b 0)),tc (M (Z b 0)),tc (tO (rI .u8) (ix.h 0).1 (ix.h 0).2 w1.bytes),tc (ck qc p.Session),tc (tD qc p.Session),tc (em ((rI .u8)) r),tc (ck lA p.Seq),tc (tD lA p.Seq),([10],fun ac=>tO (rI .u8) ((ac.getD 0 ml).h 0).1 ((ac.getD 0 ml).h 0).2 r1)] [false,false,false,false,false,false,false,false,false,false,true] [fun _=>[bx (rH dc [(0,ay (ix.h 0).1 (ix.h 0).2 w1.bytes.length)]) 60 b w1,tip (rI .u8) 5 (ix.h 0).1 (ix.h 0).2 w1.bytes],fun sg=>[tip (rI .u8) 5 ((sg 10).h 0).1 ((sg 10).h 0).2 r1,bx (rH dc [(0,ay (ix.h 0).1 (ix.h 0).2 w1.bytes.length)]) 60 b w1,tip (rI .u8) 5 (ix.h 0).1 (ix.h 0).2 w1.bytes]] J mixed J J J J J
  ⟨⟨[⟨0,fun _=>M (Z b 0),none⟩],_,0,1,J,⟨(fun _=>J),aZ⟩,J,J,J,J,J,fun _ sg _ _=>ai J (mt J)⟩,
  ⟨⟨[⟨0,fun _=>M (Z b 0),none⟩],_,0,0,J,⟨(fun _=>J),aZ⟩,J,J,J,J,J,fun _ sg _ _=>ai J (mt J)⟩,
  ⟨⟨[⟨8,fun _=>M (Z b 0),some 1⟩],_,0,0,J,⟨(fun _=>J),aZ⟩,J,J,J,J,J,fun _ sg _ _=>ai J (aO (D J))⟩,
  ⟨⟨[⟨9,fun _=>M (Z b 0),some 2⟩],_,0,0,J,⟨(fun _=>J),aZ⟩,J,J,J,J,J,fun _ sg _ _=>ai J (q9 0 pc J J J)⟩,
  ⟨⟨[⟨10,fun _=>M (Z b 0),some 3⟩],_,0,0,J,⟨(fun _=>J),aZ⟩,J,J,J,J,J,py (fun sg=>ai J (nE qF J (.head _) (.tail _ (.head _)) (D J)))⟩,
  ⟨⟨[⟨3,fun _=>ck iw p,none⟩],_,0,0,J,⟨(fun _=>J),aZ⟩,J,J,J,J,J,fun _ sg _ _=>ai J (oq Iu vt J J)⟩,
  ⟨⟨[⟨12,fun _=>ck qc p.Session,some 5⟩],_,0,0,J,⟨(fun _=>J),aZ⟩,J,J,J,J,J,fun _ sg _ _=>ai J (yT sa J J)⟩,
  ⟨⟨[⟨11,fun _=>tO (rI .u8) (ix.h 0).1 (ix.h 0).2 w1.bytes,some 4⟩,⟨13,fun _=>tD qc p.Session,some 6⟩],_,0,0,J,⟨(fun _=>J),(fun _=>J),aZ⟩,J,J,J,J,J,fun _ sg _ _=>ai J (cD V3 (UZ _ _ q_r) ⟨(mX (D J)),(D J),aZ⟩)⟩,
  ⟨⟨[⟨3,fun _=>ck iw p,none⟩],_,0,0,J,⟨(fun _=>J),aZ⟩,J,J,J,J,J,fun _ sg _ _=>ai J (oq As pW J J)⟩,
  ⟨⟨[⟨15,fun _=>ck lA p.Seq,some 8⟩],_,0,0,J,⟨(fun _=>J),aZ⟩,J,J,J,J,J,fun _ sg _ _=>ai J (yT qf J J)⟩,
  ⟨⟨[⟨14,fun _=>tD FN r,some 7⟩,⟨16,fun _=>tD lA p.Seq,some 9⟩],_,J,⟨(fun _=>J),(fun _=>J),aZ⟩,J,J,J,fun sg=>cP J (wv (xs:=[.tmp 14,.tmp 16]) (ts:=[tD FN r,tD lA p.Seq]) Hm (yD _ _ q_r1) ⟨(D J),(D J),aZ⟩)⟩,
  aZ⟩⟩⟩⟩⟩⟩⟩⟩⟩⟩⟩ (fun sg=>?_)
 refine(show RG _ _ _ _ [_,_,_] _ from ?_);refine s (aO (D J))<|bh 0 pc J<|fK (EffOK.fr1 (m9 (hs' :=[(0,ay ((sg 10).h 0).1 ((sg 10).h 0).2 r1.length)]) (u:=ay ((sg 10).h 0).1 ((sg 10).h 0).2 r1.length) qF J J nS J ⟨.inl ⟨J,J,J⟩,aZ⟩ (D J) (mX (D J)) (xV (D J)))) fun i=>?_;refine(show RG _ _ _ _ [_,_,_] _ from ?_);refine cZ<|zh<|bu<|aS<|aQ E4 tg bB J<|bp J<|bW h J (fun h=>?_) (fun h=>?_)
 ·refine aP<|bR h fun r2 q_r2 h=>?_
  refine ja 8 [tc (M (Z b 0)),tc (M (Z b 0)),tc (M (Z b 0)),tc (M (Z b 0)),tc (tO (rI .u8) ((sg 10).h 0).1 ((sg 10).h 0).2 r1),tc (ck lA p.Limit),tc (tD lA p.Limit),([7],fun ac=>tO (rI .u8) ((ac.getD 0 ml).h 0).1 ((ac.getD 0 ml).h 0).2 r2)] [false,false,false,false,false,false,false,true] [fun _=>[bx (rH dc [(0,ay ((sg 10).h 0).1 ((sg 10).h 0).2 r1.length)]) 60 b ({w1 with bytes:=r1}:bg),tip (rI .u8) 5 ((sg 10).h 0).1 ((sg 10).h 0).2 r1],fun sg1=>[tip (rI .u8) 5 ((sg1 7).h 0).1 ((sg1 7).h 0).2 r2,bx (rH dc [(0,ay ((sg 10).h 0).1 ((sg 10).h 0).2 r1.length)]) 60 b ({w1 with bytes:=r1}:bg),tip (rI .u8) 5 ((sg 10).h 0).1 ((sg 10).h 0).2 r1]] J mixed J J J J J
   ⟨⟨[⟨0,fun _=>M (Z b 0),none⟩],_,0,1,J,⟨(fun _=>J),aZ⟩,J,J,J,J,J,fun _ sg1 _ _=>ai J (mt J)⟩,
   ⟨⟨[⟨0,fun _=>M (Z b 0),none⟩],_,0,0,J,⟨(fun _=>J),aZ⟩,J,J,J,J,J,fun _ sg1 _ _=>ai J (mt J)⟩,
   ⟨⟨[⟨24,fun _=>M (Z b 0),some 1⟩],_,0,0,J,⟨(fun _=>J),aZ⟩,J,J,J,J,J,fun _ sg1 _ _=>ai J (aO (D J))⟩,
   ⟨⟨[⟨25,fun _=>M (Z b 0),some 2⟩],_,0,0,J,⟨(fun _=>J),aZ⟩,J,J,J,J,J,fun _ sg1 _ _=>ai J (q9 0 pc J J J)⟩,
   ⟨⟨[⟨26,fun _=>M (Z b 0),some 3⟩],_,0,0,J,⟨(fun _=>J),aZ⟩,J,J,J,J,J,py (fun sg1=>ai J (nE qF J (.head _) (.tail _ (.head _)) (D J)))⟩,
   ⟨⟨[⟨3,fun _=>ck iw p,none⟩],_,0,0,J,⟨(fun _=>J),aZ⟩,J,J,J,J,J,fun _ sg1 _ _=>ai J (oq Cx rq J J)⟩,
   ⟨⟨[⟨28,fun _=>ck lA p.Limit,some 5⟩],_,0,0,J,⟨(fun _=>J),aZ⟩,J,J,J,J,J,fun _ sg1 _ _=>ai J (yT qf J J)⟩,
   ⟨⟨[⟨27,fun _=>tO (rI .u8) ((sg 10).h 0).1 ((sg 10).h 0).2 r1,some 4⟩,⟨29,fun _=>tD lA p.Limit,some 6⟩],_,J,⟨(fun _=>J),(fun _=>J),aZ⟩,J,J,J,fun sg1=>cP J (wv (xs:=[.tmp 27,.tmp 29]) (ts:=[tD FN r1,tD lA p.Limit]) Hm (yD _ _ q_r2) ⟨(mX (D J)),(D J),aZ⟩)⟩,
   aZ⟩⟩⟩⟩⟩⟩⟩⟩ (fun sg1=>?_)
  refine(show RG _ _ _ _ [_,_,_] _ from ?_);refine s (aO (D J))<|bh 0 pc J<|fK (EffOK.fr1 (m9 (hs' :=[(0,ay ((sg1 7).h 0).1 ((sg1 7).h 0).2 r2.length)]) (u:=ay ((sg1 7).h 0).1 ((sg1 7).h 0).2 r2.length) qF J J nS J ⟨.inl ⟨J,J,J⟩,aZ⟩ (D J) (mX (D J)) (xV (D J)))) fun i1=>?_;refine(show RG _ _ _ _ [_,_,_] _ from ?_);exact cZ<|zh<|bM<|af<|am<|am<|so h▸rZ J (sg1 7) J J
 ·refine fN<|ax J<|qE tw jF J<|aQ Av q7 zF J<|bR h fun r3 q_r3 h=>br (EffOK.fr1 (EffOK.fr1 (aE (xs:=[.tmp 33,.tmp 36]) (ts:=[M (Z b 0),fM p.Batch.End]) (fW b ({w1 with bytes:=r1}:bg) (sg 10)) _ J U9 (Nz b (sg 10) ({w1 with bytes:=r1}:bg) _ q_r3) ⟨(D J),(D J),aZ⟩ (fun _=>J)))) J fun i2=>?_;refine(show RG _ _ _ _ [_,_] ((37,tT [])::_)from ?_);refine bu<|aS<|qE tw jF J<|aQ Av q7 zF J<|bW h J (fun h=>?_) (fun h=>?_)
  ·refine aP<|bR h fun r4 q_r4 h=>?_
   refine ja 9 [tc (M (Z b 0)),tc (M (Z b 0)),tc (M (Z b 0)),tc (M (Z b 0)),tc (tO (rI .u8) (i2.h 0).1 (i2.h 0).2 r3.bytes),tc (ck pD p.Batch),tc (ck lA p.Batch.Count),tc (tD lA p.Batch.Count),([8],fun ac=>tO (rI .u8) ((ac.getD 0 ml).h 0).1 ((ac.getD 0 ml).h 0).2 r4)] [false,false,false,false,false,false,false,false,true] [fun _=>[bx (rH dc [(0,ay (i2.h 0).1 (i2.h 0).2 r3.bytes.length)]) 60 b r3,tip (rI .u8) 5 (i2.h 0).1 (i2.h 0).2 r3.bytes],fun sg2=>[tip (rI .u8) 5 ((sg2 8).h 0).1 ((sg2 8).h 0).2 r4,bx (rH dc [(0,ay (i2.h 0).1 (i2.h 0).2 r3.bytes.length)]) 60 b r3,tip (rI .u8) 5 (i2.h 0).1 (i2.h 0).2 r3.bytes]] J mixed J J J J J
    ⟨⟨[⟨0,fun _=>M (Z b 0),none⟩],_,0,1,J,⟨(fun _=>J),aZ⟩,J,J,J,J,J,fun _ sg2 _ _=>ai J (mt J)⟩,
    ⟨⟨[⟨0,fun _=>M (Z b 0),none⟩],_,0,0,J,⟨(fun _=>J),aZ⟩,J,J,J,J,J,fun _ sg2 _ _=>ai J (mt J)⟩,
    ⟨⟨[⟨42,fun _=>M (Z b 0),some 1⟩],_,0,0,J,⟨(fun _=>J),aZ⟩,J,J,J,J,J,fun _ sg2 _ _=>ai J (aO (D J))⟩,
    ⟨⟨[⟨43,fun _=>M (Z b 0),some 2⟩],_,0,0,J,⟨(fun _=>J),aZ⟩,J,J,J,J,J,fun _ sg2 _ _=>ai J (q9 0 pc J J J)⟩,
    ⟨⟨[⟨44,fun _=>M (Z b 0),some 3⟩],_,0,0,J,⟨(fun _=>J),aZ⟩,J,J,J,J,J,py (fun sg2=>ai J (nE qF J (.head _) (.tail _ (.head _)) (D J)))⟩,
    ⟨⟨[⟨3,fun _=>ck iw p,none⟩],_,0,0,J,⟨(fun _=>J),aZ⟩,J,J,J,J,J,fun _ sg2 _ _=>ai J (oq tw jF J J)⟩,
    ⟨⟨[⟨46,fun _=>ck pD p.Batch,some 5⟩],_,0,0,J,⟨(fun _=>J),aZ⟩,J,J,J,J,J,fun _ sg2 _ _=>ai J (oq Au q6 J J)⟩,
    ⟨⟨[⟨47,fun _=>ck lA p.Batch.Count,some 6⟩],_,0,0,J,⟨(fun _=>J),aZ⟩,J,J,J,J,J,fun _ sg2 _ _=>ai J (yT qf J J)⟩,
    ⟨⟨[⟨45,fun _=>tO (rI .u8) (i2.h 0).1 (i2.h 0).2 r3.bytes,some 4⟩,⟨48,fun _=>tD lA p.Batch.Count,some 7⟩],_,J,⟨(fun _=>J),(fun _=>J),aZ⟩,J,J,J,fun sg2=>cP J (wv (xs:=[.tmp 45,.tmp 48]) (ts:=[tD FN r3.bytes,tD lA p.Batch.Count]) Hm (yD _ _ q_r4) ⟨(mX (D J)),(D J),aZ⟩)⟩,
    aZ⟩⟩⟩⟩⟩⟩⟩⟩⟩ (fun sg2=>?_)
   refine(show RG _ _ _ _ [_,_,_] _ from ?_);refine s (aO (D J))<|bh 0 pc J<|fK (EffOK.fr1 (m9 (hs' :=[(0,ay ((sg2 8).h 0).1 ((sg2 8).h 0).2 r4.length)]) (u:=ay ((sg2 8).h 0).1 ((sg2 8).h 0).2 r4.length) qF J J nS J ⟨.inl ⟨J,J,J⟩,aZ⟩ (D J) (mX (D J)) (xV (D J)))) fun i3=>?_;refine(show RG _ _ _ _ [_,_,_] _ from ?_);exact cZ<|zh<|bM<|af<|am<|am<|so h▸rZ J (sg2 8) J J
  ·refine fN<|d<|qE tw jF J<|aQ Aw q8 Lk J<|eE h abI (UY _) (cy J) fun r5 h=>Q J<|dz J J<|dz J J<|dz J J<|d6 J<|d6 J<|aN J<|aj<|Q J<|Q J<|s (aO (D J))<|bh 0 pc J<|s (nE qF J (.head _) (.tail _ (.head _)) (D J)) ?_;refine Q J<|bY<|bR h fun l q_l h=>oo me J J J J kG J J (D J) (D J) q_l fun l1 c=>s (aO (D J))<|bh 0 pc J<|fK (EffOK.fr1 (m9 (hs' :=[(0,ay l1 c l.length)]) (u:=ay l1 c l.length) qF J J nS J ⟨.inl ⟨J,J,J⟩,aZ⟩ (D J) (mX (D J)) (xV (D J)))) fun i4=>?_;refine(show RG _ _ _ _ [_,_] _ from ?_);exact aJ<|am<|am<|so h▸fE J (sj [(l1,c)]) J J

def Z0(b:Nat)(ix:OI) w1 m{R}(h:te w1 m=some R):bK bd 30 [M (Z b 0),tD iC m] (fW b w1 ix) (fun _:OI=>tT []) (fun j=>fW b R j):=by
 refine bK.of Tryz.func30 J J J fun w0 S0=>?_;refine(show CG _ _ _ [bx (rH dc [(0,ay (ix.h 0).1 (ix.h 0).2 w1.bytes.length)]) 60 b w1,tip (rI .u8) 5 (ix.h 0).1 (ix.h 0).2 w1.bytes] _ from ?_);refine d<|dl J<|bu<|ax J<|aQ Ar wt bB J<|aQ E3 BC bB J<|aQ E2 BB bB J<|aQ Cw yA bB J<|s (aI (r:=bV) (ys:=[m.Kind,m.From,m.To,m.Epoch]) (xs:=[.tmp 6,.tmp 8,.tmp 10,.tmp 12]) df bB J J J J J ⟨(D J),(D J),(D J),(D J),aZ⟩)<|bR h fun r q_r h=>br (EffOK.fr1 (EffOK.fr1 (aE (xs:=[.tmp 4,.tmp 13]) (ts:=[M (Z b 0),jK ([m.Kind,m.From,m.To,m.Epoch])]) (fW b w1 ix) _ J xG (sl b ix w1 _ q_r) ⟨(D J),(D J),aZ⟩ (fun _=>J)))) J fun i=>?_;refine(show RG _ _ _ _ [_,_] ((14,tT [])::_)from ?_);refine bu<|d<|aQ Ar wt bB J<|bu<|ak<|d<|bp J<|aN J<|fy h J (fun h=>?_) (fun h=>?_)
 ·refine ax J<|aQ Cu yy bB J<|s (aI (r:=bV) (ys:=[m.Sites]) (xs:=[.tmp 21]) df bB J J J J J ⟨(D J),aZ⟩)<|bR h fun r1 q_r1 h=>br (EffOK.fr1 (EffOK.fr1 (aE (xs:=[.tmp 19,.tmp 22]) (ts:=[M (Z b 0),jK ([m.Sites])]) (fW b r i) _ J xG (sl b i r _ q_r1) ⟨(D J),(D J),aZ⟩ (fun _=>J)))) J fun i1=>?_;refine(show RG _ _ _ _ [_,_] ((23,tT [])::_)from ?_);refine bu<|aj<|Q J<|aQ E1 BA rD J<|bR h fun r2 q_r2 h=>br (EffOK.fr1 (EffOK.fr1 (aE (xs:=[.tmp 24,.tmp 26]) (ts:=[M (Z b 0),tD gq m.Plan]) (fW b r1 i1) _ J aaa (VL b i1 r1 _ q_r2) ⟨(D J),(D J),aZ⟩ (fun _=>J)))) J fun i2=>?_;refine(show RG _ _ _ _ [_,_] ((27,tT [])::_)from ?_);exact aJ<|al<|am<|am<|so h▸fE J i2 J J
 ·refine d5 (aa:=fun x=>nG m r x=some R) (Of:=fun x=>[bx (rH dc [(0,ay (i.h 0).1 (i.h 0).2 r.bytes.length)]) 60 b r,tip (rI .u8) 5 (i.h 0).1 (i.h 0).2 r.bytes]) (Gf:=fun x=>[(0,M (Z b 0)),(3,ck iC m),(16,bH m.Kind),(28,fM x)]) (fun x h=>?_) (fun h2=>?_)
  ·skip
   refine fy h J (fun h=>?_) (fun h=>?_)
   ·refine ax J<|aQ Cv yz bB J<|s (aI (r:=bV) (ys:=[m.Frag]) (xs:=[.tmp 33]) df bB J J J J J ⟨(D J),aZ⟩)<|bR h fun r3 q_r3 h=>br (EffOK.fr1 (EffOK.fr1 (aE (xs:=[.tmp 31,.tmp 34]) (ts:=[M (Z b 0),jK ([m.Frag])]) (fW b r i) _ J xG (sl b i r _ q_r3) ⟨(D J),(D J),aZ⟩ (fun _=>J)))) J fun i3=>?_;refine(show RG _ _ _ _ [_,_] ((35,tT [])::_)from ?_);refine bu<|aj<|Q J<|aQ Ct yx Ox J<|bR h fun r4 q_r4 h=>br (EffOK.fr1 (EffOK.fr1 (aE (xs:=[.tmp 36,.tmp 38]) (ts:=[M (Z b 0),tD iw m.Packet]) (fW b r3 i3) _ J act (ZU b i3 r3 _ q_r4) ⟨(D J),(D J),aZ⟩ (fun _=>J)))) J fun i4=>?_;refine(show RG _ _ _ _ [_,_] ((39,tT [])::_)from ?_);exact aJ<|al<|am<|am<|so h▸fE J i4 J J
   ·refine d<|bp J<|aN J<|fy h J (fun h=>?_) (fun h=>?_)
    ·refine aj<|Q J<|aQ Cs yw B7 J<|bp J<|bR h fun r5 q_r5 h=>br (EffOK.fr1 (EffOK.fr1 (aE (xs:=[.tmp 42,.tmp 45]) (ts:=[M (Z b 0),fM (m.Err==(300:Int))]) (fW b r i) _ J U9 (Nz b i r _ q_r5) ⟨(D J),(D J),aZ⟩ (fun _=>J)))) J fun i5=>?_;refine(show RG _ _ _ _ [_,_] ((46,tT [])::_)from ?_);exact aJ<|al<|am<|am<|so h▸fE J i5 J J
    ·exact bc<|al<|am<|am<|so h▸fE J i J J
  ·skip
   refine d<|bp J<|aN J<|fy h J (fun h=>?_) (fun h=>?_)
   ·refine bc ?_;exact bE (h2 (m.Kind==(3:Int)) h) (aX J)
   ·refine aj<|bp J<|d6 J<|aJ ?_;exact bE (h2 (m.Kind==(4:Int)) h) (aX J)

def Yc m{R}(h:Bw m=some R):cX bd 12 [tD iC m] (tT [em ((rI .u8)) R.1,bH R.2]):=by
 refine dK Tryz.func12 J<|d<|dl J<|fO ((rI .u8))<|ca<|bu<|aS<|dH zw J<|eE h acJ (XB _) (cy J) fun r h=>s (fG (D J))<|bW h J (fun h=>?_) (fun h=>?_)
 ·exact d<|fO ((rI .u8))<|eg<|af<|so h▸cg J J J
 ·refine fN<|d<|s (ee (r:=rH dc [(0,.slice none 0 0)]) (y:=Oi) Zg ZJ (zH Gm ⟨J,aZ⟩) (J))<|qV (D J) J fun b=>ci true (rI .u8) 5 ?_;refine(show RG _ _ _ _ [_,_] _ from ?_);refine aN J<|ax J<|dH zw J<|bR h fun r1 q_r1 h=>br (EffOK.fr1 (aE (xs:=[.tmp 11,.tmp 12]) (ts:=[M (Z b 0),tD iC m]) (fW b Oi SV) _ J acI (Z0 b SV Oi _ q_r1) ⟨(D J),(D J),aZ⟩ (fun _=>J))) J fun i=>?_;refine(show RG _ _ _ _ [_,_] ((13,tT [])::_)from ?_);refine bu<|ax J<|s (aO (D J))<|bh 0 pc J<|s (nE qF J (.head _) (.tail _ (.head _)) (D J))<|ot h acK (T5 _) ⟨(mX (D J)),aZ⟩ fun r2 h l c=>aN J<|aS<|Q J<|s (ir kG (.head _) (D J))<|s (dD (D J) hI)<|bW h J (fun h=>?_) (fun h=>?_)
  ·exact d<|fO ((rI .u8))<|eg<|af<|aV<|aV<|aV<|so h▸cg J J J
  ·exact fN<|ax J<|d6 J<|eg<|dq<|bP 2 J<|bP 18 J<|bP 5 J<|bP 19 J<|bP 22 J<|eW 2 J<|aV<|aV<|aV<|so h▸cg J J J

def RQ a1 b{R}(h:tm a1 b=some R):cX bd 17 [em ((rI .u8)) a1,em ((rI .u8)) b] (fM R):=by
 exact dK Tryz.func17 J<|d<|bm<|bu<|ax J<|s (Ci kG nV Df me J (D J))<|Q J<|s (Ci kG nV Df me J (D J))<|s (Dv (D J) (D J))<|bf J<|so h▸aA J J

def Yg{R}(h:yo=some R):cX bd 10 [] (fM R):=by
 refine dK Tryz.func10 J<|d<|bm<|bu<|d<|s (ee (y:=(⟨(2:Int),(2:Int),(0:Int),(3:Int),(0:Int),(0:Int),(⟨[]⟩:eV),(⟨(0:Int),(0:Int),(0:Int),(0:Int),(⟨[],false,(0:Int)⟩:p9)⟩:np),(0:Int)⟩:rY)) zw Rw B5 (⟨_,_,_,_,_,J,JC,J,hI,⟨_,_,_,_,_,J,JB,J,hI,⟨_,_,_,_,_,J,JA,J,hI,J⟩⟩⟩))<|eE h acR (Yc _) (cy J) fun r h=>Q J<|dz J J<|dz J J<|d6 J<|aN J<|ax J<|bp J<|Q J<|ae J (bX J) ?_;refine ae J (gp kG J)<|ae J (gQ J)<|cm J<|Q J<|bR h fun t q_t h=>ae J (bX J) ?_
 obtain⟨y,h1t,h0t⟩:=og q_t
 have q_yg:=fun H=>(h1t H).1
 refine ae J (fun Y=>LH kG me J (bl J Y) hI (q_yg Y))<|ae J (fun Y=>aI (r:=(rI .u8)) (ys:=[(2:Int),(2:Int),(0:Int),(3:Int)]) (xs:=[.const (.int .u8 (2)),.const (.int .u8 (2)),.const (.int .u8 (0)),.const (.int .u8 (3))]) kG me J J J J J ⟨hI,hI,hI,hI,aZ⟩) ?_
 obtain⟨r1,h1t⟩:=og2 (fun H=>(h1t H).2)
 have q_r1g:=fun H=>(h1t H).1
 exact ae J (fun Y=>cD abf (RQ _ _ (q_r1g Y)) ⟨(bl J Y),(bl J Y),aZ⟩)<|s (co (D J) (fun H=>(bl J H)) (fun H=>(h1t H).2) h0t)<|bf J<|so h▸aA J J

def Ma e{R}(h:lV e=some R):cX bd 80 [tD bN e] (fM R):=by
 refine dK Tryz.func80 J<|d<|dl J<|bm<|bu<|aS<|aQ f7 dw nM J<|bI j5 J<|s (dD (D J) hI)<|bW h J (fun h=>?_) (fun h=>?_)
 ·exact d<|bm<|bM<|af<|so h▸aA J J
 ·refine fN<|aS<|aQ f7 dw nM J<|bI j5 J<|s (bT hI)<|bu<|ak<|bo (k:=10) J fun hN=>bA ?_;refine aH (eU (aa:=fun ls i=>(e.Nodes.drop i=ls)/\kN ls=some R) (Of:=fun _ i=>[]) (Gf:=fun _ i=>[(10,em (bt) e.Nodes),(11,kE e.Nodes),(12,bH (i:Int))]) (fun i h=>?_) (fun e1 tl ih i h=>?_) e.Nodes 0 ⟨J,h⟩) (aX J)
  ·obtain⟨V,h⟩:=h
   exact ez V J<|au<|d<|bm<|bM<|so h▸aA J J
  ·obtain⟨V,h⟩:=h
   refine ew V J<|aP<|ak<|d<|dg j5 eo J (dJ V)<|bz eo lc J fun b=>bO eo aB J<|bj 4 J<|bu<|d<|qE qR k7 J ?_;refine aQ qS lZ Ow J<|s (Bi Df (D J))<|s (dD (D J) hI)<|bW h J (fun h=>?_) (fun h=>?_)
   ·exact d<|bm<|bM<|cx<|af<|cx<|so h▸aA J J
   ·refine bc<|dd V hN J ?_;exact aU (aH (ih (i+1) ⟨da V,h⟩) (aX J))

def Xy l{R}(h:ov l=some R):cX bd 39 [em (aM) l] (fM R):=by
 refine dK Tryz.func39 J<|d<|bm<|bu<|aS<|Q J<|bI j4 J<|s (dD (D J) hI)<|bW h J (fun h=>?_) (fun h=>?_)
 ·exact d<|bm<|bM<|af<|so h▸aA J J
 ·refine fN<|aS<|Q J<|bI j4 J<|s (bT hI)<|bu<|ak<|bo (k:=12) J fun hN=>bA ?_;refine aH (eU (aa:=fun ls i=>(l.drop i=ls)/\fC ls=some R) (Of:=fun _ i=>[]) (Gf:=fun _ i=>[(12,em (aM) l),(13,kE l),(14,bH (i:Int))]) (fun i h=>?_) (fun e tl ih i h=>?_) l 0 ⟨J,h⟩) (aX J)
  ·obtain⟨V,h⟩:=h
   exact ez V J<|au<|d<|bm<|bM<|so h▸aA J J
  ·obtain⟨V,h⟩:=h
   refine ew V J<|aP<|ak<|d<|dg j4 dA J (dJ V)<|bz dA ie J fun b=>bO dA aB J<|bj 4 J<|bu<|aS ?_;refine aQ jI dW cu J<|bI df J<|s (dD (D J) hI)<|Q J<|aD J (bv ju dE J J)<|aD J (bq cu J J)<|aD J (gp df J)<|aD J (fun Y=>dD (bl J Y) hI)<|dG J<|Q J<|aD J (bv jv ep J J)<|aD J (bq ur J J)<|aD J (gp rz J)<|aD J (fun Y=>dD (bl J Y) hI)<|dG J<|Q J<|aD J (bv oc io J J)<|aD J (bq wH J J)<|aD J (gp qD J)<|aD J (fun Y=>dD (bl J Y) hI)<|dG J<|Q J<|aD J (bv gA cO J J) ?_;refine aD J (bq o0 J J)<|aD J (gp lb J)<|aD J (fun Y=>dD (bl J Y) hI)<|dG J<|Q J<|bR h fun t q_t h=>aD J (bv pZ iQ J J)<|aD J (bq gn J J) ?_
   obtain⟨r,h1t,h0t⟩:=og q_t
   have q_rg:=fun H=>(h1t H).1
   refine aD J (fun Y=>cD Yp (Ma _ (q_rg Y)) ⟨(bl J Y),aZ⟩)<|s (jl (D J) (fun H=>(bl J (sb H))) (fun H=>(h1t H).2) h0t)<|bW h J (fun h=>?_) (fun h=>?_)
   ·exact d<|bm<|bM<|af<|cx<|af<|cx<|so h▸aA J J
   ·refine fN<|aS<|aQ oc io wH J<|bI qD J<|s (bT hI)<|bu<|ak<|bo (k:=52) J fun hN1=>bA ?_;refine aH (eU (aa:=fun ls1 i1=>(e.Items.drop i1=ls1)/\jX (fC tl) e ls1=some R) (Of:=fun _ i1=>[]) (Gf:=fun _ i1=>[(4,ck aM e),(12,em (aM) l),(13,kE l),(14,bH (i:Int)),(52,em (bN) e.Items),(53,kE e.Items),(54,bH (i1:Int))]) (fun i1 h=>?_) (fun e1 tl1 ih1 i1 h=>?_) e.Items 0 ⟨J,h⟩) (aX J)
    ·obtain⟨hx1,h⟩:=h
     refine ez hx1 J<|au<|d<|aQ gA cO o0 J<|bI lb J<|s (bT hI)<|bu<|ak<|bo (k:=62) J fun hN2=>bA ?_;refine aH (eU (aa:=fun ls2 i2=>(e.Aggs.drop i2=ls2)/\iO (fC tl) ls2=some R) (Of:=fun _ i2=>[]) (Gf:=fun _ i2=>[(12,em (aM) l),(13,kE l),(14,bH (i:Int)),(62,em (fh) e.Aggs),(63,kE e.Aggs),(64,bH (i2:Int))]) (fun i2 h=>?_) (fun e2 tl2 ih2 i2 h=>?_) e.Aggs 0 ⟨J,h⟩) (aX J)
     ·obtain⟨hx2,h⟩:=h
      refine ez hx2 J<|dd V hN J ?_;exact aU (aH (ih (i+1) ⟨da V,h⟩) (aX J))
     ·obtain⟨hx2,h⟩:=h
      refine ew hx2 J<|aP<|ak<|d<|dg lb ig J (dJ hx2)<|bz ig tq J fun b1=>bO ig aB J<|bj 8 J<|bu<|d<|qE oe ma J ?_;refine dH gn J<|eE h Yp (Ma _) (cy J) fun r1 h=>bW h J (fun h=>?_) (fun h=>?_)
      ·exact d<|bm<|bM<|cx<|af<|CJ<|cx<|af<|cx<|so h▸aA J J
      ·refine bc<|dd hx2 hN2 J ?_;exact aU (aH (ih2 (i2+1) ⟨da hx2,h⟩) (aX J))
    ·obtain⟨hx1,h⟩:=h
     refine ew hx1 J<|aP<|ak<|d<|dg qD gn J (dJ hx1)<|bz gn qO J fun b2=>bO gn aB J<|bj 6 J<|bu<|d<|dH gn J ?_;refine eE h Yp (Ma _) (cy J) fun r2 h=>bW h J (fun h=>?_) (fun h=>?_)
     ·exact d<|bm<|bM<|cx<|af<|cx<|cx<|af<|cx<|so h▸aA J J
     ·refine bc<|dd hx1 hN1 J ?_;exact aU (aH (ih1 (i1+1) ⟨da hx1,h⟩) (aX J))

def XR p{R}(h:pT p=some R):cX bd 19 [tD gq p] (fM R):=by
 refine dK Tryz.func19 J<|d<|dl J<|bm<|bu<|aS<|aQ nI gV v8 J<|bI rA J<|s (dD (D J) hI)<|bW h J (fun h=>?_) (fun h=>?_)
 ·exact d<|bm<|bM<|af<|so h▸aA J J
 ·refine fN<|aS<|aQ nI gV v8 J<|bI rA J<|s (bT hI)<|bu<|ak<|bo (k:=10) J fun hN=>bA ?_;refine aH (eU (aa:=fun ls i=>(p.Frags.drop i=ls)/\kM ls=some R) (Of:=fun _ i=>[]) (Gf:=fun _ i=>[(10,em (cM) p.Frags),(11,kE p.Frags),(12,bH (i:Int))]) (fun i h=>?_) (fun e tl ih i h=>?_) p.Frags 0 ⟨J,h⟩) (aX J)
  ·obtain⟨V,h⟩:=h
   exact ez V J<|au<|d<|bm<|bM<|so h▸aA J J
  ·obtain⟨V,h⟩:=h
   refine ew V J<|aP<|ak<|d<|dg rA nc J (dJ V)<|bz nc nf J fun b=>bO nc aB J<|bj 4 J<|bu<|d<|qE sM lG J ?_;refine dH cu J<|bI df J<|s (dD (D J) hI)<|Q J<|bR h fun t q_t h=>aD J (bv sN mF J J)<|aD J (bq qe J J) ?_
   obtain⟨r,h1t,h0t⟩:=og q_t
   have q_rg:=fun H=>(h1t H).1
   refine aD J (fun Y=>cD acF (Xy _ (q_rg Y)) ⟨(bl J Y),aZ⟩)<|s (jl (D J) (fun H=>(bl J (sb H))) (fun H=>(h1t H).2) h0t)<|bW h J (fun h=>?_) (fun h=>?_)
   ·exact d<|bm<|bM<|cx<|af<|cx<|so h▸aA J J
   ·refine bc<|dd V hN J ?_;exact aU (aH (ih (i+1) ⟨da V,h⟩) (aX J))

end Go.Proofs.YtdohlidddcgfjaaGreat

