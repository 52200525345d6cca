/- cT of this claim: P10. -/
import Derived.Test.YtdohlidddcgfjaaGreatFaT
import Derived.Test.YtdohlidddcgfjaaGreatFaP9
set_option linter.all false
namespace Go.Proofs.YtdohlidddcgfjaaGreat
open Go
set_option maxRecDepth 100000

theorem SY(b:Nat)(ix:OI)(w1:aI)(p:co){R:aI}(h:ln w1 p=some R):dK ba 60 [tV (aL b 0),tD eU p] (eH b w1 ix) (fun _:OI=>tT []) (fun j=>eH b R j):=by
 refine dK.of Tryz.func60 I I I fun w0 S0=>?_;refine(show CG _ _ _ [bx (rH bd [(0,ax (ix.h 0).1 (ix.h 0).2 w1.bytes.length)]) 60 b w1,tip (rI .u8) 5 (ix.h 0).1 (ix.h 0).2 w1.bytes] _ from ?_);refine aj<|zo I (kp I)<|ai<|aa<|bA h fun r q_r h=>bA h fun r1 q_r1 h=>?_
 refine lJ 11 [tc (tV (aL b 0)),tc (tV (aL b 0)),tc (tV (aL b 0)),tc (tV (aL b 0)),tc (tO (rI .u8) (ix.h 0).1 (ix.h 0).2 w1.bytes),tc (ce lq p.Session),tc (tD lq p.Session),tc (dM ((rI .u8)) r),tc (ce o3 p.Seq),tc (tD o3 p.Seq),([10],fun s=>tO (rI .u8) ((s.getD 0 u7).h 0).1 ((s.getD 0 u7).h 0).2 r1)] [false,false,false,false,false,false,false,false,false,false,true] [fun _=>[bx (rH bd [(0,ax (ix.h 0).1 (ix.h 0).2 w1.bytes.length)]) 60 b w1,tip (rI .u8) 5 (ix.h 0).1 (ix.h 0).2 w1.bytes],fun sg=>[tip (rI .u8) 5 ((sg 10).h 0).1 ((sg 10).h 0).2 r1,bx (rH bd [(0,ax (ix.h 0).1 (ix.h 0).2 w1.bytes.length)]) 60 b w1,tip (rI .u8) 5 (ix.h 0).1 (ix.h 0).2 w1.bytes]] I mixed I I I I I
  ⟨⟨[⟨0,fun _=>tV (aL b 0),none⟩],_,0,1,I,⟨(fun _=>I),aZ⟩,I,I,I,I,I,fun _ sg _ _=>aB I (cw I)⟩,
  ⟨⟨[⟨0,fun _=>tV (aL b 0),none⟩],_,0,0,I,⟨(fun _=>I),aZ⟩,I,I,I,I,I,fun _ sg _ _=>aB I (cw I)⟩,
  ⟨⟨[⟨8,fun _=>tV (aL b 0),some 1⟩],_,0,0,I,⟨(fun _=>I),aZ⟩,I,I,I,I,I,fun _ sg _ _=>aB I (bg (ht I))⟩,
  ⟨⟨[⟨9,fun _=>tV (aL b 0),some 2⟩],_,0,0,I,⟨(fun _=>I),aZ⟩,I,I,I,I,I,fun _ sg _ _=>aB I (fe 0 nS I I I)⟩,
  ⟨⟨[⟨10,fun _=>tV (aL b 0),some 3⟩],_,0,0,I,⟨(fun _=>I),aZ⟩,I,I,I,I,I,u3 (fun sg=>aB I (mn vq I (.head _) (.tail _ (.head _)) (ht I)))⟩,
  ⟨⟨[⟨3,fun _=>ce eU p,none⟩],_,0,0,I,⟨(fun _=>I),aZ⟩,I,I,I,I,I,fun _ sg _ _=>aB I (aU uA kS I I)⟩,
  ⟨⟨[⟨12,fun _=>ce lq p.Session,some 5⟩],_,0,0,I,⟨(fun _=>I),aZ⟩,I,I,I,I,I,fun _ sg _ _=>aB I (bf oy I I)⟩,
  ⟨⟨[⟨11,fun _=>tO (rI .u8) (ix.h 0).1 (ix.h 0).2 w1.bytes,some 4⟩,⟨13,fun _=>tD lq p.Session,some 6⟩],_,0,0,I,⟨(fun _=>I),(fun _=>I),aZ⟩,I,I,I,I,I,fun _ sg _ _=>aB I (aG PO (OX _ _ q_r) ⟨(io (ht I)),(ht I),aZ⟩)⟩,
  ⟨⟨[⟨3,fun _=>ce eU p,none⟩],_,0,0,I,⟨(fun _=>I),aZ⟩,I,I,I,I,I,fun _ sg _ _=>aB I (aU o9 f6 I I)⟩,
  ⟨⟨[⟨15,fun _=>ce o3 p.Seq,some 8⟩],_,0,0,I,⟨(fun _=>I),aZ⟩,I,I,I,I,I,fun _ sg _ _=>aB I (bf jZ I I)⟩,
  ⟨⟨[⟨14,fun _=>tD DI r,some 7⟩,⟨16,fun _=>tD o3 p.Seq,some 9⟩],_,I,⟨(fun _=>I),(fun _=>I),aZ⟩,I,I,I,fun sg=>gP I (tS (xs:=[.tmp 14,.tmp 16]) (ts:=[tD DI r,tD o3 p.Seq]) Dx (vX _ _ q_r1) ⟨(ht I),(ht I),aZ⟩)⟩,
  aZ⟩⟩⟩⟩⟩⟩⟩⟩⟩⟩⟩ (fun sg=>?_)
 refine(show RG _ _ _ _ [tip (rI .u8) 5 ((sg 10).h 0).1 ((sg 10).h 0).2 r1,bx (rH bd [(0,ax (ix.h 0).1 (ix.h 0).2 w1.bytes.length)]) 60 b w1,tip (rI .u8) 5 (ix.h 0).1 (ix.h 0).2 w1.bytes] _ from ?_);refine zo I (bg (ht I))<|zo I (fe 0 nS I I I)<|iV (EffOK.fr1 (li (hs' :=[(0,ax ((sg 10).h 0).1 ((sg 10).h 0).2 r1.length)]) (u:=ax ((sg 10).h 0).1 ((sg 10).h 0).2 r1.length) vq I I lQ I ⟨.inl ⟨I,I,I⟩,aZ⟩ (ht I) (io (ht I)) (vr (ht I)))) fun i=>?_;refine(show RG _ _ _ _ [bx (rH bd [(0,ax ((sg 10).h 0).1 ((sg 10).h 0).2 r1.length)]) 60 b ({w1 with bytes:=r1}:aI),tip (rI .u8) 5 ((sg 10).h 0).1 ((sg 10).h 0).2 r1,tip (rI .u8) 5 (ix.h 0).1 (ix.h 0).2 w1.bytes] _ from ?_);refine kE<|wK<|ai<|aa<|aj<|zo I (aU uB kT I I)<|zo I (bf bp I I)<|zo I (d6 I)<|ai<|bR h I (fun h=>?_) (fun h=>?_)
 ·refine aa<|bA h fun r2 q_r2 h=>?_
  refine lJ 8 [tc (tV (aL b 0)),tc (tV (aL b 0)),tc (tV (aL b 0)),tc (tV (aL b 0)),tc (tO (rI .u8) ((sg 10).h 0).1 ((sg 10).h 0).2 r1),tc (ce o3 p.Limit),tc (tD o3 p.Limit),([7],fun s=>tO (rI .u8) ((s.getD 0 u7).h 0).1 ((s.getD 0 u7).h 0).2 r2)] [false,false,false,false,false,false,false,true] [fun _=>[bx (rH bd [(0,ax ((sg 10).h 0).1 ((sg 10).h 0).2 r1.length)]) 60 b ({w1 with bytes:=r1}:aI),tip (rI .u8) 5 ((sg 10).h 0).1 ((sg 10).h 0).2 r1],fun sg1=>[tip (rI .u8) 5 ((sg1 7).h 0).1 ((sg1 7).h 0).2 r2,bx (rH bd [(0,ax ((sg 10).h 0).1 ((sg 10).h 0).2 r1.length)]) 60 b ({w1 with bytes:=r1}:aI),tip (rI .u8) 5 ((sg 10).h 0).1 ((sg 10).h 0).2 r1]] I mixed I I I I I
   ⟨⟨[⟨0,fun _=>tV (aL b 0),none⟩],_,0,1,I,⟨(fun _=>I),aZ⟩,I,I,I,I,I,fun _ sg1 _ _=>aB I (cw I)⟩,
   ⟨⟨[⟨0,fun _=>tV (aL b 0),none⟩],_,0,0,I,⟨(fun _=>I),aZ⟩,I,I,I,I,I,fun _ sg1 _ _=>aB I (cw I)⟩,
   ⟨⟨[⟨24,fun _=>tV (aL b 0),some 1⟩],_,0,0,I,⟨(fun _=>I),aZ⟩,I,I,I,I,I,fun _ sg1 _ _=>aB I (bg (ht I))⟩,
   ⟨⟨[⟨25,fun _=>tV (aL b 0),some 2⟩],_,0,0,I,⟨(fun _=>I),aZ⟩,I,I,I,I,I,fun _ sg1 _ _=>aB I (fe 0 nS I I I)⟩,
   ⟨⟨[⟨26,fun _=>tV (aL b 0),some 3⟩],_,0,0,I,⟨(fun _=>I),aZ⟩,I,I,I,I,I,u3 (fun sg1=>aB I (mn vq I (.head _) (.tail _ (.head _)) (ht I)))⟩,
   ⟨⟨[⟨3,fun _=>ce eU p,none⟩],_,0,0,I,⟨(fun _=>I),aZ⟩,I,I,I,I,I,fun _ sg1 _ _=>aB I (aU rh ir I I)⟩,
   ⟨⟨[⟨28,fun _=>ce o3 p.Limit,some 5⟩],_,0,0,I,⟨(fun _=>I),aZ⟩,I,I,I,I,I,fun _ sg1 _ _=>aB I (bf jZ I I)⟩,
   ⟨⟨[⟨27,fun _=>tO (rI .u8) ((sg 10).h 0).1 ((sg 10).h 0).2 r1,some 4⟩,⟨29,fun _=>tD o3 p.Limit,some 6⟩],_,I,⟨(fun _=>I),(fun _=>I),aZ⟩,I,I,I,fun sg1=>gP I (tS (xs:=[.tmp 27,.tmp 29]) (ts:=[tD DI r1,tD o3 p.Limit]) Dx (vX _ _ q_r2) ⟨(io (ht I)),(ht I),aZ⟩)⟩,
   aZ⟩⟩⟩⟩⟩⟩⟩⟩ (fun sg1=>?_)
  refine(show RG _ _ _ _ [tip (rI .u8) 5 ((sg1 7).h 0).1 ((sg1 7).h 0).2 r2,bx (rH bd [(0,ax ((sg 10).h 0).1 ((sg 10).h 0).2 r1.length)]) 60 b ({w1 with bytes:=r1}:aI),tip (rI .u8) 5 ((sg 10).h 0).1 ((sg 10).h 0).2 r1] _ from ?_);refine zo I (bg (ht I))<|zo I (fe 0 nS I I I)<|iV (EffOK.fr1 (li (hs' :=[(0,ax ((sg1 7).h 0).1 ((sg1 7).h 0).2 r2.length)]) (u:=ax ((sg1 7).h 0).1 ((sg1 7).h 0).2 r2.length) vq I I lQ I ⟨.inl ⟨I,I,I⟩,aZ⟩ (ht I) (io (ht I)) (vr (ht I)))) fun i1=>?_;refine(show RG _ _ _ _ [bx (rH bd [(0,ax ((sg1 7).h 0).1 ((sg1 7).h 0).2 r2.length)]) 60 b ({({w1 with bytes:=r1}:aI)with bytes:=r2}:aI),tip (rI .u8) 5 ((sg1 7).h 0).1 ((sg1 7).h 0).2 r2,tip (rI .u8) 5 ((sg 10).h 0).1 ((sg 10).h 0).2 r1] _ from ?_);refine kE<|wK<|ai<|ah<|J<|aV<|aV ?_;cases so h;exact GX I (sg1 7) I I
 ·refine dk<|aj<|av I<|zo I (aU iI cU I I)<|zo I (aU qq iG I I)<|zo I (bf As I I)<|bA h fun r3 q_r3 h=>eS (EffOK.fr1 (EffOK.fr1 (da (xs:=[.tmp 33,.tmp 36]) (ts:=[tV (aL b 0),fx p.Batch.End]) (eH b ({w1 with bytes:=r1}:aI) (sg 10)) _ I O8 (I0 b (sg 10) ({w1 with bytes:=r1}:aI) _ q_r3) ⟨(ht I),(ht I),aZ⟩ (fun _=>I)))) I fun i2=>?_;refine(show RG _ _ _ _ [bx (rH bd [(0,ax (i2.h 0).1 (i2.h 0).2 r3.bytes.length)]) 60 b r3,tip (rI .u8) 5 (i2.h 0).1 (i2.h 0).2 r3.bytes] ((37,tT [])::_)from ?_);refine ai<|aa<|aj<|zo I (aU iI cU I I)<|zo I (aU qq iG I I)<|zo I (bf As I I)<|ai<|bR h I (fun h=>?_) (fun h=>?_)
  ·refine aa<|bA h fun r4 q_r4 h=>?_
   refine lJ 9 [tc (tV (aL b 0)),tc (tV (aL b 0)),tc (tV (aL b 0)),tc (tV (aL b 0)),tc (tO (rI .u8) (i2.h 0).1 (i2.h 0).2 r3.bytes),tc (ce lv p.Batch),tc (ce o3 p.Batch.Count),tc (tD o3 p.Batch.Count),([8],fun s=>tO (rI .u8) ((s.getD 0 u7).h 0).1 ((s.getD 0 u7).h 0).2 r4)] [false,false,false,false,false,false,false,false,true] [fun _=>[bx (rH bd [(0,ax (i2.h 0).1 (i2.h 0).2 r3.bytes.length)]) 60 b r3,tip (rI .u8) 5 (i2.h 0).1 (i2.h 0).2 r3.bytes],fun sg2=>[tip (rI .u8) 5 ((sg2 8).h 0).1 ((sg2 8).h 0).2 r4,bx (rH bd [(0,ax (i2.h 0).1 (i2.h 0).2 r3.bytes.length)]) 60 b r3,tip (rI .u8) 5 (i2.h 0).1 (i2.h 0).2 r3.bytes]] I mixed I I I I I
    ⟨⟨[⟨0,fun _=>tV (aL b 0),none⟩],_,0,1,I,⟨(fun _=>I),aZ⟩,I,I,I,I,I,fun _ sg2 _ _=>aB I (cw I)⟩,
    ⟨⟨[⟨0,fun _=>tV (aL b 0),none⟩],_,0,0,I,⟨(fun _=>I),aZ⟩,I,I,I,I,I,fun _ sg2 _ _=>aB I (cw I)⟩,
    ⟨⟨[⟨42,fun _=>tV (aL b 0),some 1⟩],_,0,0,I,⟨(fun _=>I),aZ⟩,I,I,I,I,I,fun _ sg2 _ _=>aB I (bg (ht I))⟩,
    ⟨⟨[⟨43,fun _=>tV (aL b 0),some 2⟩],_,0,0,I,⟨(fun _=>I),aZ⟩,I,I,I,I,I,fun _ sg2 _ _=>aB I (fe 0 nS I I I)⟩,
    ⟨⟨[⟨44,fun _=>tV (aL b 0),some 3⟩],_,0,0,I,⟨(fun _=>I),aZ⟩,I,I,I,I,I,u3 (fun sg2=>aB I (mn vq I (.head _) (.tail _ (.head _)) (ht I)))⟩,
    ⟨⟨[⟨3,fun _=>ce eU p,none⟩],_,0,0,I,⟨(fun _=>I),aZ⟩,I,I,I,I,I,fun _ sg2 _ _=>aB I (aU iI cU I I)⟩,
    ⟨⟨[⟨46,fun _=>ce lv p.Batch,some 5⟩],_,0,0,I,⟨(fun _=>I),aZ⟩,I,I,I,I,I,fun _ sg2 _ _=>aB I (aU qp iF I I)⟩,
    ⟨⟨[⟨47,fun _=>ce o3 p.Batch.Count,some 6⟩],_,0,0,I,⟨(fun _=>I),aZ⟩,I,I,I,I,I,fun _ sg2 _ _=>aB I (bf jZ I I)⟩,
    ⟨⟨[⟨45,fun _=>tO (rI .u8) (i2.h 0).1 (i2.h 0).2 r3.bytes,some 4⟩,⟨48,fun _=>tD o3 p.Batch.Count,some 7⟩],_,I,⟨(fun _=>I),(fun _=>I),aZ⟩,I,I,I,fun sg2=>gP I (tS (xs:=[.tmp 45,.tmp 48]) (ts:=[tD DI r3.bytes,tD o3 p.Batch.Count]) Dx (vX _ _ q_r4) ⟨(io (ht I)),(ht I),aZ⟩)⟩,
    aZ⟩⟩⟩⟩⟩⟩⟩⟩⟩ (fun sg2=>?_)
   refine(show RG _ _ _ _ [tip (rI .u8) 5 ((sg2 8).h 0).1 ((sg2 8).h 0).2 r4,bx (rH bd [(0,ax (i2.h 0).1 (i2.h 0).2 r3.bytes.length)]) 60 b r3,tip (rI .u8) 5 (i2.h 0).1 (i2.h 0).2 r3.bytes] _ from ?_);refine zo I (bg (ht I))<|zo I (fe 0 nS I I I)<|iV (EffOK.fr1 (li (hs' :=[(0,ax ((sg2 8).h 0).1 ((sg2 8).h 0).2 r4.length)]) (u:=ax ((sg2 8).h 0).1 ((sg2 8).h 0).2 r4.length) vq I I lQ I ⟨.inl ⟨I,I,I⟩,aZ⟩ (ht I) (io (ht I)) (vr (ht I)))) fun i3=>?_;refine(show RG _ _ _ _ [bx (rH bd [(0,ax ((sg2 8).h 0).1 ((sg2 8).h 0).2 r4.length)]) 60 b ({r3 with bytes:=r4}:aI),tip (rI .u8) 5 ((sg2 8).h 0).1 ((sg2 8).h 0).2 r4,tip (rI .u8) 5 (i2.h 0).1 (i2.h 0).2 r3.bytes] _ from ?_);refine kE<|wK<|ai<|ah<|J<|aV<|aV ?_;cases so h;exact GX I (sg2 8) I I
  ·refine dk<|aj<|zo I (aU iI cU I I)<|zo I (aU pL ic I I)<|zo I (bf xW I I)<|bA h fun r5 q_r5 h=>zo I (aG Uu (OW _ q_r5) ⟨(ht I),aZ⟩)<|av I<|zo I (nj I I)<|zo I (nj I I)<|zo I (nj I I)<|aS I<|aS I<|aS I<|ai<|ae<|av I<|av I<|zo I (bg (ht I))<|zo I (fe 0 nS I I I)<|zo I (mn vq I (.head _) (.tail _ (.head _)) (ht I)) ?_;refine av I<|bT<|bA h fun l q_l h=>mh iv I I I I gV I I (ht I) (ht I) q_l fun l1 c=>zo I (bg (ht I))<|zo I (fe 0 nS I I I)<|iV (EffOK.fr1 (li (hs' :=[(0,ax l1 c l.length)]) (u:=ax l1 c l.length) vq I I lQ I ⟨.inl ⟨I,I,I⟩,aZ⟩ (ht I) (io (ht I)) (vr (ht I)))) fun i4=>?_;refine(show RG _ _ _ _ [bx (rH bd [(0,ax l1 c l.length)]) 60 b ({r3 with bytes:=l}:aI),tip (rI .u8) 5 l1 c l] _ from ?_);refine ay<|aV<|aV ?_;cases so h;exact gU I (wT [(l1,c)]) I I

theorem S3(b:Nat)(ix:OI)(w1:aI)(m:cu){R:aI}(h:kP w1 m=some R):dK ba 30 [tV (aL b 0),tD dN m] (eH b w1 ix) (fun _:OI=>tT []) (fun j=>eH b R j):=by
 refine dK.of Tryz.func30 I I I fun w0 S0=>?_;refine(show CG _ _ _ [bx (rH bd [(0,ax (ix.h 0).1 (ix.h 0).2 w1.bytes.length)]) 60 b w1,tip (rI .u8) 5 (ix.h 0).1 (ix.h 0).2 w1.bytes] _ from ?_);refine aj<|zo I (kp I)<|ai<|aj<|av I<|zo I (aU pK lD I I)<|zo I (bf bp I I)<|zo I (aU sj oK I I)<|zo I (bf bp I I)<|zo I (aU si oJ I I)<|zo I (bf bp I I)<|zo I (aU rg nP I I)<|zo I (bf bp I I)<|zo I (aH (r:=cq) (ys:=[m.Kind,m.From,m.To,m.Epoch]) (xs:=[.tmp 6,.tmp 8,.tmp 10,.tmp 12]) cR bp I I I I I ⟨(ht I),(ht I),(ht I),(ht I),aZ⟩)<|bA h fun r q_r h=>eS (EffOK.fr1 (EffOK.fr1 (da (xs:=[.tmp 4,.tmp 13]) (ts:=[tV (aL b 0),iK ([m.Kind,m.From,m.To,m.Epoch])]) (eH b w1 ix) _ I u6 (pW b ix w1 _ q_r) ⟨(ht I),(ht I),aZ⟩ (fun _=>I)))) I fun i=>?_;refine(show RG _ _ _ _ [bx (rH bd [(0,ax (i.h 0).1 (i.h 0).2 r.bytes.length)]) 60 b r,tip (rI .u8) 5 (i.h 0).1 (i.h 0).2 r.bytes] ((14,tT [])::_)from ?_);refine ai<|aj<|zo I (aU pK lD I I)<|zo I (bf bp I I)<|ai<|ak<|aj<|zo I (d6 I)<|aS I<|ai<|bR h I (fun h=>?_) (fun h=>?_)
 ·refine aj<|av I<|zo I (aU qo nO I I)<|zo I (bf bp I I)<|zo I (aH (r:=cq) (ys:=[m.Sites]) (xs:=[.tmp 21]) cR bp I I I I I ⟨(ht I),aZ⟩)<|bA h fun r1 q_r1 h=>eS (EffOK.fr1 (EffOK.fr1 (da (xs:=[.tmp 19,.tmp 22]) (ts:=[tV (aL b 0),iK ([m.Sites])]) (eH b r i) _ I u6 (pW b i r _ q_r1) ⟨(ht I),(ht I),aZ⟩ (fun _=>I)))) I fun i1=>?_;refine(show RG _ _ _ _ [bx (rH bd [(0,ax (i1.h 0).1 (i1.h 0).2 r1.bytes.length)]) 60 b r1,tip (rI .u8) 5 (i1.h 0).1 (i1.h 0).2 r1.bytes] ((23,tT [])::_)from ?_);refine ai<|ae<|av I<|zo I (aU rf oI I I)<|zo I (bf y0 I I)<|bA h fun r2 q_r2 h=>eS (EffOK.fr1 (EffOK.fr1 (da (xs:=[.tmp 24,.tmp 26]) (ts:=[tV (aL b 0),tD iy m.Plan]) (eH b r1 i1) _ I Vy (SZ b i1 r1 _ q_r2) ⟨(ht I),(ht I),aZ⟩ (fun _=>I)))) I fun i2=>?_;refine(show RG _ _ _ _ [bx (rH bd [(0,ax (i2.h 0).1 (i2.h 0).2 r2.bytes.length)]) 60 b r2,tip (rI .u8) 5 (i2.h 0).1 (i2.h 0).2 r2.bytes] ((27,tT [])::_)from ?_);refine ay<|ac<|aV<|aV ?_;cases so h;exact gU I i2 I I
 ·refine dj (Z:=fun x=>jr m r x=some R) (Of:=fun x=>[bx (rH bd [(0,ax (i.h 0).1 (i.h 0).2 r.bytes.length)]) 60 b r,tip (rI .u8) 5 (i.h 0).1 (i.h 0).2 r.bytes]) (Gf:=fun x=>[(0,tV (aL b 0)),(3,ce dN m),(16,cb m.Kind),(28,fx x)]) (fun x h=>?_) (fun K=>?_)
  ·skip
   refine bR h I (fun h=>?_) (fun h=>?_)
   ·refine aj<|av I<|zo I (aU pJ mu I I)<|zo I (bf bp I I)<|zo I (aH (r:=cq) (ys:=[m.Frag]) (xs:=[.tmp 33]) cR bp I I I I I ⟨(ht I),aZ⟩)<|bA h fun r3 q_r3 h=>eS (EffOK.fr1 (EffOK.fr1 (da (xs:=[.tmp 31,.tmp 34]) (ts:=[tV (aL b 0),iK ([m.Frag])]) (eH b r i) _ I u6 (pW b i r _ q_r3) ⟨(ht I),(ht I),aZ⟩ (fun _=>I)))) I fun i3=>?_;refine(show RG _ _ _ _ [bx (rH bd [(0,ax (i3.h 0).1 (i3.h 0).2 r3.bytes.length)]) 60 b r3,tip (rI .u8) 5 (i3.h 0).1 (i3.h 0).2 r3.bytes] ((35,tT [])::_)from ?_);refine ai<|ae<|av I<|zo I (aU pI mt I I)<|zo I (bf xV I I)<|bA h fun r4 q_r4 h=>eS (EffOK.fr1 (EffOK.fr1 (da (xs:=[.tmp 36,.tmp 38]) (ts:=[tV (aL b 0),tD eU m.Packet]) (eH b r3 i3) _ I Vp (SY b i3 r3 _ q_r4) ⟨(ht I),(ht I),aZ⟩ (fun _=>I)))) I fun i4=>?_;refine(show RG _ _ _ _ [bx (rH bd [(0,ax (i4.h 0).1 (i4.h 0).2 r4.bytes.length)]) 60 b r4,tip (rI .u8) 5 (i4.h 0).1 (i4.h 0).2 r4.bytes] ((39,tT [])::_)from ?_);refine ay<|ac<|aV<|aV ?_;cases so h;exact gU I i4 I I
   ·refine aj<|zo I (d6 I)<|aS I<|ai<|bR h I (fun h=>?_) (fun h=>?_)
    ·refine ae<|av I<|zo I (aU qn nN I I)<|zo I (bf yZ I I)<|zo I (d6 I)<|bA h fun r5 q_r5 h=>eS (EffOK.fr1 (EffOK.fr1 (da (xs:=[.tmp 42,.tmp 45]) (ts:=[tV (aL b 0),fx (m.Err==(300:Int))]) (eH b r i) _ I O8 (I0 b i r _ q_r5) ⟨(ht I),(ht I),aZ⟩ (fun _=>I)))) I fun i5=>?_;refine(show RG _ _ _ _ [bx (rH bd [(0,ax (i5.h 0).1 (i5.h 0).2 r5.bytes.length)]) 60 b r5,tip (rI .u8) 5 (i5.h 0).1 (i5.h 0).2 r5.bytes] ((46,tT [])::_)from ?_);refine ay<|ac<|aV<|aV ?_;cases so h;exact gU I i5 I I
    ·refine aP<|ac<|aV<|aV ?_;cases so h;exact gU I i I I
  ·skip
   refine aj<|zo I (d6 I)<|aS I<|ai<|bR h I (fun h=>?_) (fun h=>?_)
   ·refine aP ?_;exact bD (K (m.Kind==(3:Int)) h) (aR I)
   ·refine ae<|zo I (d6 I)<|aS I<|ay ?_;exact bD (K (m.Kind==(4:Int)) h) (aR I)

theorem H1(m:cu){R:(List Int)×Int}(h:ma m=some R):bk ba 12 [tD dN m] (tT [dM ((rI .u8)) R.1,cb R.2]):=by
 refine bk.of Tryz.func12 I I I fun w0 S0=>aj<|zo I (kp I)<|zo I (aN (show aK _ _ _ vl from iE))<|zo I (dD)<|ai<|aa<|aj<|zo I (bf lk I I)<|bA h fun r q_r h=>zo I (aG VI (Re _ q_r) ⟨(ht I),aZ⟩)<|zo I (dP (ht I))<|ai<|bR h I (fun h=>?_) (fun h=>?_)
 ·refine aj<|zo I (aN (show aK _ _ _ vl from iE))<|zo I (dD)<|ai<|ah<|J ?_;cases so h;exact bQ I I I
 ·refine dk<|aj<|zo I (fX (r:=rH bd [(0,.slice none 0 0)]) (y:=MX) UP UU (zH Jt ⟨I,aZ⟩) (I))<|wL (ht I) I fun b=>cd true (rI .u8) 5 ?_;refine(show RG _ _ _ _ [tip (rI .u8) 5 none 0 sr,bx (rH bd [(0,ax none 0 sr.length)]) 60 b MX] _ from ?_);refine aS I<|ai<|aj<|av I<|zo I (bf lk I I)<|bA h fun r1 q_r1 h=>eS (EffOK.fr1 (da (xs:=[.tmp 11,.tmp 12]) (ts:=[tV (aL b 0),tD dN m]) (eH b MX (wT [(none,0)])) _ I VH (S3 b (wT [(none,0)]) MX _ q_r1) ⟨(ht I),(ht I),aZ⟩ (fun _=>I))) I fun i=>?_;refine(show RG _ _ _ _ [bx (rH bd [(0,ax (i.h 0).1 (i.h 0).2 r1.bytes.length)]) 60 b r1,tip (rI .u8) 5 (i.h 0).1 (i.h 0).2 r1.bytes] ((13,tT [])::_)from ?_);refine ai<|aj<|av I<|zo I (bg (ht I))<|zo I (fe 0 nS I I I)<|zo I (mn vq I (.head _) (.tail _ (.head _)) (ht I))<|bA h fun r2 q_r2 h=>cY VK (NP _ q_r2) ⟨(io (ht I)),aZ⟩ I fun l c=>aS I<|ai<|aa<|aj<|av I<|zo I (hY gV (.head _) (ht I))<|zo I (cH (ht I) hI)<|ai<|bR h I (fun h=>?_) (fun h=>?_)
  ·refine aj<|zo I (aN (show aK _ _ _ vl from iE))<|zo I (dD)<|ai<|ah<|J<|aX<|aX<|aX ?_;cases so h;exact bQ I I I
  ·refine dk<|aj<|av I<|aS I<|zo I (dD)<|ai<|ah<|ea<|bS 2 I<|bS 18 I<|bS 5 I<|bS 19 I<|bS 22 I<|fT 2 I<|aX<|aX<|aX ?_;cases so h;exact bQ I I I

theorem Mn(a1:(List Int))(b:(List Int)){R:Bool}(h:pm a1 b=some R):bk ba 17 [dM ((rI .u8)) a1,dM ((rI .u8)) b] (fx R):=by
 refine bk.of Tryz.func17 I I I fun w0 S0=>aj<|zo I (dd)<|ai<|aj<|av I<|zo I (De gV kV Ad iv I (ht I))<|av I<|zo I (De gV kV Ad iv I (ht I))<|zo I (Ay (ht I) (ht I))<|aS I<|ai<|ah ?_;cases so h;exact aw I I

theorem RE{R:Bool}(h:vP=some R):bk ba 10 [] (fx R):=by
 refine bk.of Tryz.func10 I I I fun w0 S0=>aj<|zo I (dd)<|ai<|aj<|zo I (fX (y:=(⟨(2:Int),(2:Int),(0:Int),(3:Int),(0:Int),(0:Int),uZ,uO,(0:Int)⟩:cu)) lk Kk vk (⟨_,_,_,_,_,I,A6,I,hI,⟨_,_,_,_,_,I,A5,I,hI,⟨_,_,_,_,_,I,A4,I,hI,I⟩⟩⟩))<|bA h fun r q_r h=>zo I (aG RS (H1 _ q_r) ⟨(ht I),aZ⟩)<|av I<|zo I (nj I I)<|zo I (nj I I)<|aS I<|aS I<|ai<|aj<|av I<|zo I (d6 I)<|av I<|aO I I (fun hg=>cw I) ?_;refine aO I I (fun hg=>bw gV (aA I hg))<|aO I I (fun hg=>bz (aA I hg) hI)<|zo I (fV I I)<|av I<|bA h fun t q_t h=>aO I I (fun hg=>cw I) ?_
 obtain⟨y,h1t,h0t⟩:=og q_t
 have q_yg:=fun hb=>(h1t hb).1
 refine aO I I (fun hg=>HB gV iv I (aA I hg) hI (q_yg hg))<|aO I I (fun hg=>aH (r:=(rI .u8)) (ys:=[(2:Int),(2:Int),(0:Int),(3:Int)]) (xs:=[.const (.int .u8 (2)),.const (.int .u8 (2)),.const (.int .u8 (0)),.const (.int .u8 (3))]) gV iv I I I I I ⟨hI,hI,hI,hI,aZ⟩) ?_
 obtain⟨r1,h1t⟩:=UI (fun hb=>(h1t hb).2)
 have q_r1g:=fun hb=>(h1t hb).1
 refine aO I I (fun hg=>aG T4 (Mn _ _ (q_r1g hg)) ⟨(aA I hg),(aA I hg),aZ⟩)<|zo I (bN (ht I) (fun hb=>(aA I hb)) (fun hb=>(h1t hb).2) h0t)<|aS I<|ai<|ah ?_;cases so h;exact aw I I

theorem HW(e:bv){R:Bool}(h:ke e=some R):bk ba 80 [tD bL e] (fx R):=by
 refine bk.of Tryz.func80 I I I fun w0 S0=>aj<|zo I (kp I)<|zo I (dd)<|ai<|aa<|aj<|zo I (aU fd di I I)<|zo I (bf lN I I)<|zo I (d5 jh I)<|zo I (cH (ht I) hI)<|ai<|bR h I (fun h=>?_) (fun h=>?_)
 ·refine aj<|zo I (dd)<|ai<|ah<|J ?_;cases so h;exact aw I I
 ·refine dk<|aa<|aj<|zo I (aU fd di I I)<|zo I (bf lN I I)<|zo I (d5 jh I)<|zo I (bm hI)<|ai<|ak<|aT (k:=10) I fun hN=>bn ?_;refine aD (dv (Z:=fun ls i=>(e.Nodes.drop i=ls)∧jq ls=some R) (Of:=fun _ i=>[]) (Gf:=fun _ i=>[(10,dM (bG) e.Nodes),(11,iB e.Nodes),(12,cb (i:Int))]) (fun i h=>?_) (fun e1 tl ih i h=>?_) e.Nodes 0 ⟨I,h⟩) (aR I)
  ·obtain⟨hx,h⟩:=h
   refine aq<|aj<|zo I (ek I I)<|ai<|aa<|bu (ht I) (de hx)<|bc ?_;refine M (M (aC ?_));refine af<|aj<|zo rfl (dd)<|ai<|ah ?_;cases so h;exact aw I I
  ·obtain⟨hx,h⟩:=h
   refine aq<|aj<|zo I (ek I I)<|ai<|aa<|bt (ht I) (cX hx)<|dk<|aa<|ak<|aj<|zo I (gI jh eb I I I (cS hx))<|zo I (bf eb I I)<|bJ (r:=bG) (x:=AQ) eb (fun _=>lp _) I fun b=>aQ eb I aY I (ht I) (ht I)<|bE 4 I<|ai<|aj<|zo I (aU pM jC I I) ?_;refine zo I (aU oT jz I I)<|zo I (bf JD I I)<|zo I (wv Ad (ht I))<|zo I (cH (ht I) hI)<|ai<|bR h I (fun h=>?_) (fun h=>?_)
   ·refine aj<|zo I (dd)<|ai<|ah ?_;refine au (J (J (au (J ?_))));cases so h;exact aw I I
   ·refine aP<|ac<|af<|ae<|zo rfl (jL (cy hx hN) rfl)<|av rfl<|ay ?_;exact aM (aD (ih (i+1) ⟨cx hx,h⟩) (aR I))

theorem Q8(l:(List ap)){R:Bool}(h:mo l=some R):bk ba 39 [dM (aJ) l] (fx R):=by
 refine bk.of Tryz.func39 I I I fun w0 S0=>aj<|zo I (dd)<|ai<|aa<|aj<|av I<|zo I (d5 ji I)<|zo I (cH (ht I) hI)<|ai<|bR h I (fun h=>?_) (fun h=>?_)
 ·refine aj<|zo I (dd)<|ai<|ah<|J ?_;cases so h;exact aw I I
 ·refine dk<|aa<|aj<|av I<|zo I (d5 ji I)<|zo I (bm hI)<|ai<|ak<|aT (k:=12) I fun hN=>bn ?_;refine aD (dv (Z:=fun ls i=>(l.drop i=ls)∧eI ls=some R) (Of:=fun _ i=>[]) (Gf:=fun _ i=>[(12,dM (aJ) l),(13,iB l),(14,cb (i:Int))]) (fun i h=>?_) (fun e tl ih i h=>?_) l 0 ⟨I,h⟩) (aR I)
  ·obtain⟨hx,h⟩:=h
   refine aq<|aj<|zo I (ek I I)<|ai<|aa<|bu (ht I) (de hx)<|bc ?_;refine M (M (aC ?_));refine af<|aj<|zo rfl (dd)<|ai<|ah ?_;cases so h;exact aw I I
  ·obtain⟨hx,h⟩:=h
   refine aq<|aj<|zo I (ek I I)<|ai<|aa<|bt (ht I) (cX hx)<|dk<|aa<|ak<|aj<|zo I (gI ji ej I I I (cS hx))<|zo I (bf ej I I)<|bJ (r:=aJ) (x:=DK) ej (fun _=>iX _) I fun b=>aQ ej I aY I (ht I) (ht I)<|bE 4 I<|ai<|aa<|aj ?_;refine zo I (aU iH dz I I)<|zo I (bf bV I I)<|zo I (d5 cR I)<|zo I (cH (ht I) hI)<|av I<|bI I I (fun hg=>aU iw dl I I)<|bI I I (fun hg=>am bV I I (aA I hg))<|bI I I (fun hg=>bw cR (aA I hg))<|bI I I (fun hg=>cH (aA I hg) hI)<|zo I (kh I I)<|av I<|bI I I (fun hg=>aU iA dR I I)<|bI I I (fun hg=>am sv I I (aA I hg))<|bI I I (fun hg=>bw pR (aA I hg))<|bI I I (fun hg=>cH (aA I hg) hI)<|zo I (kh I I)<|av I<|bI I I (fun hg=>aU m2 gq I I)<|bI I I (fun hg=>am u4 I I (aA I hg))<|bI I I (fun hg=>bw pr (aA I hg))<|bI I I (fun hg=>cH (aA I hg) hI)<|zo I (kh I I)<|av I<|bI I I (fun hg=>aU fM cz I I) ?_;refine bI I I (fun hg=>am nd I I (aA I hg))<|bI I I (fun hg=>bw jR (aA I hg))<|bI I I (fun hg=>cH (aA I hg) hI)<|zo I (kh I I)<|av I<|bA h fun t q_t h=>bI I I (fun hg=>aU o8 gN I I)<|bI I I (fun hg=>am fv I I (aA I hg)) ?_
   obtain⟨r,h1t,h0t⟩:=og q_t
   have q_rg:=fun hb=>(h1t hb).1
   refine bI I I (fun hg=>aG RN (HW _ (q_rg hg)) ⟨(aA I hg),aZ⟩)<|zo I (fF (ht I) (fun hb=>(aA I (oH hb))) (fun hb=>(h1t hb).2) h0t)<|ai<|bR h I (fun h=>?_) (fun h=>?_)
   ·refine aj<|zo I (dd)<|ai<|ah ?_;refine J (au (J (J (au (J ?_)))));cases so h;exact aw I I
   ·refine dk<|aa<|aj<|zo I (aU m2 gq I I)<|zo I (bf u4 I I)<|zo I (d5 pr I)<|zo I (bm hI)<|ai<|ak<|aT (k:=52) I fun hN1=>bn ?_;refine aD (dv (Z:=fun ls1 i1=>(e.Items.drop i1=ls1)∧iD (eI tl) e ls1=some R) (Of:=fun _ i1=>[]) (Gf:=fun _ i1=>[(4,ce aJ e),(12,dM (aJ) l),(13,iB l),(14,cb (i:Int)),(52,dM (bL) e.Items),(53,iB e.Items),(54,cb (i1:Int))]) (fun i1 h=>?_) (fun e1 tl1 ih1 i1 h=>?_) e.Items 0 ⟨I,h⟩) (aR I)
    ·obtain⟨hx1,h⟩:=h
     refine aq<|aj<|zo I (ek I I)<|ai<|aa<|bu (ht I) (de hx1)<|bc ?_;refine M (M (aC ?_));refine af<|aj<|zo rfl (aU fM cz rfl rfl)<|zo rfl (bf nd rfl rfl)<|zo rfl (d5 jR rfl)<|zo rfl (bm hI)<|ai<|ak<|aT (k:=62) I fun hN2=>bn ?_;refine aD (dv (Z:=fun ls2 i2=>(e.Aggs.drop i2=ls2)∧gL (eI tl) ls2=some R) (Of:=fun _ i2=>[]) (Gf:=fun _ i2=>[(12,dM (aJ) l),(13,iB l),(14,cb (i:Int)),(62,dM (eQ) e.Aggs),(63,iB e.Aggs),(64,cb (i2:Int))]) (fun i2 h=>?_) (fun e2 tl2 ih2 i2 h=>?_) e.Aggs 0 ⟨I,h⟩) (aR I)
     ·obtain⟨hx2,h⟩:=h
      refine aq<|aj<|zo I (ek I I)<|ai<|aa<|bu (ht I) (de hx2)<|bc ?_;refine M (M (aC ?_));refine ac<|af<|ae<|zo rfl (jL (cy hx hN) rfl)<|av rfl<|ay ?_;exact aM (aD (ih (i+1) ⟨cx hx,h⟩) (aR I))
     ·obtain⟨hx2,h⟩:=h
      refine aq<|aj<|zo I (ek I I)<|ai<|aa<|bt (ht I) (cX hx2)<|dk<|aa<|ak<|aj<|zo I (gI jR fE I I I (cS hx2))<|zo I (bf fE I I)<|bJ (r:=eQ) (x:=Co) fE (fun _=>s5 _) I fun b1=>aQ fE I aY I (ht I) (ht I)<|bE 8 I<|ai<|aj<|zo I (aU md kf I I) ?_;refine zo I (bf fv I I)<|bA h fun r1 q_r1 h=>zo I (aG RN (HW _ q_r1) ⟨(ht I),aZ⟩)<|ai<|bR h I (fun h=>?_) (fun h=>?_)
      ·refine aj<|zo I (dd)<|ai<|ah ?_;refine au (J (J (au (au (J (J (au (J ?_))))))));cases so h;exact aw I I
      ·refine aP<|ac<|af<|ae<|zo rfl (jL (cy hx2 hN2) rfl)<|av rfl<|ay ?_;exact aM (aD (ih2 (i2+1) ⟨cx hx2,h⟩) (aR I))
    ·obtain⟨hx1,h⟩:=h
     refine aq<|aj<|zo I (ek I I)<|ai<|aa<|bt (ht I) (cX hx1)<|dk<|aa<|ak<|aj<|zo I (gI pr fv I I I (cS hx1))<|zo I (bf fv I I)<|bJ (r:=bL) (x:=u0) fv (fun _=>qx _) I fun b2=>aQ fv I aY I (ht I) (ht I)<|bE 6 I<|ai<|aj<|zo I (bf fv I I) ?_;refine bA h fun r2 q_r2 h=>zo I (aG RN (HW _ q_r2) ⟨(ht I),aZ⟩)<|ai<|bR h I (fun h=>?_) (fun h=>?_)
     ·refine aj<|zo I (dd)<|ai<|ah ?_;refine au (J (J (au (J (au (J (J (au (J ?_)))))))));cases so h;exact aw I I
     ·refine aP<|ac<|af<|ae<|zo rfl (jL (cy hx1 hN1) rfl)<|av rfl<|ay ?_;exact aM (aD (ih1 (i1+1) ⟨cx hx1,h⟩) (aR I))

theorem Rl(p:dn){R:Bool}(h:nK p=some R):bk ba 19 [tD iy p] (fx R):=by
 refine bk.of Tryz.func19 I I I fun w0 S0=>aj<|zo I (kp I)<|zo I (dd)<|ai<|aa<|aj<|zo I (aU lE fQ I I)<|zo I (bf tA I I)<|zo I (d5 pS I)<|zo I (cH (ht I) hI)<|ai<|bR h I (fun h=>?_) (fun h=>?_)
 ·refine aj<|zo I (dd)<|ai<|ah<|J ?_;cases so h;exact aw I I
 ·refine dk<|aa<|aj<|zo I (aU lE fQ I I)<|zo I (bf tA I I)<|zo I (d5 pS I)<|zo I (bm hI)<|ai<|ak<|aT (k:=10) I fun hN=>bn ?_;refine aD (dv (Z:=fun ls i=>(p.Frags.drop i=ls)∧jp ls=some R) (Of:=fun _ i=>[]) (Gf:=fun _ i=>[(10,dM (fa) p.Frags),(11,iB p.Frags),(12,cb (i:Int))]) (fun i h=>?_) (fun e tl ih i h=>?_) p.Frags 0 ⟨I,h⟩) (aR I)
  ·obtain⟨hx,h⟩:=h
   refine aq<|aj<|zo I (ek I I)<|ai<|aa<|bu (ht I) (de hx)<|bc ?_;refine M (M (aC ?_));refine af<|aj<|zo rfl (dd)<|ai<|ah ?_;cases so h;exact aw I I
  ·obtain⟨hx,h⟩:=h
   refine aq<|aj<|zo I (ek I I)<|ai<|aa<|bt (ht I) (cX hx)<|dk<|aa<|ak<|aj<|zo I (gI pS ml I I I (cS hx))<|zo I (bf ml I I)<|bJ (r:=fa) (x:=DL) ml (fun _=>rn _) I fun b=>aQ ml I aY I (ht I) (ht I)<|bE 4 I<|ai<|aj<|zo I (aU qm jV I I) ?_;refine zo I (bf bV I I)<|zo I (d5 cR I)<|zo I (cH (ht I) hI)<|av I<|bA h fun t q_t h=>bI I I (fun hg=>aU re kC I I)<|bI I I (fun hg=>am ox I I (aA I hg)) ?_
   obtain⟨r,h1t,h0t⟩:=og q_t
   have q_rg:=fun hb=>(h1t hb).1
   refine bI I I (fun hg=>aG VA (Q8 _ (q_rg hg)) ⟨(aA I hg),aZ⟩)<|zo I (fF (ht I) (fun hb=>(aA I (oH hb))) (fun hb=>(h1t hb).2) h0t)<|ai<|bR h I (fun h=>?_) (fun h=>?_)
   ·refine aj<|zo I (dd)<|ai<|ah ?_;refine au (J (J (au (J ?_))));cases so h;exact aw I I
   ·refine aP<|ac<|af<|ae<|zo rfl (jL (cy hx hN) rfl)<|av rfl<|ay ?_;exact aM (aD (ih (i+1) ⟨cx hx,h⟩) (aR I))

theorem Rf(l:(List (List aF))){R:Bool}(h:nJ l=some R):bk ba 28 [dM (pZ) l] (fx R):=by
 refine bk.of Tryz.func28 I I I fun w0 S0=>aj<|zo I (dd)<|ai<|aa<|aj<|av I<|zo I (d5 nV I)<|zo I (cH (ht I) hI)<|ai<|bR h I (fun h=>?_) (fun h=>?_)
 ·refine aj<|zo I (dd)<|ai<|ah<|J ?_;cases so h;exact aw I I
 ·refine dk<|aa<|aj<|av I<|zo I (d5 nV I)<|zo I (bm hI)<|ai<|ak<|aT (k:=10) I fun hN=>bn ?_;refine aD (dv (Z:=fun ls i=>(l.drop i=ls)∧gv ls=some R) (Of:=fun _ i=>[]) (Gf:=fun _ i=>[(10,dM (pZ) l),(11,iB l),(12,cb (i:Int))]) (fun i h=>?_) (fun e tl ih i h=>?_) l 0 ⟨I,h⟩) (aR I)
  ·obtain⟨hx,h⟩:=h
   refine aq<|aj<|zo I (ek I I)<|ai<|aa<|bu (ht I) (de hx)<|bc ?_;refine M (M (aC ?_));refine af<|aj<|zo rfl (dd)<|ai<|ah ?_;cases so h;exact aw I I
  ·obtain⟨hx,h⟩:=h
   refine aq<|aj<|zo I (ek I I)<|ai<|aa<|bt (ht I) (cX hx)<|dk<|aa<|ak<|aj<|zo I (gI nV pV I I I (cS hx))<|zo I (bf pV I I)<|aS I<|ai<|aa<|aj<|av I<|zo I (d5 pY I) ?_;refine zo I (cH (ht I) hI)<|ai<|bR h I (fun h=>?_) (fun h=>?_)
   ·refine aj<|zo I (dd)<|ai<|ah ?_;refine J (au (J (J (au (J ?_)))));cases so h;exact aw I I
   ·refine dk<|aj<|av I<|zo I (d5 pY I)<|zo I (bm hI)<|ai<|ak<|aT (k:=19) I fun hN1=>bn ?_;refine aD (dv (Z:=fun ls1 i1=>(e.drop i1=ls1)∧jo (gv tl) ls1=some R) (Of:=fun _ i1=>[]) (Gf:=fun _ i1=>[(10,dM (pZ) l),(11,iB l),(12,cb (i:Int)),(19,dM (bF) e),(20,iB e),(21,cb (i1:Int))]) (fun i1 h=>?_) (fun e1 tl1 ih1 i1 h=>?_) e 0 ⟨I,h⟩) (aR I)
    ·obtain⟨hx1,h⟩:=h
     refine aq<|aj<|zo I (ek I I)<|ai<|aa<|bu (ht I) (de hx1)<|bc ?_;refine M (M (aC ?_));refine ac<|af<|ae<|zo rfl (jL (cy hx hN) rfl)<|av rfl<|ay ?_;exact aM (aD (ih (i+1) ⟨cx hx,h⟩) (aR I))
    ·obtain⟨hx1,h⟩:=h
     refine aq<|aj<|zo I (ek I I)<|ai<|aa<|bt (ht I) (cX hx1)<|dk<|aa<|ak<|aj<|zo I (gI pY ft I I I (cS hx1))<|zo I (bf ft I I)<|bJ (r:=bF) (x:=DH) ft (fun _=>ni _) I fun b=>aQ ft I aY I (ht I) (ht I)<|bE 6 I<|ai<|aj<|zo I (aU oT jz I I) ?_;refine zo I (bf JD I I)<|zo I (wv Ad (ht I))<|zo I (cH (ht I) hI)<|ai<|bR h I (fun h=>?_) (fun h=>?_)
     ·refine aj<|zo I (dd)<|ai<|ah ?_;refine au (J (J (au (au (J (J (au (J ?_))))))));cases so h;exact aw I I
     ·refine aP<|ac<|af<|ae<|zo rfl (jL (cy hx1 hN1) rfl)<|av rfl<|ay ?_;exact aM (aD (ih1 (i1+1) ⟨cx hx1,h⟩) (aR I))

end Go.Proofs.YtdohlidddcgfjaaGreat

