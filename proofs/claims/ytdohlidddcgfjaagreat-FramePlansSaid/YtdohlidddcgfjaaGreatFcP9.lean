/- cE of this claim: P9. -/
import Derived.Test.YtdohlidddcgfjaaGreatFcT
import Derived.Test.YtdohlidddcgfjaaGreatFcP8
set_option linter.all false
namespace Go.Proofs.YtdohlidddcgfjaaGreat
open Go
set_option maxRecDepth 100000

def RS b p bytes{R}(h:sI b p bytes=some R):gm bd 158 [em ((rI .u8)) b,tD qc p,bH bytes] false (rI .u8) 5 R:=by
 refine gm.of Tryz.func158 J J J fun w0 S0=>d<|ci false (rI .u8) 5<|s (bU tE)<|bu<|ax J<|bI kG J<|Q J<|s (cW (D J) (D J))<|bR h fun mk q_mk h=>br (Cz (r:=(rI .u8)) (x:=(0:Int)) me J J J kG (fun _=>J) hI (D J) q_mk) J fun i=>aN J<|ax J<|Q J<|bR h fun out q_out h=>bD me J J J J kG J J (D J) (D J) q_out fun l c=>?_;refine aN J<|aS<|Q J<|s (bT hI)<|bu<|ak<|bA<|dY<|lu ?_;refine aH (qW (aa:=fun n out1 l1 c1 x=>ld p bytes n out1 x=some R) (Of:=fun out1 l1 c1 x=>[db (rI .u8) 5 l1 c1 out1]) (Gf:=fun out1 l1 c1 x=>[(1,tD qc p),(2,bH bytes),(7,nO l1 c1 out1),(17,bH bytes),(18,bH x)]) (fun out1 l1 c1 x h=>nn h) (fun n ih out1 l1 c1 x h=>?_) dk out l c (0:Int) h) (aX J);refine cJ<|d<|jC J<|bu<|aP<|fy h J (fun h=>?_) (fun h=>?_)
 ·refine fN<|aP<|ak<|ax J<|aN J<|aj<|Q J<|Q J<|s (c0 Gj vF (D J))<|Q J<|Q J<|s (dP (D J) (D J))<|s (Ch hI (D J))<|s (dP (D J) hI)<|bR h fun u q_u h=>s (Ak (D J) (D J) (Bs q_u))<|s (c0 vF nV (D J))<|s (aI (r:=(rI .u8)) (ys:=[(IntKind.u8.wrap (((IntKind.u64.wrap p)).fdiv (2^(min (Int.toNat (IntKind.i64.wrap ((IntKind.i64.wrap ((8:Int)*(IntKind.i64.wrap (bytes-x))))-(8:Int)))) IntKind.u64.bits))))]) (xs:=[.tmp 30]) kG me J J J J J ⟨(D J),aZ⟩)<|bR h fun out2 q_out2 h=>?_;refine bD me J J J J kG J J (D J) (D J) q_out2 fun l2 c2=>d6 J<|aJ<|al<|au<|aj<|s (cW (D J) hI)<|Q J<|aJ ?_;exact aU (aH (ih out2 l2 c2 (IntKind.i64.wrap (x+(1:Int))) h) (aX J))
 ·exact cQ<|ap<|ap<|bL<|au<|ax J<|bf J<|so h▸fL J J
def Ky b p{R}(h:pQ b p=some R):gm bd 117 [em ((rI .u8)) b,tD qc p] false (rI .u8) 5 R:=by
 exact gm.of Tryz.func117 J J J fun w0 S0=>d<|ci false (rI .u8) 5<|s (bU tE)<|bu<|ax J<|Q J<|ot h abn (RS _ _ _) (cy J) fun r h l c=>bf J<|so h▸fL J J
def UZ b p{R}(h:pQ b p=some R):cX bd 117 [em ((rI .u8)) b,tD qc p] (em ((rI .u8)) R):=(Ky _ _ h).spec

def ZQ(b:Nat)(ix:OI) w1 n{R}(h:iP w1 n=some R):bK bd 89 [M (Z b 0),tD aM n] (fW b w1 ix) (fun _:OI=>tT []) (fun j=>fW b R j):=by
 refine bK.of Tryz.func89 J J J fun w0 S0=>?_;refine(show CG _ _ _ [bx (rH dc [(0,ay (ix.h 0).1 (ix.h 0).2 w1.bytes.length)]) 60 b w1,tip (rI .u8) 5 (ix.h 0).1 (ix.h 0).2 w1.bytes] _ from ?_);refine d<|dl J<|bu<|ax J<|aQ jv ep ur J<|bI rz J<|s (aI (r:=bV) (ys:=[(n.Order.length:Int)]) (xs:=[.tmp 9]) df bB J J J J J ⟨(D J),aZ⟩)<|bR h fun r q_r h=>br (EffOK.fr1 (EffOK.fr1 (aE (xs:=[.tmp 6,.tmp 10]) (ts:=[M (Z b 0),jK ([(n.Order.length:Int)])]) (fW b w1 ix) _ J xG (sl b ix w1 _ q_r) ⟨(D J),(D J),aZ⟩ (fun _=>J)))) J fun i=>?_;refine(show RG _ _ _ _ [_,_] ((11,tT [])::_)from ?_);refine bu<|aS<|aQ jv ep ur J<|bI rz J<|s (bT hI)<|bu<|ak<|bo (k:=13) J fun hN=>bA ?_;refine aH (jz (aa:=fun ls i1 ob l c=>(n.Order.drop i1=ls)/\iy n ls ob=some R) (Of:=fun _ i1 ob l c=>[bx (rH dc [(0,ay l c ob.bytes.length)]) 60 b ob,tip (rI .u8) 5 l c ob.bytes]) (Gf:=fun _ i1 ob l c=>[(0,M (Z b 0)),(3,ck aM n),(13,em (gy) n.Order),(14,kE n.Order),(15,bH (i1:Int))]) (fun i1 ob l c h=>?_) (fun e tl ih i1 ob l c h=>?_) n.Order 0 r (i.h 0).1 (i.h 0).2 ⟨J,h⟩) (aX J)
 ·obtain⟨V,h⟩:=h
  refine ez V J<|au<|bR h fun r1 q_r1 h=>?_
  refine ja 10 [tc (M (Z b 0)),tc (M (Z b 0)),tc (M (Z b 0)),tc (M (Z b 0)),tc (tO (rI .u8) l c ob.bytes),tc (ck bV n.Limit),tc (bH n.Limit),tc (bH (IntKind.i64.wrap (n.Limit+(1:Int)))),tc (tD qc (IntKind.u32.wrap (IntKind.i64.wrap (n.Limit+(1:Int))))),([9],fun ac=>tO (rI .u8) ((ac.getD 0 ml).h 0).1 ((ac.getD 0 ml).h 0).2 r1)] [false,false,false,false,false,false,false,false,false,true] [fun _=>[bx (rH dc [(0,ay l c ob.bytes.length)]) 60 b ob,tip (rI .u8) 5 l c ob.bytes],fun sg=>[tip (rI .u8) 5 ((sg 9).h 0).1 ((sg 9).h 0).2 r1,bx (rH dc [(0,ay l c ob.bytes.length)]) 60 b ob,tip (rI .u8) 5 l c ob.bytes]] J mixed J J J J J
   ⟨⟨[⟨0,fun _=>M (Z b 0),none⟩],_,0,1,J,⟨(fun _=>J),aZ⟩,J,J,J,J,J,fun _ sg _ _=>ai J (mt J)⟩,
   ⟨⟨[⟨0,fun _=>M (Z b 0),none⟩],_,0,0,J,⟨(fun _=>J),aZ⟩,J,J,J,J,J,fun _ sg _ _=>ai J (mt J)⟩,
   ⟨⟨[⟨30,fun _=>M (Z b 0),some 1⟩],_,0,0,J,⟨(fun _=>J),aZ⟩,J,J,J,J,J,fun _ sg _ _=>ai J (aO (D J))⟩,
   ⟨⟨[⟨31,fun _=>M (Z b 0),some 2⟩],_,0,0,J,⟨(fun _=>J),aZ⟩,J,J,J,J,J,fun _ sg _ _=>ai J (q9 0 pc J J J)⟩,
   ⟨⟨[⟨32,fun _=>M (Z b 0),some 3⟩],_,0,0,J,⟨(fun _=>J),aZ⟩,J,J,J,J,J,py (fun sg=>ai J (nE qF J (.head _) (.tail _ (.head _)) (D J)))⟩,
   ⟨⟨[⟨3,fun _=>ck aM n,none⟩],_,0,0,J,⟨(fun _=>J),aZ⟩,J,J,J,J,J,fun _ sg _ _=>ai J (oq qu jG J J)⟩,
   ⟨⟨[⟨34,fun _=>ck bV n.Limit,some 5⟩],_,0,0,J,⟨(fun _=>J),aZ⟩,J,J,J,J,J,fun _ sg _ _=>ai J (yT bB J J)⟩,
   ⟨⟨[⟨35,fun _=>tD bV n.Limit,some 6⟩],_,0,0,J,⟨(fun _=>J),aZ⟩,J,J,J,J,J,fun _ sg _ _=>ai J (cW (D J) hI)⟩,
   ⟨⟨[⟨36,fun _=>tD bV (IntKind.i64.wrap (n.Limit+(1:Int))),some 7⟩],_,0,0,J,⟨(fun _=>J),aZ⟩,J,J,J,J,J,fun _ sg _ _=>ai J (c0 iL Gj (D J))⟩,
   ⟨⟨[⟨33,fun _=>tO (rI .u8) l c ob.bytes,some 4⟩,⟨37,fun _=>tD qc (IntKind.u32.wrap (IntKind.i64.wrap (n.Limit+(1:Int)))),some 8⟩],_,J,⟨(fun _=>J),(fun _=>J),aZ⟩,J,J,J,fun sg=>cP J (wv (xs:=[.tmp 33,.tmp 37]) (ts:=[tD FN ob.bytes,tD qc (IntKind.u32.wrap (IntKind.i64.wrap (n.Limit+(1:Int))))]) V3 (Ky _ _ q_r1) ⟨(mX (D J)),(D J),aZ⟩)⟩,
   aZ⟩⟩⟩⟩⟩⟩⟩⟩⟩⟩ (fun sg=>?_)
  refine(show RG _ _ _ _ [_,_,_] _ from ?_);refine s (aO (D J))<|bh 0 pc J<|fK (EffOK.fr1 (m9 (hs' :=[(0,ay ((sg 9).h 0).1 ((sg 9).h 0).2 r1.length)]) (u:=ay ((sg 9).h 0).1 ((sg 9).h 0).2 r1.length) qF J J nS J ⟨.inl ⟨J,J,J⟩,aZ⟩ (D J) (mX (D J)) (xV (D J)))) fun i2=>?_;refine(show RG _ _ _ _ [_,_,_] _ from ?_);exact cZ<|zh<|aJ<|am<|am<|so h▸fE J (sg 9) J J
 ·obtain⟨V,h⟩:=h
  refine ew V J<|aP<|ak<|d<|dg rz pA J (dJ V)<|bz pA K5 J fun b1=>bO pA aB J<|bj 5 J<|bu<|ax J ?_;refine aQ y9 uI bB J<|s (aI (r:=bV) (ys:=[e.Col]) (xs:=[.tmp 21]) df bB J J J J J ⟨(D J),aZ⟩)<|bR h fun r2 q_r2 h=>br (EffOK.fr1 (EffOK.fr1 (aE (xs:=[.tmp 19,.tmp 22]) (ts:=[M (Z b 0),jK ([e.Col])]) (fW b ob (sj [(l,c)])) _ J xG (sl b (sj [(l,c)]) ob _ q_r2) ⟨(D J),(D J),aZ⟩ (fun _=>J)))) J fun i3=>?_;refine(show RG _ _ _ _ [_,_] ((23,tT [])::_)from ?_);refine bu<|aj<|Q J<|aQ Ny EX zF J<|bR h fun r3 q_r3 h=>br (EffOK.fr1 (EffOK.fr1 (aE (xs:=[.tmp 24,.tmp 26]) (ts:=[M (Z b 0),fM e.Desc]) (fW b r2 i3) _ J U9 (Nz b i3 r2 _ q_r3) ⟨(D J),(D J),aZ⟩ (fun _=>J)))) J fun i4=>?_;refine(show RG _ _ _ _ [_,_] ((27,tT [])::_)from ?_);refine aJ<|dd V hN J ?_;exact aU (aH (ih (i1+1) r3 (i4.h 0).1 (i4.h 0).2 ⟨da V,h⟩) (aX J))

def VL(b:Nat)(ix:OI) w1 p{R}(h:kO w1 p=some R):bK bd 41 [M (Z b 0),tD gq p] (fW b w1 ix) (fun _:OI=>tT []) (fun j=>fW b R j):=by
 refine bK.of Tryz.func41 J J J fun w0 S0=>?_;refine(show CG _ _ _ [bx (rH dc [(0,ay (ix.h 0).1 (ix.h 0).2 w1.bytes.length)]) 60 b w1,tip (rI .u8) 5 (ix.h 0).1 (ix.h 0).2 w1.bytes] _ from ?_);refine d<|dl J<|bu<|d<|Fq (Nj (fun y:(bg->tV->Option (Unit×bg))=>fI bd DW (fW b) DV y)) (VC .i64) J fun b1=>Q J ?_
 refine vz ((show cI _ _ _ _ (fI bd DW (fW b) DV Oj)from rQ Z7 (D J) (fun c x R h i=>by
   obtain⟨r,X,rfl⟩:=FM.1 h
   exact VK _ _ _ _ X))) J ?_
 refine kT (γ:=(fun y:(bg->tV->Option (Unit×bg))=>fI bd DW (fW b) DV y)) (y:=Oj) FL (jL iL) (D J) (uZ hI) (D J) fun os=>Q J ?_
 refine vz ((show cI _ _ _ _ (fI bd DW (fW b) DV Oj)from rQ Z7 (D J) (fun c x R h i=>by
   obtain⟨r,X,rfl⟩:=FM.1 h
   exact VK _ _ _ _ X))) J ?_
 refine kT (γ:=(fun y:(bg->tV->Option (Unit×bg))=>fI bd DW (fW b) DV y)) (y:=Oj) FL (jL iL) (D J) (uZ hI) (D J) fun os1=>Q J ?_
 refine vz ((show cI _ _ _ _ (fI bd DW (fW b) DV Wg)from rQ ach (D J) (fun c x R h i=>by
   obtain⟨r,X,rfl⟩:=FM.1 h
   exact ZT _ _ _ _ X))) J ?_
 refine kT (γ:=(fun y:(bg->tV->Option (Unit×bg))=>fI bd DW (fW b) DV y)) (y:=Wg) FL (jL iL) (D J) (uZ hI) (D J) fun os2=>Q J ?_
 refine vz ((show cI _ _ _ _ (fI bd DW (fW b) DV Wi)from rQ acg (D J) (fun c x R h i=>by
   obtain⟨r,X,rfl⟩:=FM.1 h
   exact ZS _ _ _ _ X))) J ?_
 refine kT (γ:=(fun y:(bg->tV->Option (Unit×bg))=>fI bd DW (fW b) DV y)) (y:=Wi) FL (jL iL) (D J) (uZ hI) (D J) fun os3=>Q J ?_
 refine vz ((show cI _ _ _ _ (fI bd DW (fW b) DV HD)from rQ Yn (D J) (fun c x R h i=>by
   obtain⟨r,X,rfl⟩:=FM.1 h
   exact RD _ _ _ _ X))) J ?_
 refine kT (γ:=(fun y:(bg->tV->Option (Unit×bg))=>fI bd DW (fW b) DV y)) (y:=HD) FL (jL iL) (D J) (uZ hI) (D J) fun os4=>Q J ?_
 refine vz ((show cI _ _ _ _ (fI bd DW (fW b) DV HD)from rQ Yn (D J) (fun c x R h i=>by
   obtain⟨r,X,rfl⟩:=FM.1 h
   exact RD _ _ _ _ X))) J ?_
 refine kT (γ:=(fun y:(bg->tV->Option (Unit×bg))=>fI bd DW (fW b) DV y)) (y:=HD) FL (jL iL) (D J) (uZ hI) (D J) fun os5=>Q J ?_
 refine vz ((show cI _ _ _ _ (fI bd DW (fW b) DV HD)from rQ Yn (D J) (fun c x R h i=>by
   obtain⟨r,X,rfl⟩:=FM.1 h
   exact RD _ _ _ _ X))) J ?_
 refine kT (γ:=(fun y:(bg->tV->Option (Unit×bg))=>fI bd DW (fW b) DV y)) (y:=HD) FL (jL iL) (D J) (uZ hI) (D J) fun os6=>Q J ?_
 refine vz ((show cI _ _ _ _ (fI bd DW (fW b) DV Wj)from rQ acf (D J) (fun c x R h i=>by
   obtain⟨r,X,rfl⟩:=FM.1 h
   exact ZR _ _ _ _ X))) J ?_
 refine kT (γ:=(fun y:(bg->tV->Option (Unit×bg))=>fI bd DW (fW b) DV y)) (y:=Wj) FL (jL iL) (D J) (uZ hI) (D J) fun os7=>Q J ?_
 refine vz ((show cI _ _ _ _ (fI bd DW (fW b) DV Wh)from rQ ace (D J) (fun c x R h i=>by
   obtain⟨r,X,rfl⟩:=FM.1 h
   exact ZQ _ _ _ _ X))) J ?_
 refine kT (γ:=(fun y:(bg->tV->Option (Unit×bg))=>fI bd DW (fW b) DV y)) (y:=Wh) FL (jL iL) (D J) (uZ hI) (D J) fun os8=>Q J<|aN J<|ax J<|aQ nI gV v8 J<|bI rA J<|s (aI (r:=bV) (ys:=[(p.Frags.length:Int)]) (xs:=[.tmp 34]) df bB J J J J J ⟨(D J),aZ⟩)<|bR h fun r q_r h=>br (EffOK.fr2 (EffOK.fr2 (aE (xs:=[.tmp 31,.tmp 35]) (ts:=[M (Z b 0),jK ([(p.Frags.length:Int)])]) (fW b w1 ix) _ J xG (sl b ix w1 _ q_r) ⟨(D J),(D J),aZ⟩ (fun _=>J)))) J fun i=>?_;refine(show RG _ _ _ _ [_,_,_] ((36,tT [])::_)from ?_);refine bu<|d<|aQ nI gV v8 J<|bI rA J<|s (bT hI)<|bu<|ak<|bo (k:=38) J fun hN=>bA<|dY<|dY<|kV ?_;refine aH (jz (aa:=fun ls i1 ob l c=>(p.Frags.drop i1=ls)/\hD ls ob=some R) (Of:=fun _ i1 ob l c=>[Bm (Nj (fun y:(bg->tV->Option (Unit×bg))=>fI bd DW (fW b) DV y)) (VC .i64) b1 none os8 zk3,bx (rH dc [(0,ay l c ob.bytes.length)]) 60 b ob,tip (rI .u8) 5 l c ob.bytes]) (Gf:=fun _ i1 ob l c=>[(0,M (Z b 0)),(4,M (vO b1)),(38,em (cM) p.Frags),(39,kE p.Frags),(40,bH (i1:Int))]) (fun i1 ob l c h=>?_) (fun e tl ih i1 ob l c h=>?_) p.Frags 0 r (i.h 0).1 (i.h 0).2 ⟨J,h⟩) (aX J)
 ·obtain⟨V,h⟩:=h
  exact ez V J<|aV<|am<|am<|so h▸fE J (sj [(l,c)]) J J
 ·obtain⟨V,h⟩:=h
  refine ew V J<|aP<|ak<|d<|dg rA nc J (dJ V)<|bz nc nf J fun b2=>bO nc aB J<|bj 6 J<|bu<|ax J ?_;refine aQ vR oT bB J<|aQ vQ oS bB J<|s (aI (r:=bV) (ys:=[e.At,e.Way]) (xs:=[.tmp 46,.tmp 48]) df bB J J J J J ⟨(D J),(D J),aZ⟩)<|bR h fun r1 q_r1 h=>br (EffOK.fr2 (EffOK.fr2 (aE (xs:=[.tmp 44,.tmp 49]) (ts:=[M (Z b 0),jK ([e.At,e.Way])]) (fW b ob (sj [(l,c)])) _ J xG (sl b (sj [(l,c)]) ob _ q_r1) ⟨(D J),(D J),aZ⟩ (fun _=>J)))) J fun i2=>?_;refine(show RG _ _ _ _ [_,_,_] ((50,tT [])::_)from ?_);refine bu<|ax J<|aQ sM lG cu J<|bR h fun r2 q_r2 h=>br (EffOK.fr1 (EffOK.fr1 (aE (xs:=[.tmp 51,.tmp 53]) (ts:=[M (Z b 0),jK e.Cols]) (fW b r1 i2) _ J Ym (RC b i2 r1 _ q_r2) ⟨(D J),(D J),aZ⟩ (fun _=>J)))) J fun i3=>?_;refine(show RG _ _ _ _ [_,_,_] ((54,tT [])::_)from ?_);refine bu<|ax J<|aQ sN mF qe J<|bI j4 J<|s (aI (r:=bV) (ys:=[(e.Nodes.length:Int)]) (xs:=[.tmp 58]) df bB J J J J J ⟨(D J),aZ⟩)<|bR h fun r3 q_r3 h=>br (EffOK.fr1 (EffOK.fr1 (aE (xs:=[.tmp 55,.tmp 59]) (ts:=[M (Z b 0),jK ([(e.Nodes.length:Int)])]) (fW b r2 i3) _ J xG (sl b i3 r2 _ q_r3) ⟨(D J),(D J),aZ⟩ (fun _=>J)))) J fun i4=>?_;refine(show RG _ _ _ _ [_,_,_] ((60,tT [])::_)from ?_);refine bu<|d<|aQ sN mF qe J<|bI j4 J<|s (bT hI)<|bu<|ak<|bo (k:=62) J fun hN1=>bA<|dY<|dY<|kV ?_;refine aH (jz (aa:=fun ls1 i5 ob1 l1 c1=>(e.Nodes.drop i5=ls1)/\fm (hD tl) ls1 ob1=some R) (Of:=fun _ i5 ob1 l1 c1=>[Bm (Nj (fun y:(bg->tV->Option (Unit×bg))=>fI bd DW (fW b) DV y)) (VC .i64) b1 none os8 zk3,bx (rH dc [(0,ay l1 c1 ob1.bytes.length)]) 60 b ob1,tip (rI .u8) 5 l1 c1 ob1.bytes]) (Gf:=fun _ i5 ob1 l1 c1=>[(0,M (Z b 0)),(4,M (vO b1)),(38,em (cM) p.Frags),(39,kE p.Frags),(40,bH (i1:Int)),(62,em (aM) e.Nodes),(63,kE e.Nodes),(64,bH (i5:Int))]) (fun i5 ob1 l1 c1 h=>?_) (fun e1 tl1 ih1 i5 ob1 l1 c1 h=>?_) e.Nodes 0 r3 (i4.h 0).1 (i4.h 0).2 ⟨J,h⟩) (aX J)
  ·obtain⟨hx1,h⟩:=h
   refine ez hx1 J<|dd V hN J ?_;exact aU (aH (ih (i1+1) ob1 l1 c1 ⟨da V,h⟩) (aX J))
  ·obtain⟨hx1,h⟩:=h
   refine ew hx1 J<|aP<|ak<|d<|dg j4 dA J (dJ hx1)<|bz dA ie J fun b3=>bO dA aB J<|bj 8 J<|bu<|ax J ?_;refine aQ ft cB bB J<|s (aI (r:=bV) (ys:=[e1.Op]) (xs:=[.tmp 70]) df bB J J J J J ⟨(D J),aZ⟩)<|bR h fun r4 q_r4 h=>br (EffOK.fr2 (EffOK.fr2 (aE (xs:=[.tmp 68,.tmp 71]) (ts:=[M (Z b 0),jK ([e1.Op])]) (fW b ob1 (sj [(l1,c1)])) _ J xG (sl b (sj [(l1,c1)]) ob1 _ q_r4) ⟨(D J),(D J),aZ⟩ (fun _=>J)))) J fun i6=>?_;refine(show RG _ _ _ _ [_,_,_] ((72,tT [])::_)from ?_);refine bu<|ax J<|aQ ft cB bB J<|s (J4 (γ:=(fun y:(bg->tV->Option (Unit×bg))=>fI bd DW (fW b) DV y)) (z:=fun _ _=>none) FL (jL iL) YP (fun _=>Gx) (.tail _ (.tail _ (.head _))) (D J) (uZ (D J)))<|Q J<|dz J J<|dz J J<|d6 J<|aN J<|ax J<|bW h J (fun h=>?_) (fun h=>?_)
   ·refine aj<|Q J<|dH dA J<|bR h fun r5 q_r5 h=>br (EffOK.fr1 (EffOK.fr1 (BM (args:=DW) (Ob:=fW b) (res:=DV) (f:=((uY zk3 e1.Op).getD (fun _ _=>none))) (x:=r4) (y:=((e1):tV)) (R:=r5) (i:=i6) (xs:=[.tmp 82]) _ J (D J) q_r5 ⟨(D J),aZ⟩ (fun _=>J)))) J fun i7=>?_;refine(show RG _ _ _ _ [_,_,_] ((83,tT [])::_)from ?_);refine aJ<|dd hx1 hN1 J<|am<|am<|aT ?_;exact aU (aH (ih1 (i5+1) r5.2 (i7.h 0).1 (i7.h 0).2 ⟨da hx1,h⟩) (aX J))
   ·refine bc<|dd hx1 hN1 J<|am<|am<|aT ?_;exact aU (aH (ih1 (i5+1) r4 (i6.h 0).1 (i6.h 0).2 ⟨da hx1,h⟩) (aX J))

def XQ(l:Option Nat)(c:Nat) b l1{R}(h:BO b l1=some R):bK bd 200 [nO l c b,em (bF) l1] [tip (rI .u8) 5 l c b] (fun _:OI=>tT [em ((rI .u8)) R.1,bH R.2]) (fun _=>[]):=by
 refine bK.of Tryz.func200 J J J fun w0 S0=>FE 0 J<|d<|ci false (rI .u8) 5<|s (bU tE)<|ca<|bu<|aS<|Q J<|bI Tryz.underlying101 J<|s (bT hI)<|bu<|ak<|bo (k:=10) J fun hN=>bA<|lu ?_;refine aH (jz (aa:=fun ls i b1 l2 c1=>(l1.drop i=ls)/\tz ls b1=some R) (Of:=fun _ i b1 l2 c1=>[tip (rI .u8) 5 l2 c1 b1]) (Gf:=fun _ i b1 l2 c1=>[(0,tO (rI .u8) l2 c1 b1),(10,em (bF) l1),(11,kE l1),(12,bH (i:Int))]) (fun i b1 l2 c1 h=>?_) (fun e tl ih i b1 l2 c1 h=>?_) l1 0 b l c ⟨J,h⟩) (aX J)
 ·obtain⟨V,h⟩:=h
  exact ez V J<|au<|ax J<|d6 J<|eg<|eW 4 J<|aV<|so h▸wC (ts:=[em ((rI .u8)) b1,bH 0]) (rvs:=[.tmp 4,.tmp 5]) J J ⟨ni J,ni J,aZ⟩ ml J J
 ·obtain⟨V,h⟩:=h
  refine ew V J<|aP<|ak<|d<|dg Tryz.underlying101 dh J (dJ V)<|bz dh lJ J fun b2=>bO dh aB J<|bj 7 J<|bu<|d<|dH dh J ?_;refine eE h V0 (NI _) (cy J) fun r h=>Q J<|dz J J<|dz J J<|d6 J<|aN J<|aS<|Q J<|nP J<|bW h J (fun h=>?_) (fun h=>?_)
  ·exact ax J<|ci false (rI .u8) 5<|s (bU tE)<|bf J<|af<|cx<|af<|cx<|dq<|bP 4 J<|eW 4 J<|aV<|aV<|so h▸wC (ts:=[em ((rI .u8)) pu,bH r.2]) (rvs:=[.tmp 4,.tmp 5]) J J ⟨ni J,ni J,aZ⟩ ml J J
  ·refine fN<|aj<|Q J<|Q J<|bR h fun b3 q_b3 h=>oo me J J J J kG J J (D J) (D J) q_b3 fun l3 c2=>d6 J<|aJ<|dd V hN J ?_;exact aU (aH (ih (i+1) b3 l3 c2 ⟨da V,h⟩) (aX J))

def UL r{R}(h:Hk r=some R):cX bd 160 [em (bF) r] (tT [em ((rI .u8)) R.1,bH R.2]):=by
 refine dK Tryz.func160 J<|d<|fO ((rI .u8))<|ca<|bu<|aS<|Q J<|bI FK J<|s (dD (D J) hI)<|bW h J (fun h=>?_) (fun h=>?_)
 ·exact d<|fO ((rI .u8))<|eg<|af<|so h▸cg J J J
 ·refine fN<|ax J<|bI FK J<|s (c0 iL nV (D J))<|kD (r:=(rI .u8)) (ys:=[(IntKind.u8.wrap (r.length:Int))]) (xs:=[.tmp 9]) kG me J J J J J ⟨(D J),aZ⟩ J fun l c=>Q J<|ic<|fT 10 J<|bR h fun r1 q_r1 h=>Fu [tip (rI .u8) 5 l c ([(IntKind.u8.wrap (r.length:Int))])] _ J aaW (XQ l c _ _ q_r1) ⟨(xV (D J)),(D J),aZ⟩ J fun i=>?_;refine(show RG _ _ _ _ [] ((12,tT [em ((rI .u8)) r1.1,bH r1.2])::_)from ?_);exact dz J J<|dz J J<|d6 J<|bf J<|so h▸cg J J J

def UY l{R}(h:Fj l=some R):cX bd 118 [em (zY) l] (tT [em ((rI .u8)) R.1,bH R.2.1,bH R.2.2]):=by
 refine dK Tryz.func118 J<|d<|fO ((rI .u8))<|ca<|ca<|bu<|FF<|aS<|Q J<|bI AM J<|s (dD (D J) hI)<|bW h J (fun h=>?_) (fun h=>?_)
 ·exact d<|fO ((rI .u8))<|ca<|eg<|af<|rx<|so h▸zp J J J J
 ·refine fN<|ax J<|bI AM J<|s (c0 iL I4 (D J))<|ot h V2 (Kw _ _) ⟨Pl,(D J),aZ⟩ fun r h l1 c=>aN J<|d<|ca<|ca<|bu<|aP<|FG<|au<|aS ?_;refine Q J<|bI AM J<|s (bT hI)<|bu ?_;refine wB (aa:=fun b l2 c1 at1 e=>vU b at1 e=some R) (Of:=fun b l2 c1 at1 e=>[db (rI .u8) 5 l2 c1 b]) (Gf:=fun b l2 c1 at1 e=>[(5,nO l2 c1 b),(6,bH at1),(7,bH e)]) (fun b l2 c1 at1 e h=>?_) (fun h2=>?_)
  ·skip
   refine au<|aS<|Q J<|nP J<|bW h J (fun h=>?_) (fun h=>?_)
   ·exact ax J<|Q J<|fO ((rI .u8))<|d6 J<|bf J<|af<|rx<|aV<|so h▸zp J J J J
   ·exact fN<|ax J<|d6 J<|ca<|eg<|rx<|dq<|bP 5 J<|bP 41 J<|bP 2 J<|eW 2 J<|aV<|so h▸zp J J J J
  ·skip
   refine bo (k:=18) J fun hN=>bA ?_;refine aH (KR (aa:=fun ls i b1 l3 c2 at2 e1=>(l.drop i=ls)/\vT ls i b1 at2 e1=some R) (Of:=fun _ i b1 l3 c2 at2 e1=>[db (rI .u8) 5 l3 c2 b1]) (Gf:=fun _ i b1 l3 c2 at2 e1=>[(5,nO l3 c2 b1),(6,bH at2),(7,bH e1),(18,em (zY) l),(19,kE l),(20,bH (i:Int))]) (fun i b1 l3 c2 at2 e1 h=>?_) (fun e2 tl ih i b1 l3 c2 at2 e1 h=>?_) l 0 r l1 c (0:Int) (0:Int) ⟨J,h⟩) (aX J)
   ·obtain⟨V,h⟩:=h
    refine ez V J ?_;exact bE (h2 b1 l3 c2 at2 e1 h) (aX J)
   ·obtain⟨V,h⟩:=h
    refine ew V J<|aP<|ak<|ax J<|dg AM Js J (dJ V)<|d6 J<|aN J<|d<|fO ((rI .u8)) ?_;refine bu<|aS<|Q J<|eE h abm (UL _) (cy J) fun r1 h=>Q J<|dz J J<|dz J J<|d6 J<|aN J<|ax J<|nP J<|bW h J (fun h=>?_) (fun h=>?_)
    ·refine ax J<|aN J<|cQ<|ap<|cn J<|ap<|ap<|bL ?_;exact bE (h2 b1 l3 c2 (i:Int) r1.2 h) (aX J)
    ·refine fN<|aj<|Q J<|Q J<|bR h fun b2 q_b2 h=>bD me J J J J kG J J (D J) (D J) q_b2 fun l4 c3=>d6 J<|aJ<|dd V hN J ?_;exact aU (aH (ih (i+1) b2 l4 c3 at2 r1.2 ⟨da V,h⟩) (aX J))

end Go.Proofs.YtdohlidddcgfjaaGreat

