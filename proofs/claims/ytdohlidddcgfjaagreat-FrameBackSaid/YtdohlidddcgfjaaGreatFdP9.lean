/- bT of this claim: P9. -/
import Derived.Test.YtdohlidddcgfjaaGreatFdT
import Derived.Test.YtdohlidddcgfjaaGreatFdP8
set_option linter.all false
namespace Go.Proofs.YtdohlidddcgfjaaGreat
open Go
set_option maxRecDepth 100000

def SQ b p bytes{R}(h:rl b p bytes=some R):jy aY 158 [d8 ((rI .u8)) b,tD nT p,bC bytes] false (rI .u8) 5 R:=by
 refine jy.of Tryz.func158 J J J fun w0 S0=>a8<|cS false (rI .u8) 5<|s (cg w3)<|br<|aB J<|cw iY J<|aS J<|s (fS (D J) (D J))<|bM h fun mk q_mk h=>aL (Cc (r:=(rI .u8)) (x:=(0:Int)) tW J J J iY (fun _=>J) hI (D J) q_mk) J fun i=>aZ J<|aB J<|aS J<|bM h fun out q_out h=>dl tW J J J J iY J J (D J) (D J) q_out fun l c=>?_;refine aZ J<|bm<|aS J<|s (bQ hI)<|br<|aA<|bN<|gE<|sO ?_;refine aV (Dx (tV:=fun n out1 l1 c1 x=>km p bytes n out1 x=some R) (Of:=fun out1 l1 c1 x=>[dk (rI .u8) 5 l1 c1 out1]) (Gf:=fun out1 l1 c1 x=>[(1,tD nT p),(2,bC bytes),(7,rL l1 c1 out1),(17,bC bytes),(18,bC x)]) (fun out1 l1 c1 x h=>nn h) (fun n ih out1 l1 c1 x h=>?_) fh out l c (0:Int) h) (bo J);refine eu<|a8<|nX J<|br<|aT<|jz h J (fun h=>?_) (fun h=>?_)
 ·refine jg<|aT<|aA<|aB J<|aZ J<|aw<|aS J<|aS J<|s (fE DI zr (D J))<|aS J<|aS J<|s (iI (D J) (D J))<|s (EA hI (D J))<|s (iI (D J) hI)<|bM h fun u q_u h=>s (BW (D J) (D J) (EL q_u))<|s (fE zr uZ (D J))<|s (bc (r:=(rI .u8)) (ys:=[(IntKind.u8.wrap (((IntKind.u64.wrap p)).fdiv (2^(min (Int.toNat (IntKind.i64.wrap ((IntKind.i64.wrap ((8:Int)*(IntKind.i64.wrap (bytes-x))))-(8:Int)))) IntKind.u64.bits))))]) (xs:=[.tmp 30]) iY tW J J J J J ⟨(D J),aM⟩)<|bM h fun out2 q_out2 h=>?_;refine dl tW J J J J iY J J (D J) (D J) q_out2 fun l2 c2=>hE J<|aX<|aF<|aG<|aw<|s (fS (D J) hI)<|aS J<|aX ?_;exact bj (aV (ih out2 l2 c2 (IntKind.i64.wrap (x+(1:Int))) h) (bo J))
 ·exact dB<|aq<|aq<|bV<|aG<|aB J<|bq J<|so h▸m6 J J
def KJ b p{R}(h:mT b p=some R):jy aY 117 [d8 ((rI .u8)) b,tD nT p] false (rI .u8) 5 R:=by
 exact jy.of Tryz.func117 J J J fun w0 S0=>a8<|cS false (rI .u8) 5<|s (cg w3)<|br<|aB J<|aS J<|u6 h abF (SQ _ _ _) (ea J) fun r h l c=>bq J<|so h▸m6 J J
def Vp b p{R}(h:mT b p=some R):dJ aY 117 [d8 ((rI .u8)) b,tD nT p] (d8 ((rI .u8)) R):=(KJ _ _ h).spec

def aad(b:Nat)(ix:OI) w1 n{R}(h:ib w1 n=some R):bk aY 89 [Z (M b 0),tD bl n] (fg b w1 ix) (fun _:OI=>tT []) (fun j=>fg b R j):=by
 refine bk.of Tryz.func89 J J J fun w0 S0=>?_;refine(show CG _ _ _ [Q (rH cV [(0,au (ix.h 0).1 (ix.h 0).2 w1.bytes.length)]) 60 b w1,tip (rI .u8) 5 (ix.h 0).1 (ix.h 0).2 w1.bytes] _ from ?_);refine a8<|eZ J<|br<|aB J<|bG sH mU HJ J<|cw yT J<|s (bc (r:=bP) (ys:=[(n.Order.length:Int)]) (xs:=[.tmp 9]) fx b9 J J J J J ⟨(D J),aM⟩)<|bM h fun r q_r h=>aL (EffOK.fr1 (EffOK.fr1 (an (xs:=[.tmp 6,.tmp 10]) (ts:=[Z (M b 0),pi ([(n.Order.length:Int)])]) (fg b w1 ix) _ J w5 (q6 b ix w1 _ q_r) ⟨(D J),(D J),aM⟩ (fun _=>J)))) J fun i=>?_;refine(show RG _ _ _ _ [_,_] ((11,tT [])::_)from ?_);refine br<|bm<|bG sH mU HJ J<|cw yT J<|s (bQ hI)<|br<|aA<|bt (k:=13) J fun hN=>bN ?_;refine aV (ni (tV:=fun ls i1 ob l c=>(n.Order.drop i1=ls)/\gT n ls ob=some R) (Of:=fun _ i1 ob l c=>[Q (rH cV [(0,au l c ob.bytes.length)]) 60 b ob,tip (rI .u8) 5 l c ob.bytes]) (Gf:=fun _ i1 ob l c=>[(0,Z (M b 0)),(3,df bl n),(13,d8 (iA) n.Order),(14,nz n.Order),(15,bC (i1:Int))]) (fun i1 ob l c h=>?_) (fun e tl ih i1 ob l c h=>?_) n.Order 0 r (i.h 0).1 (i.h 0).2 ⟨J,h⟩) (bo J)
 ·obtain⟨V,h⟩:=h
  refine fm V J<|aG<|bM h fun r1 q_r1 h=>?_
  refine iT 10 [tc (Z (M b 0)),tc (Z (M b 0)),tc (Z (M b 0)),tc (Z (M b 0)),tc (tO (rI .u8) l c ob.bytes),tc (df bP n.Limit),tc (bC n.Limit),tc (bC (IntKind.i64.wrap (n.Limit+(1:Int)))),tc (tD nT (IntKind.u32.wrap (IntKind.i64.wrap (n.Limit+(1:Int))))),([9],fun ae=>tO (rI .u8) ((ae.getD 0 jK).h 0).1 ((ae.getD 0 jK).h 0).2 r1)] [false,false,false,false,false,false,false,false,false,true] [fun _=>[Q (rH cV [(0,au l c ob.bytes.length)]) 60 b ob,tip (rI .u8) 5 l c ob.bytes],fun sg=>[tip (rI .u8) 5 ((sg 9).h 0).1 ((sg 9).h 0).2 r1,Q (rH cV [(0,au l c ob.bytes.length)]) 60 b ob,tip (rI .u8) 5 l c ob.bytes]] J mixed J J J J J
   ⟨⟨[⟨0,fun _=>Z (M b 0),none⟩],_,0,1,J,⟨(fun _=>J),aM⟩,J,J,J,J,J,fun _ sg _ _=>ac J (lQ J)⟩,
   ⟨⟨[⟨0,fun _=>Z (M b 0),none⟩],_,0,0,J,⟨(fun _=>J),aM⟩,J,J,J,J,J,fun _ sg _ _=>ac J (lQ J)⟩,
   ⟨⟨[⟨30,fun _=>Z (M b 0),some 1⟩],_,0,0,J,⟨(fun _=>J),aM⟩,J,J,J,J,J,fun _ sg _ _=>ac J (aC (D J))⟩,
   ⟨⟨[⟨31,fun _=>Z (M b 0),some 2⟩],_,0,0,J,⟨(fun _=>J),aM⟩,J,J,J,J,J,fun _ sg _ _=>ac J (oK 0 oF J J J)⟩,
   ⟨⟨[⟨32,fun _=>Z (M b 0),some 3⟩],_,0,0,J,⟨(fun _=>J),aM⟩,J,J,J,J,J,nD (fun sg=>ac J (na pO J (.head _) (.tail _ (.head _)) (D J)))⟩,
   ⟨⟨[⟨3,fun _=>df bl n,none⟩],_,0,0,J,⟨(fun _=>J),aM⟩,J,J,J,J,J,fun _ sg _ _=>ac J (w6 wi qk J J)⟩,
   ⟨⟨[⟨34,fun _=>df bP n.Limit,some 5⟩],_,0,0,J,⟨(fun _=>J),aM⟩,J,J,J,J,J,fun _ sg _ _=>ac J (BA b9 J J)⟩,
   ⟨⟨[⟨35,fun _=>tD bP n.Limit,some 6⟩],_,0,0,J,⟨(fun _=>J),aM⟩,J,J,J,J,J,fun _ sg _ _=>ac J (fS (D J) hI)⟩,
   ⟨⟨[⟨36,fun _=>tD bP (IntKind.i64.wrap (n.Limit+(1:Int))),some 7⟩],_,0,0,J,⟨(fun _=>J),aM⟩,J,J,J,J,J,fun _ sg _ _=>ac J (fE lr DI (D J))⟩,
   ⟨⟨[⟨33,fun _=>tO (rI .u8) l c ob.bytes,some 4⟩,⟨37,fun _=>tD nT (IntKind.u32.wrap (IntKind.i64.wrap (n.Limit+(1:Int)))),some 8⟩],_,J,⟨(fun _=>J),(fun _=>J),aM⟩,J,J,J,fun sg=>bY J (vu (xs:=[.tmp 33,.tmp 37]) (ts:=[tD Jl ob.bytes,tD nT (IntKind.u32.wrap (IntKind.i64.wrap (n.Limit+(1:Int))))]) Wz (KJ _ _ q_r1) ⟨(tX (D J)),(D J),aM⟩)⟩,
   aM⟩⟩⟩⟩⟩⟩⟩⟩⟩⟩ (fun sg=>?_)
  refine(show RG _ _ _ _ [_,_,_] _ from ?_);refine s (aC (D J))<|aW 0 oF J<|eW (EffOK.fr1 (lY (hs' :=[(0,au ((sg 9).h 0).1 ((sg 9).h 0).2 r1.length)]) (u:=au ((sg 9).h 0).1 ((sg 9).h 0).2 r1.length) pO J J mS J ⟨.inl ⟨J,J,J⟩,aM⟩ (D J) (tX (D J)) (C4 (D J)))) fun i2=>?_;refine(show RG _ _ _ _ [_,_,_] _ from ?_);exact cF<|Bu<|aX<|ah<|ah<|so h▸eN J (sg 9) J J
 ·obtain⟨V,h⟩:=h
  refine fj V J<|aT<|aA<|a8<|fQ yT td J (eF V)<|bw td Lp J fun b1=>bv td ax J<|bf 5 J<|br<|aB J ?_;refine bG Iz A8 b9 J<|s (bc (r:=bP) (ys:=[e.Col]) (xs:=[.tmp 21]) fx b9 J J J J J ⟨(D J),aM⟩)<|bM h fun r2 q_r2 h=>aL (EffOK.fr1 (EffOK.fr1 (an (xs:=[.tmp 19,.tmp 22]) (ts:=[Z (M b 0),pi ([e.Col])]) (fg b ob (qZ [(l,c)])) _ J w5 (q6 b (qZ [(l,c)]) ob _ q_r2) ⟨(D J),(D J),aM⟩ (fun _=>J)))) J fun i3=>?_;refine(show RG _ _ _ _ [_,_] ((23,tT [])::_)from ?_);refine br<|aw<|aS J<|bG UM KC Ad J<|bM h fun r3 q_r3 h=>aL (EffOK.fr1 (EffOK.fr1 (an (xs:=[.tmp 24,.tmp 26]) (ts:=[Z (M b 0),gI e.Desc]) (fg b r2 i3) _ J Vz (Ol b i3 r2 _ q_r3) ⟨(D J),(D J),aM⟩ (fun _=>J)))) J fun i4=>?_;refine(show RG _ _ _ _ [_,_] ((27,tT [])::_)from ?_);refine aX<|dW V hN J ?_;exact bj (aV (ih (i1+1) r3 (i4.h 0).1 (i4.h 0).2 ⟨dQ V,h⟩) (bo J))

def aan(b:Nat)(ix:OI) w1 p{R}(h:lI w1 p=some R):bk aY 41 [Z (M b 0),tD mh p] (fg b w1 ix) (fun _:OI=>tT []) (fun j=>fg b R j):=by
 refine bk.of Tryz.func41 J J J fun w0 S0=>?_;refine(show CG _ _ _ [Q (rH cV [(0,au (ix.h 0).1 (ix.h 0).2 w1.bytes.length)]) 60 b w1,tip (rI .u8) 5 (ix.h 0).1 (ix.h 0).2 w1.bytes] _ from ?_);refine a8<|eZ J<|br<|a8<|Ff (N0 (fun y:(aU->aa->Option (Unit×aU))=>eT aY DN (fg b) s9 y)) (V9 .i64) J fun b1=>aS J ?_
 refine uD ((show cr _ _ _ _ (eT aY DN (fg b) s9 O4)from qI aax (D J) (fun c x R h i=>by
   obtain⟨r,Y,rfl⟩:=FA.1 h
   exact Wh _ _ _ _ Y))) J ?_
 refine kb (γ:=(fun y:(aU->aa->Option (Unit×aU))=>eT aY DN (fg b) s9 y)) (y:=O4) Fy (jb lr) (D J) (t7 hI) (D J) fun os=>aS J ?_
 refine uD ((show cr _ _ _ _ (eT aY DN (fg b) s9 O4)from qI aax (D J) (fun c x R h i=>by
   obtain⟨r,Y,rfl⟩:=FA.1 h
   exact Wh _ _ _ _ Y))) J ?_
 refine kb (γ:=(fun y:(aU->aa->Option (Unit×aU))=>eT aY DN (fg b) s9 y)) (y:=O4) Fy (jb lr) (D J) (t7 hI) (D J) fun os1=>aS J ?_
 refine uD ((show cr _ _ _ _ (eT aY DN (fg b) s9 WM)from qI acs (D J) (fun c x R h i=>by
   obtain⟨r,Y,rfl⟩:=FA.1 h
   exact aag _ _ _ _ Y))) J ?_
 refine kb (γ:=(fun y:(aU->aa->Option (Unit×aU))=>eT aY DN (fg b) s9 y)) (y:=WM) Fy (jb lr) (D J) (t7 hI) (D J) fun os2=>aS J ?_
 refine uD ((show cr _ _ _ _ (eT aY DN (fg b) s9 WO)from qI acr (D J) (fun c x R h i=>by
   obtain⟨r,Y,rfl⟩:=FA.1 h
   exact aaf _ _ _ _ Y))) J ?_
 refine kb (γ:=(fun y:(aU->aa->Option (Unit×aU))=>eT aY DN (fg b) s9 y)) (y:=WO) Fy (jb lr) (D J) (t7 hI) (D J) fun os3=>aS J ?_
 refine uD ((show cr _ _ _ _ (eT aY DN (fg b) s9 Hz)from qI YG (D J) (fun c x R h i=>by
   obtain⟨r,Y,rfl⟩:=FA.1 h
   exact SC _ _ _ _ Y))) J ?_
 refine kb (γ:=(fun y:(aU->aa->Option (Unit×aU))=>eT aY DN (fg b) s9 y)) (y:=Hz) Fy (jb lr) (D J) (t7 hI) (D J) fun os4=>aS J ?_
 refine uD ((show cr _ _ _ _ (eT aY DN (fg b) s9 Hz)from qI YG (D J) (fun c x R h i=>by
   obtain⟨r,Y,rfl⟩:=FA.1 h
   exact SC _ _ _ _ Y))) J ?_
 refine kb (γ:=(fun y:(aU->aa->Option (Unit×aU))=>eT aY DN (fg b) s9 y)) (y:=Hz) Fy (jb lr) (D J) (t7 hI) (D J) fun os5=>aS J ?_
 refine uD ((show cr _ _ _ _ (eT aY DN (fg b) s9 Hz)from qI YG (D J) (fun c x R h i=>by
   obtain⟨r,Y,rfl⟩:=FA.1 h
   exact SC _ _ _ _ Y))) J ?_
 refine kb (γ:=(fun y:(aU->aa->Option (Unit×aU))=>eT aY DN (fg b) s9 y)) (y:=Hz) Fy (jb lr) (D J) (t7 hI) (D J) fun os6=>aS J ?_
 refine uD ((show cr _ _ _ _ (eT aY DN (fg b) s9 WP)from qI acq (D J) (fun c x R h i=>by
   obtain⟨r,Y,rfl⟩:=FA.1 h
   exact aae _ _ _ _ Y))) J ?_
 refine kb (γ:=(fun y:(aU->aa->Option (Unit×aU))=>eT aY DN (fg b) s9 y)) (y:=WP) Fy (jb lr) (D J) (t7 hI) (D J) fun os7=>aS J ?_
 refine uD ((show cr _ _ _ _ (eT aY DN (fg b) s9 WN)from qI acp (D J) (fun c x R h i=>by
   obtain⟨r,Y,rfl⟩:=FA.1 h
   exact aad _ _ _ _ Y))) J ?_
 refine kb (γ:=(fun y:(aU->aa->Option (Unit×aU))=>eT aY DN (fg b) s9 y)) (y:=WN) Fy (jb lr) (D J) (t7 hI) (D J) fun os8=>aS J<|aZ J<|aB J<|bG wm pb HN J<|cw wV J<|s (bc (r:=bP) (ys:=[(p.Frags.length:Int)]) (xs:=[.tmp 34]) fx b9 J J J J J ⟨(D J),aM⟩)<|bM h fun r q_r h=>aL (EffOK.fr2 (EffOK.fr2 (an (xs:=[.tmp 31,.tmp 35]) (ts:=[Z (M b 0),pi ([(p.Frags.length:Int)])]) (fg b w1 ix) _ J w5 (q6 b ix w1 _ q_r) ⟨(D J),(D J),aM⟩ (fun _=>J)))) J fun i=>?_;refine(show RG _ _ _ _ [_,_,_] ((36,tT [])::_)from ?_);refine br<|a8<|bG wm pb HN J<|cw wV J<|s (bQ hI)<|br<|aA<|bt (k:=38) J fun hN=>bN<|gE<|gE<|mP ?_;refine aV (ni (tV:=fun ls i1 ob l c=>(p.Frags.drop i1=ls)/\gq ls ob=some R) (Of:=fun _ i1 ob l c=>[AY (N0 (fun y:(aU->aa->Option (Unit×aU))=>eT aY DN (fg b) s9 y)) (V9 .i64) b1 none os8 zk4,Q (rH cV [(0,au l c ob.bytes.length)]) 60 b ob,tip (rI .u8) 5 l c ob.bytes]) (Gf:=fun _ i1 ob l c=>[(0,Z (M b 0)),(4,Z (uQ b1)),(38,d8 (cG) p.Frags),(39,nz p.Frags),(40,bC (i1:Int))]) (fun i1 ob l c h=>?_) (fun e tl ih i1 ob l c h=>?_) p.Frags 0 r (i.h 0).1 (i.h 0).2 ⟨J,h⟩) (bo J)
 ·obtain⟨V,h⟩:=h
  exact fm V J<|ba<|ah<|ah<|so h▸eN J (qZ [(l,c)]) J J
 ·obtain⟨V,h⟩:=h
  refine fj V J<|aT<|aA<|a8<|fQ wV qq J (eF V)<|bw qq pF J fun b2=>bv qq ax J<|bf 6 J<|br<|aB J ?_;refine bG EY vr b9 J<|bG EX vq b9 J<|s (bc (r:=bP) (ys:=[e.At,e.Way]) (xs:=[.tmp 46,.tmp 48]) fx b9 J J J J J ⟨(D J),(D J),aM⟩)<|bM h fun r1 q_r1 h=>aL (EffOK.fr2 (EffOK.fr2 (an (xs:=[.tmp 44,.tmp 49]) (ts:=[Z (M b 0),pi ([e.At,e.Way])]) (fg b ob (qZ [(l,c)])) _ J w5 (q6 b (qZ [(l,c)]) ob _ q_r1) ⟨(D J),(D J),aM⟩ (fun _=>J)))) J fun i2=>?_;refine(show RG _ _ _ _ [_,_,_] ((50,tT [])::_)from ?_);refine br<|aB J<|bG B6 sV c0 J<|bM h fun r2 q_r2 h=>aL (EffOK.fr1 (EffOK.fr1 (an (xs:=[.tmp 51,.tmp 53]) (ts:=[Z (M b 0),pi e.Cols]) (fg b r1 i2) _ J YF (SB b i2 r1 _ q_r2) ⟨(D J),(D J),aM⟩ (fun _=>J)))) J fun i3=>?_;refine(show RG _ _ _ _ [_,_,_] ((54,tT [])::_)from ?_);refine br<|aB J<|bG zT sW FC J<|cw tR J<|s (bc (r:=bP) (ys:=[(e.Nodes.length:Int)]) (xs:=[.tmp 58]) fx b9 J J J J J ⟨(D J),aM⟩)<|bM h fun r3 q_r3 h=>aL (EffOK.fr1 (EffOK.fr1 (an (xs:=[.tmp 55,.tmp 59]) (ts:=[Z (M b 0),pi ([(e.Nodes.length:Int)])]) (fg b r2 i3) _ J w5 (q6 b i3 r2 _ q_r3) ⟨(D J),(D J),aM⟩ (fun _=>J)))) J fun i4=>?_;refine(show RG _ _ _ _ [_,_,_] ((60,tT [])::_)from ?_);refine br<|a8<|bG zT sW FC J<|cw tR J<|s (bQ hI)<|br<|aA<|bt (k:=62) J fun hN1=>bN<|gE<|gE<|mP ?_;refine aV (ni (tV:=fun ls1 i5 ob1 l1 c1=>(e.Nodes.drop i5=ls1)/\eC (gq tl) ls1 ob1=some R) (Of:=fun _ i5 ob1 l1 c1=>[AY (N0 (fun y:(aU->aa->Option (Unit×aU))=>eT aY DN (fg b) s9 y)) (V9 .i64) b1 none os8 zk4,Q (rH cV [(0,au l1 c1 ob1.bytes.length)]) 60 b ob1,tip (rI .u8) 5 l1 c1 ob1.bytes]) (Gf:=fun _ i5 ob1 l1 c1=>[(0,Z (M b 0)),(4,Z (uQ b1)),(38,d8 (cG) p.Frags),(39,nz p.Frags),(40,bC (i1:Int)),(62,d8 (bl) e.Nodes),(63,nz e.Nodes),(64,bC (i5:Int))]) (fun i5 ob1 l1 c1 h=>?_) (fun e1 tl1 ih1 i5 ob1 l1 c1 h=>?_) e.Nodes 0 r3 (i4.h 0).1 (i4.h 0).2 ⟨J,h⟩) (bo J)
  ·obtain⟨hx1,h⟩:=h
   refine fm hx1 J<|dW V hN J ?_;exact bj (aV (ih (i1+1) ob1 l1 c1 ⟨dQ V,h⟩) (bo J))
  ·obtain⟨hx1,h⟩:=h
   refine fj hx1 J<|aT<|aA<|a8<|fQ tR gv J (eF hx1)<|bw gv kV J fun b3=>bv gv ax J<|bf 8 J<|br<|aB J ?_;refine bG lX eJ b9 J<|s (bc (r:=bP) (ys:=[e1.Op]) (xs:=[.tmp 70]) fx b9 J J J J J ⟨(D J),aM⟩)<|bM h fun r4 q_r4 h=>aL (EffOK.fr2 (EffOK.fr2 (an (xs:=[.tmp 68,.tmp 71]) (ts:=[Z (M b 0),pi ([e1.Op])]) (fg b ob1 (qZ [(l1,c1)])) _ J w5 (q6 b (qZ [(l1,c1)]) ob1 _ q_r4) ⟨(D J),(D J),aM⟩ (fun _=>J)))) J fun i6=>?_;refine(show RG _ _ _ _ [_,_,_] ((72,tT [])::_)from ?_);refine br<|aB J<|bG lX eJ b9 J<|s (J8 (γ:=(fun y:(aU->aa->Option (Unit×aU))=>eT aY DN (fg b) s9 y)) (z:=fun _ _=>none) Fy (jb lr) Zg (fun _=>Gn) (.tail _ (.tail _ (.head _))) (D J) (t7 (D J)))<|aS J<|ek J J<|ek J J<|hE J<|aZ J<|aB J<|cZ h J (fun h=>?_) (fun h=>?_)
   ·refine aw<|aS J<|fi gv J<|bM h fun r5 q_r5 h=>aL (EffOK.fr1 (EffOK.fr1 (Bi (args:=DN) (Ob:=fg b) (res:=s9) (f:=((tZ zk4 e1.Op).getD (fun _ _=>none))) (x:=r4) (y:=((e1):aa)) (R:=r5) (i:=i6) (xs:=[.tmp 82]) _ J (D J) q_r5 ⟨(D J),aM⟩ (fun _=>J)))) J fun i7=>?_;refine(show RG _ _ _ _ [_,_,_] ((83,tT [])::_)from ?_);refine aX<|dW hx1 hN1 J<|ah<|ah<|aH ?_;exact bj (aV (ih1 (i5+1) r5.2 (i7.h 0).1 (i7.h 0).2 ⟨dQ hx1,h⟩) (bo J))
   ·refine bE<|dW hx1 hN1 J<|ah<|ah<|aH ?_;exact bj (aV (ih1 (i5+1) r4 (i6.h 0).1 (i6.h 0).2 ⟨dQ hx1,h⟩) (bo J))

def Yd(l:Option Nat)(c:Nat) b l1{R}(h:wv b l1=some R):bk aY 200 [rL l c b,d8 (be) l1] [tip (rI .u8) 5 l c b] (fun _:OI=>tT [d8 ((rI .u8)) R.1,bC R.2]) (fun _=>[]):=by
 refine bk.of Tryz.func200 J J J fun w0 S0=>Ft 0 J<|a8<|cS false (rI .u8) 5<|s (cg w3)<|cM<|br<|bm<|aS J<|cw Tryz.underlying101 J<|s (bQ hI)<|br<|aA<|bt (k:=10) J fun hN=>bN<|sO ?_;refine aV (ni (tV:=fun ls i b1 l2 c1=>(l1.drop i=ls)/\lA ls b1=some R) (Of:=fun _ i b1 l2 c1=>[tip (rI .u8) 5 l2 c1 b1]) (Gf:=fun _ i b1 l2 c1=>[(0,tO (rI .u8) l2 c1 b1),(10,d8 (be) l1),(11,nz l1),(12,bC (i:Int))]) (fun i b1 l2 c1 h=>?_) (fun e tl ih i b1 l2 c1 h=>?_) l1 0 b l c ⟨J,h⟩) (bo J)
 ·obtain⟨V,h⟩:=h
  exact fm V J<|aG<|aB J<|hE J<|gQ<|eY 4 J<|ba<|so h▸qW (ts:=[d8 ((rI .u8)) b1,bC 0]) (rvs:=[.tmp 4,.tmp 5]) J J ⟨gJ J,gJ J,aM⟩ jK J J
 ·obtain⟨V,h⟩:=h
  refine fj V J<|aT<|aA<|a8<|fQ Tryz.underlying101 dd J (eF V)<|bw dd mu J fun b2=>bv dd ax J<|bf 7 J<|br<|a8<|fi dd J ?_;refine iw h Wu (Ov _) (ea J) fun r h=>aS J<|ek J J<|ek J J<|hE J<|aZ J<|bm<|aS J<|nW J<|cZ h J (fun h=>?_) (fun h=>?_)
  ·exact aB J<|cS false (rI .u8) 5<|s (cg w3)<|bq J<|av<|ei<|av<|ei<|dm<|bB 4 J<|eY 4 J<|ba<|ba<|so h▸qW (ts:=[d8 ((rI .u8)) ss,bC r.2]) (rvs:=[.tmp 4,.tmp 5]) J J ⟨gJ J,gJ J,aM⟩ jK J J
  ·refine jg<|aw<|aS J<|aS J<|bM h fun b3 q_b3 h=>wA tW J J J J iY J J (D J) (D J) q_b3 fun l3 c2=>hE J<|aX<|dW V hN J ?_;exact bj (aV (ih (i+1) b3 l3 c2 ⟨dQ V,h⟩) (bo J))

def Vg r{R}(h:yK r=some R):dJ aY 160 [d8 (be) r] (tT [d8 ((rI .u8)) R.1,bC R.2]):=by
 refine eX Tryz.func160 J<|a8<|jh ((rI .u8))<|cM<|br<|bm<|aS J<|cw Aj J<|s (ge (D J) hI)<|cZ h J (fun h=>?_) (fun h=>?_)
 ·exact a8<|jh ((rI .u8))<|gQ<|av<|so h▸fH J J J
 ·refine jg<|aB J<|cw Aj J<|s (fE lr uZ (D J))<|sb (r:=(rI .u8)) (ys:=[(IntKind.u8.wrap (r.length:Int))]) (xs:=[.tmp 9]) iY tW J J J J J ⟨(D J),aM⟩ J fun l c=>aS J<|vy<|qS 10 J<|bM h fun r1 q_r1 h=>Fi [tip (rI .u8) 5 l c ([(IntKind.u8.wrap (r.length:Int))])] _ J abf (Yd l c _ _ q_r1) ⟨(C4 (D J)),(D J),aM⟩ J fun i=>?_;refine(show RG _ _ _ _ [] ((12,tT [d8 ((rI .u8)) r1.1,bC r1.2])::_)from ?_);exact ek J J<|ek J J<|hE J<|bq J<|so h▸fH J J J

def Vo l{R}(h:ww l=some R):dJ aY 118 [d8 (me) l] (tT [d8 ((rI .u8)) R.1,bC R.2.1,bC R.2.2]):=by
 refine eX Tryz.func118 J<|a8<|jh ((rI .u8))<|cM<|cM<|br<|Fu<|bm<|aS J<|cw u4 J<|s (ge (D J) hI)<|cZ h J (fun h=>?_) (fun h=>?_)
 ·exact a8<|jh ((rI .u8))<|cM<|gQ<|av<|qo<|so h▸wE J J J J
 ·refine jg<|aB J<|cw u4 J<|s (fE lr F8 (D J))<|u6 h Ww (KH _ _) ⟨UF,(D J),aM⟩ fun r h l1 c=>aZ J<|a8<|cM<|cM<|br<|aT<|Fv<|aG<|bm ?_;refine aS J<|cw u4 J<|s (bQ hI)<|br ?_;refine vE (tV:=fun b l2 c1 at1 e=>pB b at1 e=some R) (Of:=fun b l2 c1 at1 e=>[dk (rI .u8) 5 l2 c1 b]) (Gf:=fun b l2 c1 at1 e=>[(5,rL l2 c1 b),(6,bC at1),(7,bC e)]) (fun b l2 c1 at1 e h=>?_) (fun hb=>?_)
  ·skip
   refine aG<|bm<|aS J<|nW J<|cZ h J (fun h=>?_) (fun h=>?_)
   ·exact aB J<|aS J<|jh ((rI .u8))<|hE J<|bq J<|av<|qo<|ba<|so h▸wE J J J J
   ·exact jg<|aB J<|hE J<|cM<|gQ<|qo<|dm<|bB 5 J<|bB 41 J<|bB 2 J<|eY 2 J<|ba<|so h▸wE J J J J
  ·skip
   refine bt (k:=18) J fun hN=>bN ?_;refine aV (K7 (tV:=fun ls i b1 l3 c2 at2 e1=>(l.drop i=ls)/\nw ls i b1 at2 e1=some R) (Of:=fun _ i b1 l3 c2 at2 e1=>[dk (rI .u8) 5 l3 c2 b1]) (Gf:=fun _ i b1 l3 c2 at2 e1=>[(5,rL l3 c2 b1),(6,bC at2),(7,bC e1),(18,d8 (me) l),(19,nz l),(20,bC (i:Int))]) (fun i b1 l3 c2 at2 e1 h=>?_) (fun e2 tl ih i b1 l3 c2 at2 e1 h=>?_) l 0 r l1 c (0:Int) (0:Int) ⟨J,h⟩) (bo J)
   ·obtain⟨V,h⟩:=h
    refine fm V J ?_;exact bZ (hb b1 l3 c2 at2 e1 h) (bo J)
   ·obtain⟨V,h⟩:=h
    refine fj V J<|aT<|aA<|aB J<|fQ u4 Cy J (eF V)<|hE J<|aZ J<|a8<|jh ((rI .u8)) ?_;refine br<|bm<|aS J<|iw h abE (Vg _) (ea J) fun r1 h=>aS J<|ek J J<|ek J J<|hE J<|aZ J<|aB J<|nW J<|cZ h J (fun h=>?_) (fun h=>?_)
    ·refine aB J<|aZ J<|dB<|aq<|bO J<|aq<|aq<|bV ?_;exact bZ (hb b1 l3 c2 (i:Int) r1.2 h) (bo J)
    ·refine jg<|aw<|aS J<|aS J<|bM h fun b2 q_b2 h=>dl tW J J J J iY J J (D J) (D J) q_b2 fun l4 c3=>hE J<|aX<|dW V hN J ?_;exact bj (aV (ih (i+1) b2 l4 c3 at2 r1.2 ⟨dQ V,h⟩) (bo J))

end Go.Proofs.YtdohlidddcgfjaaGreat

