/- bS of this claim: P9. -/
import Derived.Test.YtdohlidddcgfjaaGreatFfT
import Derived.Test.YtdohlidddcgfjaaGreatFfP8
set_option linter.all false
namespace Go.Proofs.YtdohlidddcgfjaaGreat
open Go
set_option maxRecDepth 100000

def TB b p bytes{R}(h:rA b p bytes=some R):jD aY 158 [eg ((rI .u8)) b,tD od p,bB bytes] false (rI .u8) 5 R:=by
 refine jD.of Tryz.func158 J J J fun w0 S0=>bc<|cU false (rI .u8) 5<|s (cg xj)<|br<|aB J<|cr oh J<|aR J<|s (fY (D J) (D J))<|bL h fun mk q_mk h=>aL (Cw (r:=(rI .u8)) (x:=(0:Int)) qL J J J oh (fun _=>J) hI (D J) q_mk) J fun i=>a8 J<|aB J<|aR J<|bL h fun out q_out h=>cY qL J J J J oh J J (D J) (D J) q_out fun l c=>?_;refine a8 J<|bm<|aR J<|s (bR hI)<|br<|aA<|bN<|gN<|ta ?_;refine aV (DV (tV:=fun n out1 l1 c1 x=>kz p bytes n out1 x=some R) (Of:=fun out1 l1 c1 x=>[dr (rI .u8) 5 l1 c1 out1]) (Gf:=fun out1 l1 c1 x=>[(1,tD od p),(2,bB bytes),(7,sa l1 c1 out1),(17,bB bytes),(18,bB x)]) (fun out1 l1 c1 x h=>nn h) (fun n ih out1 l1 c1 x h=>?_) fq out l c (0:Int) h) (bp J);refine eE<|bc<|ol J<|br<|aU<|jE h J (fun h=>?_) (fun h=>?_)
 ·refine jf<|aU<|aA<|aB J<|a8 J<|ax<|aR J<|aR J<|s (fH D7 zG (D J))<|aR J<|aR J<|s (iF (D J) (D J))<|s (EW hI (D J))<|s (iF (D J) hI)<|bL h fun u q_u h=>s (Cg (D J) (D J) (E6 q_u))<|s (fH zG uZ (D J))<|s (ba (r:=(rI .u8)) (ys:=[(IntKind.u8.wrap (((IntKind.u64.wrap p)).fdiv (2^(min (Int.toNat (IntKind.i64.wrap ((IntKind.i64.wrap ((8:Int)*(IntKind.i64.wrap (bytes-x))))-(8:Int)))) IntKind.u64.bits))))]) (xs:=[.tmp 30]) oh qL J J J J J ⟨(D J),aM⟩)<|bL h fun out2 q_out2 h=>?_;refine cY qL J J J J oh J J (D J) (D J) q_out2 fun l2 c2=>ia J<|aX<|aF<|aG<|ax<|s (fY (D J) hI)<|aR J<|aX ?_;exact bj (aV (ih out2 l2 c2 (IntKind.i64.wrap (x+(1:Int))) h) (bp J))
 ·exact dG<|aq<|aq<|bW<|aG<|aB J<|bq J<|so h▸ni J J
def Lp b p{R}(h:m2 b p=some R):jD aY 117 [eg ((rI .u8)) b,tD od p] false (rI .u8) 5 R:=by
 exact jD.of Tryz.func117 J J J fun w0 S0=>bc<|cU false (rI .u8) 5<|s (cg xj)<|br<|aB J<|aR J<|tE h act (TB _ _ _) (ez J) fun r h l c=>bq J<|so h▸ni J J
def Wc b p{R}(h:m2 b p=some R):dR aY 117 [eg ((rI .u8)) b,tD od p] (eg ((rI .u8)) R):=(Lp _ _ h).spec

def aa3(b:Nat)(ix:OI) w1 n{R}(h:im w1 n=some R):bk aY 89 [Z (M b 0),tD bl n] (fm b w1 ix) (fun _:OI=>tT []) (fun j=>fm b R j):=by
 refine bk.of Tryz.func89 J J J fun w0 S0=>?_;refine(show CG _ _ _ [Q (rH cX [(0,av (ix.h 0).1 (ix.h 0).2 w1.bytes.length)]) 60 b w1,tip (rI .u8) 5 (ix.h 0).1 (ix.h 0).2 w1.bytes] _ from ?_);refine bc<|fx J<|br<|aB J<|bG sZ m4 Ih J<|cr y8 J<|s (ba (r:=bP) (ys:=[(n.Order.length:Int)]) (xs:=[.tmp 9]) fD b9 J J J J J ⟨(D J),aM⟩)<|bL h fun r q_r h=>aL (EffOK.fr1 (EffOK.fr1 (an (xs:=[.tmp 6,.tmp 10]) (ts:=[Z (M b 0),pF ([(n.Order.length:Int)])]) (fm b w1 ix) _ J xl (rk b ix w1 _ q_r) ⟨(D J),(D J),aM⟩ (fun _=>J)))) J fun i=>?_;refine(show RG _ _ _ _ [_,_] ((11,tT [])::_)from ?_);refine br<|bm<|bG sZ m4 Ih J<|cr y8 J<|s (bR hI)<|br<|aA<|bt (k:=13) J fun hN=>bN ?_;refine aV (nu (tV:=fun ls i1 ob l c=>(n.Order.drop i1=ls)/\g9 n ls ob=some R) (Of:=fun _ i1 ob l c=>[Q (rH cX [(0,av l c ob.bytes.length)]) 60 b ob,tip (rI .u8) 5 l c ob.bytes]) (Gf:=fun _ i1 ob l c=>[(0,Z (M b 0)),(3,dk bl n),(13,eg (iE) n.Order),(14,nL n.Order),(15,bB (i1:Int))]) (fun i1 ob l c h=>?_) (fun e tl ih i1 ob l c h=>?_) n.Order 0 r (i.h 0).1 (i.h 0).2 ⟨J,h⟩) (bp J)
 ·obtain⟨V,h⟩:=h
  refine fv V J<|aG<|bL h fun r1 q_r1 h=>?_
  refine iX 10 [tc (Z (M b 0)),tc (Z (M b 0)),tc (Z (M b 0)),tc (Z (M b 0)),tc (tO (rI .u8) l c ob.bytes),tc (dk bP n.Limit),tc (bB n.Limit),tc (bB (IntKind.i64.wrap (n.Limit+(1:Int)))),tc (tD od (IntKind.u32.wrap (IntKind.i64.wrap (n.Limit+(1:Int))))),([9],fun ae=>tO (rI .u8) ((ae.getD 0 jQ).h 0).1 ((ae.getD 0 jQ).h 0).2 r1)] [false,false,false,false,false,false,false,false,false,true] [fun _=>[Q (rH cX [(0,av l c ob.bytes.length)]) 60 b ob,tip (rI .u8) 5 l c ob.bytes],fun sg=>[tip (rI .u8) 5 ((sg 9).h 0).1 ((sg 9).h 0).2 r1,Q (rH cX [(0,av l c ob.bytes.length)]) 60 b ob,tip (rI .u8) 5 l c ob.bytes]] J mixed J J J J J
   ⟨⟨[⟨0,fun _=>Z (M b 0),none⟩],_,0,1,J,⟨(fun _=>J),aM⟩,J,J,J,J,J,fun _ sg _ _=>ac J (mn J)⟩,
   ⟨⟨[⟨0,fun _=>Z (M b 0),none⟩],_,0,0,J,⟨(fun _=>J),aM⟩,J,J,J,J,J,fun _ sg _ _=>ac J (mn J)⟩,
   ⟨⟨[⟨30,fun _=>Z (M b 0),some 1⟩],_,0,0,J,⟨(fun _=>J),aM⟩,J,J,J,J,J,fun _ sg _ _=>ac J (aC (D J))⟩,
   ⟨⟨[⟨31,fun _=>Z (M b 0),some 2⟩],_,0,0,J,⟨(fun _=>J),aM⟩,J,J,J,J,J,fun _ sg _ _=>ac J (oZ 0 oS J J J)⟩,
   ⟨⟨[⟨32,fun _=>Z (M b 0),some 3⟩],_,0,0,J,⟨(fun _=>J),aM⟩,J,J,J,J,J,nO (fun sg=>ac J (nm qa J (.head _) (.tail _ (.head _)) (D J)))⟩,
   ⟨⟨[⟨3,fun _=>dk bl n,none⟩],_,0,0,J,⟨(fun _=>J),aM⟩,J,J,J,J,J,fun _ sg _ _=>ac J (xm wz qA J J)⟩,
   ⟨⟨[⟨34,fun _=>dk bP n.Limit,some 5⟩],_,0,0,J,⟨(fun _=>J),aM⟩,J,J,J,J,J,fun _ sg _ _=>ac J (Eb b9 J J)⟩,
   ⟨⟨[⟨35,fun _=>tD bP n.Limit,some 6⟩],_,0,0,J,⟨(fun _=>J),aM⟩,J,J,J,J,J,fun _ sg _ _=>ac J (fY (D J) hI)⟩,
   ⟨⟨[⟨36,fun _=>tD bP (IntKind.i64.wrap (n.Limit+(1:Int))),some 7⟩],_,0,0,J,⟨(fun _=>J),aM⟩,J,J,J,J,J,fun _ sg _ _=>ac J (fH lz D7 (D J))⟩,
   ⟨⟨[⟨33,fun _=>tO (rI .u8) l c ob.bytes,some 4⟩,⟨37,fun _=>tD od (IntKind.u32.wrap (IntKind.i64.wrap (n.Limit+(1:Int)))),some 8⟩],_,J,⟨(fun _=>J),(fun _=>J),aM⟩,J,J,J,fun sg=>bY J (vJ (xs:=[.tmp 33,.tmp 37]) (ts:=[tD JI ob.bytes,tD od (IntKind.u32.wrap (IntKind.i64.wrap (n.Limit+(1:Int))))]) Xw (Lp _ _ q_r1) ⟨(rq (D J)),(D J),aM⟩)⟩,
   aM⟩⟩⟩⟩⟩⟩⟩⟩⟩⟩ (fun sg=>?_)
  refine(show RG _ _ _ _ [_,_,_] _ from ?_);refine s (aC (D J))<|aW 0 oS J<|fb (EffOK.fr1 (md (hs' :=[(0,av ((sg 9).h 0).1 ((sg 9).h 0).2 r1.length)]) (u:=av ((sg 9).h 0).1 ((sg 9).h 0).2 r1.length) qa J J m0 J ⟨.inl ⟨J,J,J⟩,aM⟩ (D J) (rq (D J)) (Dm (D J)))) fun i2=>?_;refine(show RG _ _ _ _ [_,_,_] _ from ?_);exact cI<|BQ<|aX<|ah<|ah<|so h▸eV J (sg 9) J J
 ·obtain⟨V,h⟩:=h
  refine ft V J<|aU<|aA<|bc<|fV y8 tH J (eK V)<|bv tH LX J fun b1=>bw tH aw J<|be 5 J<|br<|aB J ?_;refine bG IW Bt b9 J<|s (ba (r:=bP) (ys:=[e.Col]) (xs:=[.tmp 21]) fD b9 J J J J J ⟨(D J),aM⟩)<|bL h fun r2 q_r2 h=>aL (EffOK.fr1 (EffOK.fr1 (an (xs:=[.tmp 19,.tmp 22]) (ts:=[Z (M b 0),pF ([e.Col])]) (fm b ob (rf [(l,c)])) _ J xl (rk b (rf [(l,c)]) ob _ q_r2) ⟨(D J),(D J),aM⟩ (fun _=>J)))) J fun i3=>?_;refine(show RG _ _ _ _ [_,_] ((23,tT [])::_)from ?_);refine br<|ax<|aR J<|bG Vx Lh Aw J<|bL h fun r3 q_r3 h=>aL (EffOK.fr1 (EffOK.fr1 (an (xs:=[.tmp 24,.tmp 26]) (ts:=[Z (M b 0),gR e.Desc]) (fm b r2 i3) _ J Wn (OX b i3 r2 _ q_r3) ⟨(D J),(D J),aM⟩ (fun _=>J)))) J fun i4=>?_;refine(show RG _ _ _ _ [_,_] ((27,tT [])::_)from ?_);refine aX<|d6 V hN J ?_;exact bj (aV (ih (i1+1) r3 (i4.h 0).1 (i4.h 0).2 ⟨dZ V,h⟩) (bp J))

def abc(b:Nat)(ix:OI) w1 p{R}(h:lN w1 p=some R):bk aY 41 [Z (M b 0),tD mp p] (fm b w1 ix) (fun _:OI=>tT []) (fun j=>fm b R j):=by
 refine bk.of Tryz.func41 J J J fun w0 S0=>?_;refine(show CG _ _ _ [Q (rH cX [(0,av (ix.h 0).1 (ix.h 0).2 w1.bytes.length)]) 60 b w1,tip (rI .u8) 5 (ix.h 0).1 (ix.h 0).2 w1.bytes] _ from ?_);refine bc<|fx J<|br<|bc<|FB (OC (fun y:(aT->aa->Option (Unit×aT))=>eZ aY Ec (fm b) tz y)) (WV .i64) J fun b1=>aR J ?_
 refine uT ((show cu _ _ _ _ (eZ aY Ec (fm b) tz PE)from qW abl (D J) (fun c x R h i=>by
   obtain⟨r,Y,rfl⟩:=FV.1 h
   exact Xe _ _ _ _ Y))) J ?_
 refine ki (γ:=(fun y:(aT->aa->Option (Unit×aT))=>eZ aY Ec (fm b) tz y)) (y:=PE) FT (jh lz) (D J) (uq hI) (D J) fun os=>aR J ?_
 refine uT ((show cu _ _ _ _ (eZ aY Ec (fm b) tz PE)from qW abl (D J) (fun c x R h i=>by
   obtain⟨r,Y,rfl⟩:=FV.1 h
   exact Xe _ _ _ _ Y))) J ?_
 refine ki (γ:=(fun y:(aT->aa->Option (Unit×aT))=>eZ aY Ec (fm b) tz y)) (y:=PE) FT (jh lz) (D J) (uq hI) (D J) fun os1=>aR J ?_
 refine uT ((show cu _ _ _ _ (eZ aY Ec (fm b) tz XK)from qW adh (D J) (fun c x R h i=>by
   obtain⟨r,Y,rfl⟩:=FV.1 h
   exact aa6 _ _ _ _ Y))) J ?_
 refine ki (γ:=(fun y:(aT->aa->Option (Unit×aT))=>eZ aY Ec (fm b) tz y)) (y:=XK) FT (jh lz) (D J) (uq hI) (D J) fun os2=>aR J ?_
 refine uT ((show cu _ _ _ _ (eZ aY Ec (fm b) tz XM)from qW adg (D J) (fun c x R h i=>by
   obtain⟨r,Y,rfl⟩:=FV.1 h
   exact aa5 _ _ _ _ Y))) J ?_
 refine ki (γ:=(fun y:(aT->aa->Option (Unit×aT))=>eZ aY Ec (fm b) tz y)) (y:=XM) FT (jh lz) (D J) (uq hI) (D J) fun os3=>aR J ?_
 refine uT ((show cu _ _ _ _ (eZ aY Ec (fm b) tz HX)from qW ZB (D J) (fun c x R h i=>by
   obtain⟨r,Y,rfl⟩:=FV.1 h
   exact Tj _ _ _ _ Y))) J ?_
 refine ki (γ:=(fun y:(aT->aa->Option (Unit×aT))=>eZ aY Ec (fm b) tz y)) (y:=HX) FT (jh lz) (D J) (uq hI) (D J) fun os4=>aR J ?_
 refine uT ((show cu _ _ _ _ (eZ aY Ec (fm b) tz HX)from qW ZB (D J) (fun c x R h i=>by
   obtain⟨r,Y,rfl⟩:=FV.1 h
   exact Tj _ _ _ _ Y))) J ?_
 refine ki (γ:=(fun y:(aT->aa->Option (Unit×aT))=>eZ aY Ec (fm b) tz y)) (y:=HX) FT (jh lz) (D J) (uq hI) (D J) fun os5=>aR J ?_
 refine uT ((show cu _ _ _ _ (eZ aY Ec (fm b) tz HX)from qW ZB (D J) (fun c x R h i=>by
   obtain⟨r,Y,rfl⟩:=FV.1 h
   exact Tj _ _ _ _ Y))) J ?_
 refine ki (γ:=(fun y:(aT->aa->Option (Unit×aT))=>eZ aY Ec (fm b) tz y)) (y:=HX) FT (jh lz) (D J) (uq hI) (D J) fun os6=>aR J ?_
 refine uT ((show cu _ _ _ _ (eZ aY Ec (fm b) tz XN)from qW adf (D J) (fun c x R h i=>by
   obtain⟨r,Y,rfl⟩:=FV.1 h
   exact aa4 _ _ _ _ Y))) J ?_
 refine ki (γ:=(fun y:(aT->aa->Option (Unit×aT))=>eZ aY Ec (fm b) tz y)) (y:=XN) FT (jh lz) (D J) (uq hI) (D J) fun os7=>aR J ?_
 refine uT ((show cu _ _ _ _ (eZ aY Ec (fm b) tz XL)from qW ade (D J) (fun c x R h i=>by
   obtain⟨r,Y,rfl⟩:=FV.1 h
   exact aa3 _ _ _ _ Y))) J ?_
 refine ki (γ:=(fun y:(aT->aa->Option (Unit×aT))=>eZ aY Ec (fm b) tz y)) (y:=XL) FT (jh lz) (D J) (uq hI) (D J) fun os8=>aR J<|a8 J<|aB J<|bG wD pu Ik J<|cr xe J<|s (ba (r:=bP) (ys:=[(p.Frags.length:Int)]) (xs:=[.tmp 34]) fD b9 J J J J J ⟨(D J),aM⟩)<|bL h fun r q_r h=>aL (EffOK.fr2 (EffOK.fr2 (an (xs:=[.tmp 31,.tmp 35]) (ts:=[Z (M b 0),pF ([(p.Frags.length:Int)])]) (fm b w1 ix) _ J xl (rk b ix w1 _ q_r) ⟨(D J),(D J),aM⟩ (fun _=>J)))) J fun i=>?_;refine(show RG _ _ _ _ [_,_,_] ((36,tT [])::_)from ?_);refine br<|bc<|bG wD pu Ik J<|cr xe J<|s (bR hI)<|br<|aA<|bt (k:=38) J fun hN=>bN<|gN<|gN<|mX ?_;refine aV (nu (tV:=fun ls i1 ob l c=>(p.Frags.drop i1=ls)/\gw ls ob=some R) (Of:=fun _ i1 ob l c=>[Bi (OC (fun y:(aT->aa->Option (Unit×aT))=>eZ aY Ec (fm b) tz y)) (WV .i64) b1 none os8 zk4,Q (rH cX [(0,av l c ob.bytes.length)]) 60 b ob,tip (rI .u8) 5 l c ob.bytes]) (Gf:=fun _ i1 ob l c=>[(0,Z (M b 0)),(4,Z (vd b1)),(38,eg (cJ) p.Frags),(39,nL p.Frags),(40,bB (i1:Int))]) (fun i1 ob l c h=>?_) (fun e tl ih i1 ob l c h=>?_) p.Frags 0 r (i.h 0).1 (i.h 0).2 ⟨J,h⟩) (bp J)
 ·obtain⟨V,h⟩:=h
  exact fv V J<|aZ<|ah<|ah<|so h▸eV J (rf [(l,c)]) J J
 ·obtain⟨V,h⟩:=h
  refine ft V J<|aU<|aA<|bc<|fV xe qF J (eK V)<|bv qF pU J fun b2=>bw qF aw J<|be 6 J<|br<|aB J ?_;refine bG Fj vH b9 J<|bG Fi vG b9 J<|s (ba (r:=bP) (ys:=[e.At,e.Way]) (xs:=[.tmp 46,.tmp 48]) fD b9 J J J J J ⟨(D J),(D J),aM⟩)<|bL h fun r1 q_r1 h=>aL (EffOK.fr2 (EffOK.fr2 (an (xs:=[.tmp 44,.tmp 49]) (ts:=[Z (M b 0),pF ([e.At,e.Way])]) (fm b ob (rf [(l,c)])) _ J xl (rk b (rf [(l,c)]) ob _ q_r1) ⟨(D J),(D J),aM⟩ (fun _=>J)))) J fun i2=>?_;refine(show RG _ _ _ _ [_,_,_] ((50,tT [])::_)from ?_);refine br<|aB J<|bG Cr tm dc J<|bL h fun r2 q_r2 h=>aL (EffOK.fr1 (EffOK.fr1 (an (xs:=[.tmp 51,.tmp 53]) (ts:=[Z (M b 0),pF e.Cols]) (fm b r1 i2) _ J ZA (Ti b i2 r1 _ q_r2) ⟨(D J),(D J),aM⟩ (fun _=>J)))) J fun i3=>?_;refine(show RG _ _ _ _ [_,_,_] ((54,tT [])::_)from ?_);refine br<|aB J<|bG Af tn FY J<|cr uj J<|s (ba (r:=bP) (ys:=[(e.Nodes.length:Int)]) (xs:=[.tmp 58]) fD b9 J J J J J ⟨(D J),aM⟩)<|bL h fun r3 q_r3 h=>aL (EffOK.fr1 (EffOK.fr1 (an (xs:=[.tmp 55,.tmp 59]) (ts:=[Z (M b 0),pF ([(e.Nodes.length:Int)])]) (fm b r2 i3) _ J xl (rk b i3 r2 _ q_r3) ⟨(D J),(D J),aM⟩ (fun _=>J)))) J fun i4=>?_;refine(show RG _ _ _ _ [_,_,_] ((60,tT [])::_)from ?_);refine br<|bc<|bG Af tn FY J<|cr uj J<|s (bR hI)<|br<|aA<|bt (k:=62) J fun hN1=>bN<|gN<|gN<|mX ?_;refine aV (nu (tV:=fun ls1 i5 ob1 l1 c1=>(e.Nodes.drop i5=ls1)/\eH (gw tl) ls1 ob1=some R) (Of:=fun _ i5 ob1 l1 c1=>[Bi (OC (fun y:(aT->aa->Option (Unit×aT))=>eZ aY Ec (fm b) tz y)) (WV .i64) b1 none os8 zk4,Q (rH cX [(0,av l1 c1 ob1.bytes.length)]) 60 b ob1,tip (rI .u8) 5 l1 c1 ob1.bytes]) (Gf:=fun _ i5 ob1 l1 c1=>[(0,Z (M b 0)),(4,Z (vd b1)),(38,eg (cJ) p.Frags),(39,nL p.Frags),(40,bB (i1:Int)),(62,eg (bl) e.Nodes),(63,nL e.Nodes),(64,bB (i5:Int))]) (fun i5 ob1 l1 c1 h=>?_) (fun e1 tl1 ih1 i5 ob1 l1 c1 h=>?_) e.Nodes 0 r3 (i4.h 0).1 (i4.h 0).2 ⟨J,h⟩) (bp J)
  ·obtain⟨hx1,h⟩:=h
   refine fv hx1 J<|d6 V hN J ?_;exact bj (aV (ih (i1+1) ob1 l1 c1 ⟨dZ V,h⟩) (bp J))
  ·obtain⟨hx1,h⟩:=h
   refine ft hx1 J<|aU<|aA<|bc<|fV uj gB J (eK hx1)<|bv gB k9 J fun b3=>bw gB aw J<|be 8 J<|br<|aB J ?_;refine bG mb eQ b9 J<|s (ba (r:=bP) (ys:=[e1.Op]) (xs:=[.tmp 70]) fD b9 J J J J J ⟨(D J),aM⟩)<|bL h fun r4 q_r4 h=>aL (EffOK.fr2 (EffOK.fr2 (an (xs:=[.tmp 68,.tmp 71]) (ts:=[Z (M b 0),pF ([e1.Op])]) (fm b ob1 (rf [(l1,c1)])) _ J xl (rk b (rf [(l1,c1)]) ob1 _ q_r4) ⟨(D J),(D J),aM⟩ (fun _=>J)))) J fun i6=>?_;refine(show RG _ _ _ _ [_,_,_] ((72,tT [])::_)from ?_);refine br<|aB J<|bG mb eQ b9 J<|s (KH (γ:=(fun y:(aT->aa->Option (Unit×aT))=>eZ aY Ec (fm b) tz y)) (z:=fun _ _=>none) FT (jh lz) Z7 (fun _=>GJ) (.tail _ (.tail _ (.head _))) (D J) (uq (D J)))<|aR J<|ei J J<|ei J J<|ia J<|a8 J<|aB J<|c0 h J (fun h=>?_) (fun h=>?_)
   ·refine ax<|aR J<|fL gB J<|bL h fun r5 q_r5 h=>aL (EffOK.fr1 (EffOK.fr1 (BD (args:=Ec) (Ob:=fm b) (res:=tz) (f:=((uo zk4 e1.Op).getD (fun _ _=>none))) (x:=r4) (y:=((e1):aa)) (R:=r5) (i:=i6) (xs:=[.tmp 82]) _ J (D J) q_r5 ⟨(D J),aM⟩ (fun _=>J)))) J fun i7=>?_;refine(show RG _ _ _ _ [_,_,_] ((83,tT [])::_)from ?_);refine aX<|d6 hx1 hN1 J<|ah<|ah<|aH ?_;exact bj (aV (ih1 (i5+1) r5.2 (i7.h 0).1 (i7.h 0).2 ⟨dZ hx1,h⟩) (bp J))
   ·refine bE<|d6 hx1 hN1 J<|ah<|ah<|aH ?_;exact bj (aV (ih1 (i5+1) r4 (i6.h 0).1 (i6.h 0).2 ⟨dZ hx1,h⟩) (bp J))

def Y7(l:Option Nat)(c:Nat) b l1{R}(h:wL b l1=some R):bk aY 200 [sa l c b,eg (bg) l1] [tip (rI .u8) 5 l c b] (fun _:OI=>tT [eg ((rI .u8)) R.1,bB R.2]) (fun _=>[]):=by
 refine bk.of Tryz.func200 J J J fun w0 S0=>FO 0 J<|bc<|cU false (rI .u8) 5<|s (cg xj)<|cO<|br<|bm<|aR J<|cr Tryz.underlying101 J<|s (bR hI)<|br<|aA<|bt (k:=10) J fun hN=>bN<|ta ?_;refine aV (nu (tV:=fun ls i b1 l2 c1=>(l1.drop i=ls)/\lF ls b1=some R) (Of:=fun _ i b1 l2 c1=>[tip (rI .u8) 5 l2 c1 b1]) (Gf:=fun _ i b1 l2 c1=>[(0,tO (rI .u8) l2 c1 b1),(10,eg (bg) l1),(11,nL l1),(12,bB (i:Int))]) (fun i b1 l2 c1 h=>?_) (fun e tl ih i b1 l2 c1 h=>?_) l1 0 b l c ⟨J,h⟩) (bp J)
 ·obtain⟨V,h⟩:=h
  exact fv V J<|aG<|aB J<|ia J<|gZ<|fd 4 J<|aZ<|so h▸ra (ts:=[eg ((rI .u8)) b1,bB 0]) (rvs:=[.tmp 4,.tmp 5]) J J ⟨gT J,gT J,aM⟩ jQ J J
 ·obtain⟨V,h⟩:=h
  refine ft V J<|aU<|aA<|bc<|fV Tryz.underlying101 di J (eK V)<|bv di mB J fun b2=>bw di aw J<|be 7 J<|br<|bc<|fL di J ?_;refine iq h Xr (O4 _) (ez J) fun r h=>aR J<|ei J J<|ei J J<|ia J<|a8 J<|bm<|aR J<|nU J<|c0 h J (fun h=>?_) (fun h=>?_)
  ·exact aB J<|cU false (rI .u8) 5<|s (cg xj)<|bq J<|au<|eu<|au<|eu<|du<|bA 4 J<|fd 4 J<|aZ<|aZ<|so h▸ra (ts:=[eg ((rI .u8)) rm,bB r.2]) (rvs:=[.tmp 4,.tmp 5]) J J ⟨gT J,gT J,aM⟩ jQ J J
  ·refine jf<|ax<|aR J<|aR J<|bL h fun b3 q_b3 h=>wQ qL J J J J oh J J (D J) (D J) q_b3 fun l3 c2=>ia J<|aX<|d6 V hN J ?_;exact bj (aV (ih (i+1) b3 l3 c2 ⟨dZ V,h⟩) (bp J))

def V3 r{R}(h:yX r=some R):dR aY 160 [eg (bg) r] (tT [eg ((rI .u8)) R.1,bB R.2]):=by
 refine fc Tryz.func160 J<|bc<|jm ((rI .u8))<|cO<|br<|bm<|aR J<|cr AA J<|s (gm (D J) hI)<|c0 h J (fun h=>?_) (fun h=>?_)
 ·exact bc<|jm ((rI .u8))<|gZ<|au<|so h▸fK J J J
 ·refine jf<|aB J<|cr AA J<|s (fH lz uZ (D J))<|m6 (r:=(rI .u8)) (ys:=[(IntKind.u8.wrap (r.length:Int))]) (xs:=[.tmp 9]) oh qL J J J J J ⟨(D J),aM⟩ J fun l c=>aR J<|nJ<|j4 10 J<|bL h fun r1 q_r1 h=>FE [tip (rI .u8) 5 l c ([(IntKind.u8.wrap (r.length:Int))])] _ J ab2 (Y7 l c _ _ q_r1) ⟨(Dm (D J)),(D J),aM⟩ J fun i=>?_;refine(show RG _ _ _ _ [] ((12,tT [eg ((rI .u8)) r1.1,bB r1.2])::_)from ?_);exact ei J J<|ei J J<|ia J<|bq J<|so h▸fK J J J

def Wb l{R}(h:wM l=some R):dR aY 118 [eg (mj) l] (tT [eg ((rI .u8)) R.1,bB R.2.1,bB R.2.2]):=by
 refine fc Tryz.func118 J<|bc<|jm ((rI .u8))<|cO<|cO<|br<|FP<|bm<|aR J<|cr vm J<|s (gm (D J) hI)<|c0 h J (fun h=>?_) (fun h=>?_)
 ·exact bc<|jm ((rI .u8))<|cO<|gZ<|au<|qD<|so h▸wV J J J J
 ·refine jf<|aB J<|cr vm J<|s (fH lz Gx (D J))<|tE h Xt (Ln _ _) ⟨Vq,(D J),aM⟩ fun r h l1 c=>a8 J<|bc<|cO<|cO<|br<|aU<|FQ<|aG<|bm ?_;refine aR J<|cr vm J<|s (bR hI)<|br ?_;refine vU (tV:=fun b l2 c1 at1 e=>pT b at1 e=some R) (Of:=fun b l2 c1 at1 e=>[dr (rI .u8) 5 l2 c1 b]) (Gf:=fun b l2 c1 at1 e=>[(5,sa l2 c1 b),(6,bB at1),(7,bB e)]) (fun b l2 c1 at1 e h=>?_) (fun hg=>?_)
  ·skip
   refine aG<|bm<|aR J<|nU J<|c0 h J (fun h=>?_) (fun h=>?_)
   ·exact aB J<|aR J<|jm ((rI .u8))<|ia J<|bq J<|au<|qD<|aZ<|so h▸wV J J J J
   ·exact jf<|aB J<|ia J<|cO<|gZ<|qD<|du<|bA 5 J<|bA 41 J<|bA 2 J<|fd 2 J<|aZ<|so h▸wV J J J J
  ·skip
   refine bt (k:=18) J fun hN=>bN ?_;refine aV (LF (tV:=fun ls i b1 l3 c2 at2 e1=>(l.drop i=ls)/\nI ls i b1 at2 e1=some R) (Of:=fun _ i b1 l3 c2 at2 e1=>[dr (rI .u8) 5 l3 c2 b1]) (Gf:=fun _ i b1 l3 c2 at2 e1=>[(5,sa l3 c2 b1),(6,bB at2),(7,bB e1),(18,eg (mj) l),(19,nL l),(20,bB (i:Int))]) (fun i b1 l3 c2 at2 e1 h=>?_) (fun e2 tl ih i b1 l3 c2 at2 e1 h=>?_) l 0 r l1 c (0:Int) (0:Int) ⟨J,h⟩) (bp J)
   ·obtain⟨V,h⟩:=h
    refine fv V J ?_;exact bZ (hg b1 l3 c2 at2 e1 h) (bp J)
   ·obtain⟨V,h⟩:=h
    refine ft V J<|aU<|aA<|aB J<|fV vm CT J (eK V)<|ia J<|a8 J<|bc<|jm ((rI .u8)) ?_;refine br<|bm<|aR J<|iq h acs (V3 _) (ez J) fun r1 h=>aR J<|ei J J<|ei J J<|ia J<|a8 J<|aB J<|nU J<|c0 h J (fun h=>?_) (fun h=>?_)
    ·refine aB J<|a8 J<|dG<|aq<|bO J<|aq<|aq<|bW ?_;exact bZ (hg b1 l3 c2 (i:Int) r1.2 h) (bp J)
    ·refine jf<|ax<|aR J<|aR J<|bL h fun b2 q_b2 h=>cY qL J J J J oh J J (D J) (D J) q_b2 fun l4 c3=>ia J<|aX<|d6 V hN J ?_;exact bj (aV (ih (i+1) b2 l4 c3 at2 r1.2 ⟨dZ V,h⟩) (bp J))

end Go.Proofs.YtdohlidddcgfjaaGreat

