/- bO of this claim: P9. -/
import Derived.Test.YtdohlidddcgfjaaGreatFeT
import Derived.Test.YtdohlidddcgfjaaGreatFeP8
set_option linter.all false
namespace Go.Proofs.YtdohlidddcgfjaaGreat
open Go
set_option maxRecDepth 100000

def Qm b p bytes{R}(h:qp b p bytes=some R):iX a8 158 [eg ((rI .u8)) b,tD nh p,bw bytes] false (rI .u8) 5 R:=by
 refine iX.of Tryz.func158 J J J fun w0 S0=>be<|cP false (rI .u8) 5<|Q (b9 vC)<|bt<|ay J<|cM hM J<|aQ J<|Q (fq (D J) (D J))<|bK h fun mk q_mk h=>aK (AI (r:=(rI .u8)) (x:=(0:Int)) rZ J J J hM (fun _=>J) hI (D J) q_mk) J fun i=>aX J<|ay J<|aQ J<|bK h fun out q_out h=>c9 rZ J J J J hM J J (D J) (D J) q_out fun l c=>?_;refine aX J<|bp<|aQ J<|Q (ca hI)<|bt<|aC<|b7<|gc<|rE ?_;refine aZ (BX (bx:=fun n out1 l1 c1 x=>jN p bytes n out1 x=some R) (Of:=fun out1 l1 c1 x=>[de (rI .u8) 5 l1 c1 out1]) (Gf:=fun out1 l1 c1 x=>[(1,tD nh p),(2,bw bytes),(7,qP l1 c1 out1),(17,bw bytes),(18,bw x)]) (fun out1 l1 c1 x h=>nn h) (fun n ih out1 l1 c1 x h=>?_) eQ out l c (0:Int) h) (bq J);refine ea<|be<|nk J<|bt<|aS<|iY h J (fun h=>?_) (fun h=>?_)
 ·refine jv<|aS<|aC<|ay J<|aX J<|av<|aQ J<|aQ J<|Q (eW ED yQ (D J))<|aQ J<|aQ J<|Q (ic (D J) (D J))<|Q (CV hI (D J))<|Q (ic (D J) hI)<|bK h fun u q_u h=>Q (Ar (D J) (D J) (C3 q_u))<|Q (eW yQ tw (D J))<|Q (ba (r:=(rI .u8)) (ys:=[(IntKind.u8.wrap (((IntKind.u64.wrap p)).fdiv (2^(min (Int.toNat (IntKind.i64.wrap ((IntKind.i64.wrap ((8:Int)*(IntKind.i64.wrap (bytes-x))))-(8:Int)))) IntKind.u64.bits))))]) (xs:=[.tmp 30]) hM rZ J J J J J ⟨(D J),d⟩)<|bK h fun out2 q_out2 h=>?_;refine c9 rZ J J J J hM J J (D J) (D J) q_out2 fun l2 c2=>gB J<|aU<|aE<|aG<|av<|Q (fq (D J) hI)<|aQ J<|aU ?_;exact bm (aZ (ih out2 l2 c2 (IntKind.i64.wrap (x+(1:Int))) h) (bq J))
 ·exact dq<|aq<|aq<|bR<|aG<|ay J<|bk J<|so h▸mA J J
def IZ b p{R}(h:mj b p=some R):iX a8 117 [eg ((rI .u8)) b,tD nh p] false (rI .u8) 5 R:=by
 exact iX.of Tryz.func117 J J J fun w0 S0=>be<|cP false (rI .u8) 5<|Q (b9 vC)<|bt<|ay J<|aQ J<|sN h Yw (Qm _ _ _) (ez J) fun r h l c=>bk J<|so h▸mA J J
def SN b p{R}(h:mj b p=some R):dV a8 117 [eg ((rI .u8)) b,tD nh p] (eg ((rI .u8)) R):=(IZ _ _ h).spec

def WX(b:Nat)(ix:OI) w1 n{R}(h:gK w1 n=some R):bf a8 89 [K (M b 0),tD bl n] (eP b w1 ix) (fun _:OI=>tT []) (fun j=>eP b R j):=by
 refine bf.of Tryz.func89 J J J fun w0 S0=>?_;refine(show CG _ _ _ [Z (rH cQ [(0,au (ix.h 0).1 (ix.h 0).2 w1.bytes.length)]) 60 b w1,tip (rI .u8) 5 (ix.h 0).1 (ix.h 0).2 w1.bytes] _ from ?_);refine be<|fv J<|bt<|ay J<|bI td nI HE J<|cM yO J<|Q (ba (r:=bN) (ys:=[(n.Order.length:Int)]) (xs:=[.tmp 9]) fc bW J J J J J ⟨(D J),d⟩)<|bK h fun r q_r h=>aK (EffOK.fr1 (EffOK.fr1 (an (xs:=[.tmp 6,.tmp 10]) (ts:=[K (M b 0),oo ([(n.Order.length:Int)])]) (eP b w1 ix) _ J vE (qc b ix w1 _ q_r) ⟨(D J),(D J),d⟩ (fun _=>J)))) J fun i=>?_;refine(show RG _ _ _ _ [_,_] ((11,tT [])::_)from ?_);refine bt<|bp<|bI td nI HE J<|cM yO J<|Q (ca hI)<|bt<|aC<|bD (k:=13) J fun hN=>b7 ?_;refine aZ (mJ (bx:=fun ls i1 ob l c=>(n.Order.drop i1=ls)/\gn n ls ob=some R) (Of:=fun _ i1 ob l c=>[Z (rH cQ [(0,au l c ob.bytes.length)]) 60 b ob,tip (rI .u8) 5 l c ob.bytes]) (Gf:=fun _ i1 ob l c=>[(0,K (M b 0)),(3,c8 bl n),(13,eg (ia) n.Order),(14,oA n.Order),(15,bw (i1:Int))]) (fun i1 ob l c h=>?_) (fun e tl ih i1 ob l c h=>?_) n.Order 0 r (i.h 0).1 (i.h 0).2 ⟨J,h⟩) (bq J)
 ·obtain⟨X,h⟩:=h
  refine fY X J<|aG<|bK h fun r1 q_r1 h=>?_
  refine iv 10 [tc (K (M b 0)),tc (K (M b 0)),tc (K (M b 0)),tc (K (M b 0)),tc (tO (rI .u8) l c ob.bytes),tc (c8 bN n.Limit),tc (bw n.Limit),tc (bw (IntKind.i64.wrap (n.Limit+(1:Int)))),tc (tD nh (IntKind.u32.wrap (IntKind.i64.wrap (n.Limit+(1:Int))))),([9],fun h3=>tO (rI .u8) ((h3.getD 0 jj).h 0).1 ((h3.getD 0 jj).h 0).2 r1)] [false,false,false,false,false,false,false,false,false,true] [fun _=>[Z (rH cQ [(0,au l c ob.bytes.length)]) 60 b ob,tip (rI .u8) 5 l c ob.bytes],fun sg=>[tip (rI .u8) 5 ((sg 9).h 0).1 ((sg 9).h 0).2 r1,Z (rH cQ [(0,au l c ob.bytes.length)]) 60 b ob,tip (rI .u8) 5 l c ob.bytes]] J mixed J J J J J
   ⟨⟨[⟨0,fun _=>K (M b 0),none⟩],_,0,1,J,⟨(fun _=>J),d⟩,J,J,J,J,J,fun _ sg _ _=>ac J (lz J)⟩,
   ⟨⟨[⟨0,fun _=>K (M b 0),none⟩],_,0,0,J,⟨(fun _=>J),d⟩,J,J,J,J,J,fun _ sg _ _=>ac J (lz J)⟩,
   ⟨⟨[⟨30,fun _=>K (M b 0),some 1⟩],_,0,0,J,⟨(fun _=>J),d⟩,J,J,J,J,J,fun _ sg _ _=>ac J (aA (D J))⟩,
   ⟨⟨[⟨31,fun _=>K (M b 0),some 2⟩],_,0,0,J,⟨(fun _=>J),d⟩,J,J,J,J,J,fun _ sg _ _=>ac J (nR 0 nL J J J)⟩,
   ⟨⟨[⟨32,fun _=>K (M b 0),some 3⟩],_,0,0,J,⟨(fun _=>J),d⟩,J,J,J,J,J,mW (fun sg=>ac J (mE oS J (.head _) (.tail _ (.head _)) (D J)))⟩,
   ⟨⟨[⟨3,fun _=>c8 bl n,none⟩],_,0,0,J,⟨(fun _=>J),d⟩,J,J,J,J,J,fun _ sg _ _=>ac J (vF u0 po J J)⟩,
   ⟨⟨[⟨34,fun _=>c8 bN n.Limit,some 5⟩],_,0,0,J,⟨(fun _=>J),d⟩,J,J,J,J,J,fun _ sg _ _=>ac J (Cf bW J J)⟩,
   ⟨⟨[⟨35,fun _=>tD bN n.Limit,some 6⟩],_,0,0,J,⟨(fun _=>J),d⟩,J,J,J,J,J,fun _ sg _ _=>ac J (fq (D J) hI)⟩,
   ⟨⟨[⟨36,fun _=>tD bN (IntKind.i64.wrap (n.Limit+(1:Int))),some 7⟩],_,0,0,J,⟨(fun _=>J),d⟩,J,J,J,J,J,fun _ sg _ _=>ac J (eW kI ED (D J))⟩,
   ⟨⟨[⟨33,fun _=>tO (rI .u8) l c ob.bytes,some 4⟩,⟨37,fun _=>tD nh (IntKind.u32.wrap (IntKind.i64.wrap (n.Limit+(1:Int)))),some 8⟩],_,J,⟨(fun _=>J),(fun _=>J),d⟩,J,J,J,fun sg=>bT J (um (xs:=[.tmp 33,.tmp 37]) (ts:=[tD Hq ob.bytes,tD nh (IntKind.u32.wrap (IntKind.i64.wrap (n.Limit+(1:Int))))]) TR (IZ _ _ q_r1) ⟨(rb (D J)),(D J),d⟩)⟩,
   d⟩⟩⟩⟩⟩⟩⟩⟩⟩⟩ (fun sg=>?_)
  refine(show RG _ _ _ _ [_,_,_] _ from ?_);refine Q (aA (D J))<|aT 0 nL J<|eE (EffOK.fr1 (lp (hs' :=[(0,au ((sg 9).h 0).1 ((sg 9).h 0).2 r1.length)]) (u:=au ((sg 9).h 0).1 ((sg 9).h 0).2 r1.length) oS J J mi J ⟨.inl ⟨J,J,J⟩,d⟩ (D J) (rb (D J)) (BA (D J)))) fun i2=>?_;refine(show RG _ _ _ _ [_,_,_] _ from ?_);exact cB<|zV<|aU<|af<|af<|so h▸ep J (sg 9) J J
 ·obtain⟨X,h⟩:=h
  refine fX X J<|aS<|aC<|be<|gq yO r0 J (fa X)<|bz r0 Jy J fun b1=>bu r0 ax J<|bh 5 J<|bt<|ay J ?_;refine bI GB zw bW J<|Q (ba (r:=bN) (ys:=[e.Col]) (xs:=[.tmp 21]) fc bW J J J J J ⟨(D J),d⟩)<|bK h fun r2 q_r2 h=>aK (EffOK.fr1 (EffOK.fr1 (an (xs:=[.tmp 19,.tmp 22]) (ts:=[K (M b 0),oo ([e.Col])]) (eP b ob (p9 [(l,c)])) _ J vE (qc b (p9 [(l,c)]) ob _ q_r2) ⟨(D J),(D J),d⟩ (fun _=>J)))) J fun i3=>?_;refine(show RG _ _ _ _ [_,_] ((23,tT [])::_)from ?_);refine bt<|av<|aQ J<|bI R6 IR yM J<|bK h fun r3 q_r3 h=>aK (EffOK.fr1 (EffOK.fr1 (an (xs:=[.tmp 24,.tmp 26]) (ts:=[K (M b 0),gA e.Desc]) (eP b r2 i3) _ J SW (Mn b i3 r2 _ q_r3) ⟨(D J),(D J),d⟩ (fun _=>J)))) J fun i4=>?_;refine(show RG _ _ _ _ [_,_] ((27,tT [])::_)from ?_);refine aU<|eu X hN J ?_;exact bm (aZ (ih (i1+1) r3 (i4.h 0).1 (i4.h 0).2 ⟨ej X,h⟩) (bq J))

def Xg(b:Nat)(ix:OI) w1 p{R}(h:kY w1 p=some R):bf a8 41 [K (M b 0),tD m3 p] (eP b w1 ix) (fun _:OI=>tT []) (fun j=>eP b R j):=by
 refine bf.of Tryz.func41 J J J fun w0 S0=>?_;refine(show CG _ _ _ [Z (rH cQ [(0,au (ix.h 0).1 (ix.h 0).2 w1.bytes.length)]) 60 b w1,tip (rI .u8) 5 (ix.h 0).1 (ix.h 0).2 w1.bytes] _ from ?_);refine be<|fv J<|bt<|be<|DB (L6 (fun y:(aP->aa->Option (Unit×aP))=>eC a8 Cg (eP b) rX y)) (Tq .i64) J fun b1=>aQ J ?_
 refine tn ((show cm _ _ _ _ (eC a8 Cg (eP b) rX MR)from pO Xp (D J) (fun c x R h i=>by
   obtain⟨r,Y,rfl⟩:=D1.1 h
   exact Tx _ _ _ _ Y))) J ?_
 refine jE (γ:=(fun y:(aP->aa->Option (Unit×aP))=>eC a8 Cg (eP b) rX y)) (y:=MR) DZ (iE kI) (D J) (sK hI) (D J) fun os=>aQ J ?_
 refine tn ((show cm _ _ _ _ (eC a8 Cg (eP b) rX MR)from pO Xp (D J) (fun c x R h i=>by
   obtain⟨r,Y,rfl⟩:=D1.1 h
   exact Tx _ _ _ _ Y))) J ?_
 refine jE (γ:=(fun y:(aP->aa->Option (Unit×aP))=>eC a8 Cg (eP b) rX y)) (y:=MR) DZ (iE kI) (D J) (sK hI) (D J) fun os1=>aQ J ?_
 refine tn ((show cm _ _ _ _ (eC a8 Cg (eP b) rX Ua)from pO ZJ (D J) (fun c x R h i=>by
   obtain⟨r,Y,rfl⟩:=D1.1 h
   exact Xa _ _ _ _ Y))) J ?_
 refine jE (γ:=(fun y:(aP->aa->Option (Unit×aP))=>eC a8 Cg (eP b) rX y)) (y:=Ua) DZ (iE kI) (D J) (sK hI) (D J) fun os2=>aQ J ?_
 refine tn ((show cm _ _ _ _ (eC a8 Cg (eP b) rX Uc)from pO ZI (D J) (fun c x R h i=>by
   obtain⟨r,Y,rfl⟩:=D1.1 h
   exact WZ _ _ _ _ Y))) J ?_
 refine jE (γ:=(fun y:(aP->aa->Option (Unit×aP))=>eC a8 Cg (eP b) rX y)) (y:=Uc) DZ (iE kI) (D J) (sK hI) (D J) fun os3=>aQ J ?_
 refine tn ((show cm _ _ _ _ (eC a8 Cg (eP b) rX FT)from pO VP (D J) (fun c x R h i=>by
   obtain⟨r,Y,rfl⟩:=D1.1 h
   exact PZ _ _ _ _ Y))) J ?_
 refine jE (γ:=(fun y:(aP->aa->Option (Unit×aP))=>eC a8 Cg (eP b) rX y)) (y:=FT) DZ (iE kI) (D J) (sK hI) (D J) fun os4=>aQ J ?_
 refine tn ((show cm _ _ _ _ (eC a8 Cg (eP b) rX FT)from pO VP (D J) (fun c x R h i=>by
   obtain⟨r,Y,rfl⟩:=D1.1 h
   exact PZ _ _ _ _ Y))) J ?_
 refine jE (γ:=(fun y:(aP->aa->Option (Unit×aP))=>eC a8 Cg (eP b) rX y)) (y:=FT) DZ (iE kI) (D J) (sK hI) (D J) fun os5=>aQ J ?_
 refine tn ((show cm _ _ _ _ (eC a8 Cg (eP b) rX FT)from pO VP (D J) (fun c x R h i=>by
   obtain⟨r,Y,rfl⟩:=D1.1 h
   exact PZ _ _ _ _ Y))) J ?_
 refine jE (γ:=(fun y:(aP->aa->Option (Unit×aP))=>eC a8 Cg (eP b) rX y)) (y:=FT) DZ (iE kI) (D J) (sK hI) (D J) fun os6=>aQ J ?_
 refine tn ((show cm _ _ _ _ (eC a8 Cg (eP b) rX Ud)from pO ZH (D J) (fun c x R h i=>by
   obtain⟨r,Y,rfl⟩:=D1.1 h
   exact WY _ _ _ _ Y))) J ?_
 refine jE (γ:=(fun y:(aP->aa->Option (Unit×aP))=>eC a8 Cg (eP b) rX y)) (y:=Ud) DZ (iE kI) (D J) (sK hI) (D J) fun os7=>aQ J ?_
 refine tn ((show cm _ _ _ _ (eC a8 Cg (eP b) rX Ub)from pO ZG (D J) (fun c x R h i=>by
   obtain⟨r,Y,rfl⟩:=D1.1 h
   exact WX _ _ _ _ Y))) J ?_
 refine jE (γ:=(fun y:(aP->aa->Option (Unit×aP))=>eC a8 Cg (eP b) rX y)) (y:=Ub) DZ (iE kI) (D J) (sK hI) (D J) fun os8=>aQ J<|aX J<|ay J<|bI yB qt JO J<|cM yP J<|Q (ba (r:=bN) (ys:=[(p.Frags.length:Int)]) (xs:=[.tmp 34]) fc bW J J J J J ⟨(D J),d⟩)<|bK h fun r q_r h=>aK (EffOK.fr2 (EffOK.fr2 (an (xs:=[.tmp 31,.tmp 35]) (ts:=[K (M b 0),oo ([(p.Frags.length:Int)])]) (eP b w1 ix) _ J vE (qc b ix w1 _ q_r) ⟨(D J),(D J),d⟩ (fun _=>J)))) J fun i=>?_;refine(show RG _ _ _ _ [_,_,_] ((36,tT [])::_)from ?_);refine bt<|be<|bI yB qt JO J<|cM yP J<|Q (ca hI)<|bt<|aC<|bD (k:=38) J fun hN=>b7<|gc<|gc<|mf ?_;refine aZ (mJ (bx:=fun ls i1 ob l c=>(p.Frags.drop i1=ls)/\fS ls ob=some R) (Of:=fun _ i1 ob l c=>[zj (L6 (fun y:(aP->aa->Option (Unit×aP))=>eC a8 Cg (eP b) rX y)) (Tq .i64) b1 none os8 Zi,Z (rH cQ [(0,au l c ob.bytes.length)]) 60 b ob,tip (rI .u8) 5 l c ob.bytes]) (Gf:=fun _ i1 ob l c=>[(0,K (M b 0)),(4,K (tM b1)),(38,eg (cG) p.Frags),(39,oA p.Frags),(40,bw (i1:Int))]) (fun i1 ob l c h=>?_) (fun e tl ih i1 ob l c h=>?_) p.Frags 0 r (i.h 0).1 (i.h 0).2 ⟨J,h⟩) (bq J)
 ·obtain⟨X,h⟩:=h
  exact fY X J<|aY<|af<|af<|so h▸ep J (p9 [(l,c)]) J J
 ·obtain⟨X,h⟩:=h
  refine fX X J<|aS<|aC<|be<|gq yP qh J (fa X)<|bz qh pz J fun b2=>bu qh ax J<|bh 6 J<|bt<|ay J ?_;refine bI Df uj bW J<|bI De ui bW J<|Q (ba (r:=bN) (ys:=[e.At,e.Way]) (xs:=[.tmp 46,.tmp 48]) fc bW J J J J J ⟨(D J),(D J),d⟩)<|bK h fun r1 q_r1 h=>aK (EffOK.fr2 (EffOK.fr2 (an (xs:=[.tmp 44,.tmp 49]) (ts:=[K (M b 0),oo ([e.At,e.Way])]) (eP b ob (p9 [(l,c)])) _ J vE (qc b (p9 [(l,c)]) ob _ q_r1) ⟨(D J),(D J),d⟩ (fun _=>J)))) J fun i2=>?_;refine(show RG _ _ _ _ [_,_,_] ((50,tT [])::_)from ?_);refine bt<|ay J<|bI Dd uh c0 J<|bK h fun r2 q_r2 h=>aK (EffOK.fr1 (EffOK.fr1 (an (xs:=[.tmp 51,.tmp 53]) (ts:=[K (M b 0),oo e.Cols]) (eP b r1 i2) _ J VO (PY b i2 r1 _ q_r2) ⟨(D J),(D J),d⟩ (fun _=>J)))) J fun i3=>?_;refine(show RG _ _ _ _ [_,_,_] ((54,tT [])::_)from ?_);refine bt<|ay J<|bI AC uk F2 J<|cM vy J<|Q (ba (r:=bN) (ys:=[(e.Nodes.length:Int)]) (xs:=[.tmp 58]) fc bW J J J J J ⟨(D J),d⟩)<|bK h fun r3 q_r3 h=>aK (EffOK.fr1 (EffOK.fr1 (an (xs:=[.tmp 55,.tmp 59]) (ts:=[K (M b 0),oo ([(e.Nodes.length:Int)])]) (eP b r2 i3) _ J vE (qc b i3 r2 _ q_r3) ⟨(D J),(D J),d⟩ (fun _=>J)))) J fun i4=>?_;refine(show RG _ _ _ _ [_,_,_] ((60,tT [])::_)from ?_);refine bt<|be<|bI AC uk F2 J<|cM vy J<|Q (ca hI)<|bt<|aC<|bD (k:=62) J fun hN1=>b7<|gc<|gc<|mf ?_;refine aZ (mJ (bx:=fun ls1 i5 ob1 l1 c1=>(e.Nodes.drop i5=ls1)/\ed (fS tl) ls1 ob1=some R) (Of:=fun _ i5 ob1 l1 c1=>[zj (L6 (fun y:(aP->aa->Option (Unit×aP))=>eC a8 Cg (eP b) rX y)) (Tq .i64) b1 none os8 Zi,Z (rH cQ [(0,au l1 c1 ob1.bytes.length)]) 60 b ob1,tip (rI .u8) 5 l1 c1 ob1.bytes]) (Gf:=fun _ i5 ob1 l1 c1=>[(0,K (M b 0)),(4,K (tM b1)),(38,eg (cG) p.Frags),(39,oA p.Frags),(40,bw (i1:Int)),(62,eg (bl) e.Nodes),(63,oA e.Nodes),(64,bw (i5:Int))]) (fun i5 ob1 l1 c1 h=>?_) (fun e1 tl1 ih1 i5 ob1 l1 c1 h=>?_) e.Nodes 0 r3 (i4.h 0).1 (i4.h 0).2 ⟨J,h⟩) (bq J)
  ·obtain⟨hx1,h⟩:=h
   refine fY hx1 J<|eu X hN J ?_;exact bm (aZ (ih (i1+1) ob1 l1 c1 ⟨ej X,h⟩) (bq J))
  ·obtain⟨hx1,h⟩:=h
   refine fX hx1 J<|aS<|aC<|be<|gq vy ge J (fa hx1)<|bz ge kR J fun b3=>bu ge ax J<|bh 8 J<|bt<|ay J ?_;refine bI ln em bW J<|Q (ba (r:=bN) (ys:=[e1.Op]) (xs:=[.tmp 70]) fc bW J J J J J ⟨(D J),d⟩)<|bK h fun r4 q_r4 h=>aK (EffOK.fr2 (EffOK.fr2 (an (xs:=[.tmp 68,.tmp 71]) (ts:=[K (M b 0),oo ([e1.Op])]) (eP b ob1 (p9 [(l1,c1)])) _ J vE (qc b (p9 [(l1,c1)]) ob1 _ q_r4) ⟨(D J),(D J),d⟩ (fun _=>J)))) J fun i6=>?_;refine(show RG _ _ _ _ [_,_,_] ((72,tT [])::_)from ?_);refine bt<|ay J<|bI ln em bW J<|Q (Ip (γ:=(fun y:(aP->aa->Option (Unit×aP))=>eC a8 Cg (eP b) rX y)) (z:=fun _ _=>none) DZ (iE kI) V8 (fun _=>EN) (.tail _ (.tail _ (.head _))) (D J) (sK (D J)))<|aQ J<|eh J J<|eh J J<|gB J<|aX J<|ay J<|di h J (fun h=>?_) (fun h=>?_)
   ·refine av<|aQ J<|fP ge J<|bK h fun r5 q_r5 h=>aK (EffOK.fr1 (EffOK.fr1 (zJ (args:=Cg) (Ob:=eP b) (res:=rX) (f:=((tL Zi e1.Op).getD (fun _ _=>none))) (x:=r4) (y:=((e1):aa)) (R:=r5) (i:=i6) (xs:=[.tmp 82]) _ J (D J) q_r5 ⟨(D J),d⟩ (fun _=>J)))) J fun i7=>?_;refine(show RG _ _ _ _ [_,_,_] ((83,tT [])::_)from ?_);refine aU<|eu hx1 hN1 J<|af<|af<|aH ?_;exact bm (aZ (ih1 (i5+1) r5.2 (i7.h 0).1 (i7.h 0).2 ⟨ej hx1,h⟩) (bq J))
   ·refine bG<|eu hx1 hN1 J<|af<|af<|aH ?_;exact bm (aZ (ih1 (i5+1) r4 (i6.h 0).1 (i6.h 0).2 ⟨ej hx1,h⟩) (bq J))

def Vl(l:Option Nat)(c:Nat) b l1{R}(h:vb b l1=some R):bf a8 200 [qP l c b,eg (bd) l1] [tip (rI .u8) 5 l c b] (fun _:OI=>tT [eg ((rI .u8)) R.1,bw R.2]) (fun _=>[]):=by
 refine bf.of Tryz.func200 J J J fun w0 S0=>DP 0 J<|be<|cP false (rI .u8) 5<|Q (b9 vC)<|cJ<|bt<|bp<|aQ J<|cM Tryz.underlying101 J<|Q (ca hI)<|bt<|aC<|bD (k:=10) J fun hN=>b7<|rE ?_;refine aZ (mJ (bx:=fun ls i b1 l2 c1=>(l1.drop i=ls)/\kN ls b1=some R) (Of:=fun _ i b1 l2 c1=>[tip (rI .u8) 5 l2 c1 b1]) (Gf:=fun _ i b1 l2 c1=>[(0,tO (rI .u8) l2 c1 b1),(10,eg (bd) l1),(11,oA l1),(12,bw (i:Int))]) (fun i b1 l2 c1 h=>?_) (fun e tl ih i b1 l2 c1 h=>?_) l1 0 b l c ⟨J,h⟩) (bq J)
 ·obtain⟨X,h⟩:=h
  exact fY X J<|aG<|ay J<|gB J<|gm<|eF 4 J<|aY<|so h▸pZ (ts:=[eg ((rI .u8)) b1,bw 0]) (rvs:=[.tmp 4,.tmp 5]) J J ⟨gi J,gi J,d⟩ jj J J
 ·obtain⟨X,h⟩:=h
  refine fX X J<|aS<|aC<|be<|gq Tryz.underlying101 db J (fa X)<|bz db mB J fun b2=>bu db ax J<|bh 7 J<|bt<|be<|fP db J ?_;refine iI h TM (Ms _) (ez J) fun r h=>aQ J<|eh J J<|eh J J<|gB J<|aX J<|bp<|aQ J<|oj J<|di h J (fun h=>?_) (fun h=>?_)
  ·exact ay J<|cP false (rI .u8) 5<|Q (b9 vC)<|bk J<|aF<|fJ<|aF<|fJ<|df<|bv 4 J<|eF 4 J<|aY<|aY<|so h▸pZ (ts:=[eg ((rI .u8)) ra,bw r.2]) (rvs:=[.tmp 4,.tmp 5]) J J ⟨gi J,gi J,d⟩ jj J J
  ·refine jv<|av<|aQ J<|aQ J<|bK h fun b3 q_b3 h=>vg rZ J J J J hM J J (D J) (D J) q_b3 fun l3 c2=>gB J<|aU<|eu X hN J ?_;exact bm (aZ (ih (i+1) b3 l3 c2 ⟨ej X,h⟩) (bq J))

def SD r{R}(h:xh r=some R):dV a8 160 [eg (bd) r] (tT [eg ((rI .u8)) R.1,bw R.2]):=by
 refine fb Tryz.func160 J<|be<|iJ ((rI .u8))<|cJ<|bt<|bp<|aQ J<|cM DX J<|Q (jW (D J) hI)<|di h J (fun h=>?_) (fun h=>?_)
 ·exact be<|iJ ((rI .u8))<|gm<|aF<|so h▸eZ J J J
 ·refine jv<|ay J<|cM DX J<|Q (eW kI tw (D J))<|pq (r:=(rI .u8)) (ys:=[(IntKind.u8.wrap (r.length:Int))]) (xs:=[.tmp 9]) hM rZ J J J J J ⟨(D J),d⟩ J fun l c=>aQ J<|qB<|md 10 J<|bK h fun r1 q_r1 h=>DE [tip (rI .u8) 5 l c ([(IntKind.u8.wrap (r.length:Int))])] _ J X6 (Vl l c _ _ q_r1) ⟨(BA (D J)),(D J),d⟩ J fun i=>?_;refine(show RG _ _ _ _ [] ((12,tT [eg ((rI .u8)) r1.1,bw r1.2])::_)from ?_);exact eh J J<|eh J J<|gB J<|bk J<|so h▸eZ J J J

def SM l{R}(h:vc l=some R):dV a8 118 [eg (mp) l] (tT [eg ((rI .u8)) R.1,bw R.2.1,bw R.2.2]):=by
 refine fb Tryz.func118 J<|be<|iJ ((rI .u8))<|cJ<|cJ<|bt<|DQ<|bp<|aQ J<|cM xo J<|Q (jW (D J) hI)<|di h J (fun h=>?_) (fun h=>?_)
 ·exact be<|iJ ((rI .u8))<|cJ<|gm<|aF<|pt<|so h▸vl J J J J
 ·refine jv<|ay J<|cM xo J<|Q (eW kI EC (D J))<|sN h TO (IX _ _) ⟨RY,(D J),d⟩ fun r h l1 c=>aX J<|be<|cJ<|cJ<|bt<|aS<|DU<|aG<|bp ?_;refine aQ J<|cM xo J<|Q (ca hI)<|bt ?_;refine uy (bx:=fun b l2 c1 at1 e=>oK b at1 e=some R) (Of:=fun b l2 c1 at1 e=>[de (rI .u8) 5 l2 c1 b]) (Gf:=fun b l2 c1 at1 e=>[(5,qP l2 c1 b),(6,bw at1),(7,bw e)]) (fun b l2 c1 at1 e h=>?_) (fun tV=>?_)
  ·skip
   refine aG<|bp<|aQ J<|oj J<|di h J (fun h=>?_) (fun h=>?_)
   ·exact ay J<|aQ J<|iJ ((rI .u8))<|gB J<|bk J<|aF<|pt<|aY<|so h▸vl J J J J
   ·exact jv<|ay J<|gB J<|cJ<|gm<|pt<|df<|bv 5 J<|bv 41 J<|bv 2 J<|eF 2 J<|aY<|so h▸vl J J J J
  ·skip
   refine bD (k:=18) J fun hN=>b7 ?_;refine aZ (Ji (bx:=fun ls i b1 l3 c2 at2 e1=>(l.drop i=ls)/\mU ls i b1 at2 e1=some R) (Of:=fun _ i b1 l3 c2 at2 e1=>[de (rI .u8) 5 l3 c2 b1]) (Gf:=fun _ i b1 l3 c2 at2 e1=>[(5,qP l3 c2 b1),(6,bw at2),(7,bw e1),(18,eg (mp) l),(19,oA l),(20,bw (i:Int))]) (fun i b1 l3 c2 at2 e1 h=>?_) (fun e2 tl ih i b1 l3 c2 at2 e1 h=>?_) l 0 r l1 c (0:Int) (0:Int) ⟨J,h⟩) (bq J)
   ·obtain⟨X,h⟩:=h
    refine fY X J ?_;exact bU (tV b1 l3 c2 at2 e1 h) (bq J)
   ·obtain⟨X,h⟩:=h
    refine fX X J<|aS<|aC<|ay J<|gq xo Cq J (fa X)<|gB J<|aX J<|be<|iJ ((rI .u8)) ?_;refine bt<|bp<|aQ J<|iI h Yv (SD _) (ez J) fun r1 h=>aQ J<|eh J J<|eh J J<|gB J<|aX J<|ay J<|oj J<|di h J (fun h=>?_) (fun h=>?_)
    ·refine ay J<|aX J<|dq<|aq<|bM J<|aq<|aq<|bR ?_;exact bU (tV b1 l3 c2 (i:Int) r1.2 h) (bq J)
    ·refine jv<|av<|aQ J<|aQ J<|bK h fun b2 q_b2 h=>c9 rZ J J J J hM J J (D J) (D J) q_b2 fun l4 c3=>gB J<|aU<|eu X hN J ?_;exact bm (aZ (ih (i+1) b2 l4 c3 at2 r1.2 ⟨ej X,h⟩) (bq J))

end Go.Proofs.YtdohlidddcgfjaaGreat

