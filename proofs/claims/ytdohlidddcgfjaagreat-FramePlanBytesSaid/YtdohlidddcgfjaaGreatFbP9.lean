/- bR of this claim: P9. -/
import Derived.Test.YtdohlidddcgfjaaGreatFbT
import Derived.Test.YtdohlidddcgfjaaGreatFbP8
set_option linter.all false
namespace Go.Proofs.YtdohlidddcgfjaaGreat
open Go
set_option maxRecDepth 100000

def Ni b p bytes{R}(h:pm b p bytes=some R):ir aV 158 [ep ((rI .u8)) b,tD m2 p,bA bytes] false (rI .u8) 5 R:=by
 refine ir.of Tryz.func158 J J J fun w0 S0=>a8<|cz false (rI .u8) 5<|s (bZ u5)<|bp<|ay J<|cw gZ J<|aO J<|s (fc (D J) (D J))<|bT h fun mk q_mk h=>aR (zh (r:=(rI .u8)) (x:=(0:Int)) rk J J J gZ (fun _=>J) hI (D J) q_mk) J fun i=>aW J<|ay J<|aO J<|bT h fun out q_out h=>cU rk J J J J gZ J J (D J) (D J) q_out fun l c=>?_;refine aW J<|bm<|aO J<|s (bU hI)<|bp<|aA<|bV<|fD<|qy ?_;refine aT (Ao (bx:=fun n out1 l1 c1 x=>je p bytes n out1 x=some R) (Of:=fun out1 l1 c1 x=>[cM (rI .u8) 5 l1 c1 out1]) (Gf:=fun out1 l1 c1 x=>[(1,tD m2 p),(2,bA bytes),(7,pY l1 c1 out1),(17,bA bytes),(18,bA x)]) (fun out1 l1 c1 x h=>nn h) (fun n ih out1 l1 c1 x h=>?_) eI out l c (0:Int) h) (bj J);refine d8<|a8<|nw J<|bp<|aP<|iX h J (fun h=>?_) (fun h=>?_)
 ·refine ji<|aP<|aA<|ay J<|aW J<|av<|aO J<|aO J<|s (eP CT xr (D J))<|aO J<|aO J<|s (ii (D J) (D J))<|s (Bj hI (D J))<|s (ii (D J) hI)<|bT h fun u q_u h=>s (yZ (D J) (D J) (Bv q_u))<|s (eP xr sD (D J))<|s (aY (r:=(rI .u8)) (ys:=[(IntKind.u8.wrap (((IntKind.u64.wrap p)).fdiv (2^(min (Int.toNat (IntKind.i64.wrap ((IntKind.i64.wrap ((8:Int)*(IntKind.i64.wrap (bytes-x))))-(8:Int)))) IntKind.u64.bits))))]) (xs:=[.tmp 30]) gZ rk J J J J J ⟨(D J),d⟩)<|bT h fun out2 q_out2 h=>?_;refine cU rk J J J J gZ J J (D J) (D J) q_out2 fun l2 c2=>gU J<|aS<|aF<|aH<|av<|s (fc (D J) hI)<|aO J<|aS ?_;exact bf (aT (ih out2 l2 c2 (IntKind.i64.wrap (x+(1:Int))) h) (bj J))
 ·exact dh<|aq<|aq<|bY<|aH<|ay J<|bk J<|so h▸lJ J J
def GK b p{R}(h:mQ b p=some R):ir aV 117 [ep ((rI .u8)) b,tD m2 p] false (rI .u8) 5 R:=by
 exact ir.of Tryz.func117 J J J fun w0 S0=>a8<|cz false (rI .u8) 5<|s (bZ u5)<|bp<|ay J<|aO J<|uE h Vn (Ni _ _ _) (eb J) fun r h l c=>bk J<|so h▸lJ J J
def PF b p{R}(h:mQ b p=some R):dy aV 117 [ep ((rI .u8)) b,tD m2 p] (ep ((rI .u8)) R):=(GK _ _ h).spec

def TY(b:Nat)(ix:OI) w1 n{R}(h:gb w1 n=some R):bd aV 89 [K (M b 0),tD bc n] (ea b w1 ix) (fun _:OI=>tT []) (fun j=>ea b R j):=by
 refine bd.of Tryz.func89 J J J fun w0 S0=>?_;refine(show CG _ _ _ [Z (rH cr [(0,an (ix.h 0).1 (ix.h 0).2 w1.bytes.length)]) 60 b w1,tip (rI .u8) 5 (ix.h 0).1 (ix.h 0).2 w1.bytes] _ from ?_);refine a8<|eG J<|bp<|ay J<|bz rN mV FE J<|cw xp J<|s (aY (r:=bH) (ys:=[(n.Order.length:Int)]) (xs:=[.tmp 9]) er bS J J J J J ⟨(D J),d⟩)<|bT h fun r q_r h=>aR (EffOK.fr1 (EffOK.fr1 (au (xs:=[.tmp 6,.tmp 10]) (ts:=[K (M b 0),nj ([(n.Order.length:Int)])]) (ea b w1 ix) _ J uu (o7 b ix w1 _ q_r) ⟨(D J),(D J),d⟩ (fun _=>J)))) J fun i=>?_;refine(show RG _ _ _ _ [_,_] ((11,tT [])::_)from ?_);refine bp<|bm<|bz rN mV FE J<|cw xp J<|s (bU hI)<|bp<|aA<|bt (k:=13) J fun hN=>bV ?_;refine aT (lS (bx:=fun ls i1 ob l c=>(n.Order.drop i1=ls)/\fM n ls ob=some R) (Of:=fun _ i1 ob l c=>[Z (rH cr [(0,an l c ob.bytes.length)]) 60 b ob,tip (rI .u8) 5 l c ob.bytes]) (Gf:=fun _ i1 ob l c=>[(0,K (M b 0)),(3,cH bc n),(13,ep (gB) n.Order),(14,nu n.Order),(15,bA (i1:Int))]) (fun i1 ob l c h=>?_) (fun e tl ih i1 ob l c h=>?_) n.Order 0 r (i.h 0).1 (i.h 0).2 ⟨J,h⟩) (bj J)
 ·obtain⟨V,h⟩:=h
  refine ft V J<|aH<|bT h fun r1 q_r1 h=>?_
  refine ic 10 [tc (K (M b 0)),tc (K (M b 0)),tc (K (M b 0)),tc (K (M b 0)),tc (tO (rI .u8) l c ob.bytes),tc (cH bH n.Limit),tc (bA n.Limit),tc (bA (IntKind.i64.wrap (n.Limit+(1:Int)))),tc (tD m2 (IntKind.u32.wrap (IntKind.i64.wrap (n.Limit+(1:Int))))),([9],fun ae=>tO (rI .u8) ((ae.getD 0 j8).h 0).1 ((ae.getD 0 j8).h 0).2 r1)] [false,false,false,false,false,false,false,false,false,true] [fun _=>[Z (rH cr [(0,an l c ob.bytes.length)]) 60 b ob,tip (rI .u8) 5 l c ob.bytes],fun sg=>[tip (rI .u8) 5 ((sg 9).h 0).1 ((sg 9).h 0).2 r1,Z (rH cr [(0,an l c ob.bytes.length)]) 60 b ob,tip (rI .u8) 5 l c ob.bytes]] J mixed J J J J J
   ⟨⟨[⟨0,fun _=>K (M b 0),none⟩],_,0,1,J,⟨(fun _=>J),d⟩,J,J,J,J,J,fun _ sg _ _=>ac J (m1 J)⟩,
   ⟨⟨[⟨0,fun _=>K (M b 0),none⟩],_,0,0,J,⟨(fun _=>J),d⟩,J,J,J,J,J,fun _ sg _ _=>ac J (m1 J)⟩,
   ⟨⟨[⟨30,fun _=>K (M b 0),some 1⟩],_,0,0,J,⟨(fun _=>J),d⟩,J,J,J,J,J,fun _ sg _ _=>ac J (aD (D J))⟩,
   ⟨⟨[⟨31,fun _=>K (M b 0),some 2⟩],_,0,0,J,⟨(fun _=>J),d⟩,J,J,J,J,J,fun _ sg _ _=>ac J (oz 0 mj J J J)⟩,
   ⟨⟨[⟨32,fun _=>K (M b 0),some 3⟩],_,0,0,J,⟨(fun _=>J),d⟩,J,J,J,J,J,mC (fun sg=>ac J (lc ny J (.head _) (.tail _ (.head _)) (D J)))⟩,
   ⟨⟨[⟨3,fun _=>cH bc n,none⟩],_,0,0,J,⟨(fun _=>J),d⟩,J,J,J,J,J,fun _ sg _ _=>ac J (uv tP oq J J)⟩,
   ⟨⟨[⟨34,fun _=>cH bH n.Limit,some 5⟩],_,0,0,J,⟨(fun _=>J),d⟩,J,J,J,J,J,fun _ sg _ _=>ac J (AJ bS J J)⟩,
   ⟨⟨[⟨35,fun _=>tD bH n.Limit,some 6⟩],_,0,0,J,⟨(fun _=>J),d⟩,J,J,J,J,J,fun _ sg _ _=>ac J (fc (D J) hI)⟩,
   ⟨⟨[⟨36,fun _=>tD bH (IntKind.i64.wrap (n.Limit+(1:Int))),some 7⟩],_,0,0,J,⟨(fun _=>J),d⟩,J,J,J,J,J,fun _ sg _ _=>ac J (eP kz CT (D J))⟩,
   ⟨⟨[⟨33,fun _=>tO (rI .u8) l c ob.bytes,some 4⟩,⟨37,fun _=>tD m2 (IntKind.u32.wrap (IntKind.i64.wrap (n.Limit+(1:Int)))),some 8⟩],_,J,⟨(fun _=>J),(fun _=>J),d⟩,J,J,J,fun sg=>cm J (s5 (xs:=[.tmp 33,.tmp 37]) (ts:=[tD Fq ob.bytes,tD m2 (IntKind.u32.wrap (IntKind.i64.wrap (n.Limit+(1:Int))))]) QD (GK _ _ q_r1) ⟨(sf (D J)),(D J),d⟩)⟩,
   d⟩⟩⟩⟩⟩⟩⟩⟩⟩⟩ (fun sg=>?_)
  refine(show RG _ _ _ _ [_,_,_] _ from ?_);refine s (aD (D J))<|aX 0 mj J<|d6 (EffOK.fr1 (kJ (hs' :=[(0,an ((sg 9).h 0).1 ((sg 9).h 0).2 r1.length)]) (u:=an ((sg 9).h 0).1 ((sg 9).h 0).2 r1.length) ny J J ly J ⟨.inl ⟨J,J,J⟩,d⟩ (D J) (sf (D J)) (z7 (D J)))) fun i2=>?_;refine(show RG _ _ _ _ [_,_,_] _ from ?_);exact cL<|yx<|aS<|aj<|aj<|so h▸dW J (sg 9) J J
 ·obtain⟨V,h⟩:=h
  refine fq V J<|aP<|aA<|a8<|fP xp qR J (eo V)<|bw qR Hm J fun b1=>bG qR aB J<|bg 5 J<|bp<|ay J ?_;refine bz EM xZ bS J<|s (aY (r:=bH) (ys:=[e.Col]) (xs:=[.tmp 21]) er bS J J J J J ⟨(D J),d⟩)<|bT h fun r2 q_r2 h=>aR (EffOK.fr1 (EffOK.fr1 (au (xs:=[.tmp 19,.tmp 22]) (ts:=[K (M b 0),nj ([e.Col])]) (ea b ob (o5 [(l,c)])) _ J uu (o7 b (o5 [(l,c)]) ob _ q_r2) ⟨(D J),(D J),d⟩ (fun _=>J)))) J fun i3=>?_;refine(show RG _ _ _ _ [_,_] ((23,tT [])::_)from ?_);refine bp<|av<|aO J<|bz OY GC yM J<|bT h fun r3 q_r3 h=>aR (EffOK.fr1 (EffOK.fr1 (au (xs:=[.tmp 24,.tmp 26]) (ts:=[K (M b 0),gw e.Desc]) (ea b r2 i3) _ J PN (JP b i3 r2 _ q_r3) ⟨(D J),(D J),d⟩ (fun _=>J)))) J fun i4=>?_;refine(show RG _ _ _ _ [_,_] ((27,tT [])::_)from ?_);refine aS<|dY V hN J ?_;exact bf (aT (ih (i1+1) r3 (i4.h 0).1 (i4.h 0).2 ⟨dO V,h⟩) (bj J))

def Qp(b:Nat)(ix:OI) w1 p{R}(h:iR w1 p=some R):bd aV 41 [K (M b 0),tD kj p] (ea b w1 ix) (fun _:OI=>tT []) (fun j=>ea b R j):=by
 refine bd.of Tryz.func41 J J J fun w0 S0=>?_;refine(show CG _ _ _ [Z (rH cr [(0,an (ix.h 0).1 (ix.h 0).2 w1.bytes.length)]) 60 b w1,tip (rI .u8) 5 (ix.h 0).1 (ix.h 0).2 w1.bytes] _ from ?_);refine a8<|eG J<|bp<|a8<|B6 (JC (fun y:(aL->aa->Option (Unit×aL))=>d5 aV AL (ea b) AK y)) (Qj .i64) J fun b1=>aO J ?_
 refine rY ((show b9 _ _ _ _ (d5 aV AL (ea b) AK Kk)from oQ Ui (D J) (fun c x R h i=>by
   obtain⟨r,Y,rfl⟩:=Cq.1 h
   exact Qo _ _ _ _ Y))) J ?_
 refine iW (γ:=(fun y:(aL->aa->Option (Unit×aL))=>d5 aV AL (ea b) AK y)) (y:=Kk) Co (hE kz) (D J) (ro hI) (D J) fun os=>aO J ?_
 refine rY ((show b9 _ _ _ _ (d5 aV AL (ea b) AK Kk)from oQ Ui (D J) (fun c x R h i=>by
   obtain⟨r,Y,rfl⟩:=Cq.1 h
   exact Qo _ _ _ _ Y))) J ?_
 refine iW (γ:=(fun y:(aL->aa->Option (Unit×aL))=>d5 aV AL (ea b) AK y)) (y:=Kk) Co (hE kz) (D J) (ro hI) (D J) fun os1=>aO J ?_
 refine rY ((show b9 _ _ _ _ (d5 aV AL (ea b) AK QR)from oQ Wm (D J) (fun c x R h i=>by
   obtain⟨r,Y,rfl⟩:=Cq.1 h
   exact T4 _ _ _ _ Y))) J ?_
 refine iW (γ:=(fun y:(aL->aa->Option (Unit×aL))=>d5 aV AL (ea b) AK y)) (y:=QR) Co (hE kz) (D J) (ro hI) (D J) fun os2=>aO J ?_
 refine rY ((show b9 _ _ _ _ (d5 aV AL (ea b) AK QT)from oQ Wl (D J) (fun c x R h i=>by
   obtain⟨r,Y,rfl⟩:=Cq.1 h
   exact T0 _ _ _ _ Y))) J ?_
 refine iW (γ:=(fun y:(aL->aa->Option (Unit×aL))=>d5 aV AL (ea b) AK y)) (y:=QT) Co (hE kz) (D J) (ro hI) (D J) fun os3=>aO J ?_
 refine rY ((show b9 _ _ _ _ (d5 aV AL (ea b) AK Ed)from oQ SJ (D J) (fun c x R h i=>by
   obtain⟨r,Y,rfl⟩:=Cq.1 h
   exact M5 _ _ _ _ Y))) J ?_
 refine iW (γ:=(fun y:(aL->aa->Option (Unit×aL))=>d5 aV AL (ea b) AK y)) (y:=Ed) Co (hE kz) (D J) (ro hI) (D J) fun os4=>aO J ?_
 refine rY ((show b9 _ _ _ _ (d5 aV AL (ea b) AK Ed)from oQ SJ (D J) (fun c x R h i=>by
   obtain⟨r,Y,rfl⟩:=Cq.1 h
   exact M5 _ _ _ _ Y))) J ?_
 refine iW (γ:=(fun y:(aL->aa->Option (Unit×aL))=>d5 aV AL (ea b) AK y)) (y:=Ed) Co (hE kz) (D J) (ro hI) (D J) fun os5=>aO J ?_
 refine rY ((show b9 _ _ _ _ (d5 aV AL (ea b) AK Ed)from oQ SJ (D J) (fun c x R h i=>by
   obtain⟨r,Y,rfl⟩:=Cq.1 h
   exact M5 _ _ _ _ Y))) J ?_
 refine iW (γ:=(fun y:(aL->aa->Option (Unit×aL))=>d5 aV AL (ea b) AK y)) (y:=Ed) Co (hE kz) (D J) (ro hI) (D J) fun os6=>aO J ?_
 refine rY ((show b9 _ _ _ _ (d5 aV AL (ea b) AK QU)from oQ Wk (D J) (fun c x R h i=>by
   obtain⟨r,Y,rfl⟩:=Cq.1 h
   exact TZ _ _ _ _ Y))) J ?_
 refine iW (γ:=(fun y:(aL->aa->Option (Unit×aL))=>d5 aV AL (ea b) AK y)) (y:=QU) Co (hE kz) (D J) (ro hI) (D J) fun os7=>aO J ?_
 refine rY ((show b9 _ _ _ _ (d5 aV AL (ea b) AK QS)from oQ Wj (D J) (fun c x R h i=>by
   obtain⟨r,Y,rfl⟩:=Cq.1 h
   exact TY _ _ _ _ Y))) J ?_
 refine iW (γ:=(fun y:(aL->aa->Option (Unit×aL))=>d5 aV AL (ea b) AK y)) (y:=QS) Co (hE kz) (D J) (ro hI) (D J) fun os8=>aO J<|aW J<|ay J<|bz vh om FF J<|cw wD J<|s (aY (r:=bH) (ys:=[(p.Frags.length:Int)]) (xs:=[.tmp 34]) er bS J J J J J ⟨(D J),d⟩)<|bT h fun r q_r h=>aR (EffOK.fr2 (EffOK.fr2 (au (xs:=[.tmp 31,.tmp 35]) (ts:=[K (M b 0),nj ([(p.Frags.length:Int)])]) (ea b w1 ix) _ J uu (o7 b ix w1 _ q_r) ⟨(D J),(D J),d⟩ (fun _=>J)))) J fun i=>?_;refine(show RG _ _ _ _ [_,_,_] ((36,tT [])::_)from ?_);refine bp<|a8<|bz vh om FF J<|cw wD J<|s (bU hI)<|bp<|aA<|bt (k:=38) J fun hN=>bV<|fD<|fD<|lu ?_;refine aT (lS (bx:=fun ls i1 ob l c=>(p.Frags.drop i1=ls)/\fe ls ob=some R) (Of:=fun _ i1 ob l c=>[xQ (JC (fun y:(aL->aa->Option (Unit×aL))=>d5 aV AL (ea b) AK y)) (Qj .i64) b1 none os8 V1,Z (rH cr [(0,an l c ob.bytes.length)]) 60 b ob,tip (rI .u8) 5 l c ob.bytes]) (Gf:=fun _ i1 ob l c=>[(0,K (M b 0)),(4,K (sr b1)),(38,ep (ck) p.Frags),(39,nu p.Frags),(40,bA (i1:Int))]) (fun i1 ob l c h=>?_) (fun e tl ih i1 ob l c h=>?_) p.Frags 0 r (i.h 0).1 (i.h 0).2 ⟨J,h⟩) (bj J)
 ·obtain⟨V,h⟩:=h
  exact ft V J<|ba<|aj<|aj<|so h▸dW J (o5 [(l,c)]) J J
 ·obtain⟨V,h⟩:=h
  refine fq V J<|aP<|aA<|a8<|fP wD pd J (eo V)<|bw pd oC J fun b2=>bG pd aB J<|bg 6 J<|bp<|ay J ?_;refine bz BG s0 bS J<|bz BF sZ bS J<|s (aY (r:=bH) (ys:=[e.At,e.Way]) (xs:=[.tmp 46,.tmp 48]) er bS J J J J J ⟨(D J),(D J),d⟩)<|bT h fun r1 q_r1 h=>aR (EffOK.fr2 (EffOK.fr2 (au (xs:=[.tmp 44,.tmp 49]) (ts:=[K (M b 0),nj ([e.At,e.Way])]) (ea b ob (o5 [(l,c)])) _ J uu (o7 b (o5 [(l,c)]) ob _ q_r1) ⟨(D J),(D J),d⟩ (fun _=>J)))) J fun i2=>?_;refine(show RG _ _ _ _ [_,_,_] ((50,tT [])::_)from ?_);refine bp<|ay J<|bz BE sY cF J<|bT h fun r2 q_r2 h=>aR (EffOK.fr1 (EffOK.fr1 (au (xs:=[.tmp 51,.tmp 53]) (ts:=[K (M b 0),nj e.Cols]) (ea b r1 i2) _ J SI (M4 b i2 r1 _ q_r2) ⟨(D J),(D J),d⟩ (fun _=>J)))) J fun i3=>?_;refine(show RG _ _ _ _ [_,_,_] ((54,tT [])::_)from ?_);refine bp<|ay J<|bz y9 s3 Ej J<|cw um J<|s (aY (r:=bH) (ys:=[(e.Nodes.length:Int)]) (xs:=[.tmp 58]) er bS J J J J J ⟨(D J),d⟩)<|bT h fun r3 q_r3 h=>aR (EffOK.fr1 (EffOK.fr1 (au (xs:=[.tmp 55,.tmp 59]) (ts:=[K (M b 0),nj ([(e.Nodes.length:Int)])]) (ea b r2 i3) _ J uu (o7 b i3 r2 _ q_r3) ⟨(D J),(D J),d⟩ (fun _=>J)))) J fun i4=>?_;refine(show RG _ _ _ _ [_,_,_] ((60,tT [])::_)from ?_);refine bp<|a8<|bz y9 s3 Ej J<|cw um J<|s (bU hI)<|bp<|aA<|bt (k:=62) J fun hN1=>bV<|fD<|fD<|lu ?_;refine aT (lS (bx:=fun ls1 i5 ob1 l1 c1=>(e.Nodes.drop i5=ls1)/\dI (fe tl) ls1 ob1=some R) (Of:=fun _ i5 ob1 l1 c1=>[xQ (JC (fun y:(aL->aa->Option (Unit×aL))=>d5 aV AL (ea b) AK y)) (Qj .i64) b1 none os8 V1,Z (rH cr [(0,an l1 c1 ob1.bytes.length)]) 60 b ob1,tip (rI .u8) 5 l1 c1 ob1.bytes]) (Gf:=fun _ i5 ob1 l1 c1=>[(0,K (M b 0)),(4,K (sr b1)),(38,ep (ck) p.Frags),(39,nu p.Frags),(40,bA (i1:Int)),(62,ep (bc) e.Nodes),(63,nu e.Nodes),(64,bA (i5:Int))]) (fun i5 ob1 l1 c1 h=>?_) (fun e1 tl1 ih1 i5 ob1 l1 c1 h=>?_) e.Nodes 0 r3 (i4.h 0).1 (i4.h 0).2 ⟨J,h⟩) (bj J)
  ·obtain⟨hx1,h⟩:=h
   refine ft hx1 J<|dY V hN J ?_;exact bf (aT (ih (i1+1) ob1 l1 c1 ⟨dO V,h⟩) (bj J))
  ·obtain⟨hx1,h⟩:=h
   refine fq hx1 J<|aP<|aA<|a8<|fP um fG J (eo hx1)<|bw fG j7 J fun b3=>bG fG aB J<|bg 8 J<|bp<|ay J ?_;refine bz kI dQ bS J<|s (aY (r:=bH) (ys:=[e1.Op]) (xs:=[.tmp 70]) er bS J J J J J ⟨(D J),d⟩)<|bT h fun r4 q_r4 h=>aR (EffOK.fr2 (EffOK.fr2 (au (xs:=[.tmp 68,.tmp 71]) (ts:=[K (M b 0),nj ([e1.Op])]) (ea b ob1 (o5 [(l1,c1)])) _ J uu (o7 b (o5 [(l1,c1)]) ob1 _ q_r4) ⟨(D J),(D J),d⟩ (fun _=>J)))) J fun i6=>?_;refine(show RG _ _ _ _ [_,_,_] ((72,tT [])::_)from ?_);refine bp<|ay J<|bz kI dQ bS J<|s (Gc (γ:=(fun y:(aL->aa->Option (Unit×aL))=>d5 aV AL (ea b) AK y)) (z:=fun _ _=>none) Co (hE kz) S2 (fun _=>C5) (.tail _ (.tail _ (.head _))) (D J) (ro (D J)))<|aO J<|eF J J<|eF J J<|gU J<|aW J<|ay J<|dd h J (fun h=>?_) (fun h=>?_)
   ·refine av<|aO J<|eJ fG J<|bT h fun r5 q_r5 h=>aR (EffOK.fr1 (EffOK.fr1 (ym (args:=AL) (Ob:=ea b) (res:=AK) (f:=((sq V1 e1.Op).getD (fun _ _=>none))) (x:=r4) (y:=((e1):aa)) (R:=r5) (i:=i6) (xs:=[.tmp 82]) _ J (D J) q_r5 ⟨(D J),d⟩ (fun _=>J)))) J fun i7=>?_;refine(show RG _ _ _ _ [_,_,_] ((83,tT [])::_)from ?_);refine aS<|dY hx1 hN1 J<|aj<|aj<|aG ?_;exact bf (aT (ih1 (i5+1) r5.2 (i7.h 0).1 (i7.h 0).2 ⟨dO hx1,h⟩) (bj J))
   ·refine bD<|dY hx1 hN1 J<|aj<|aj<|aG ?_;exact bf (aT (ih1 (i5+1) r4 (i6.h 0).1 (i6.h 0).2 ⟨dO hx1,h⟩) (bj J))

def R9(l:Option Nat)(c:Nat) b l1{R}(h:yo b l1=some R):bd aV 200 [pY l c b,ep (be) l1] [tip (rI .u8) 5 l c b] (fun _:OI=>tT [ep ((rI .u8)) R.1,bA R.2]) (fun _=>[]):=by
 refine bd.of Tryz.func200 J J J fun w0 S0=>Ci 0 J<|a8<|cz false (rI .u8) 5<|s (bZ u5)<|cC<|bp<|bm<|aO J<|cw Tryz.underlying101 J<|s (bU hI)<|bp<|aA<|bt (k:=10) J fun hN=>bV<|qy ?_;refine aT (lS (bx:=fun ls i b1 l2 c1=>(l1.drop i=ls)/\qg ls b1=some R) (Of:=fun _ i b1 l2 c1=>[tip (rI .u8) 5 l2 c1 b1]) (Gf:=fun _ i b1 l2 c1=>[(0,tO (rI .u8) l2 c1 b1),(10,ep (be) l1),(11,nu l1),(12,bA (i:Int))]) (fun i b1 l2 c1 h=>?_) (fun e tl ih i b1 l2 c1 h=>?_) l1 0 b l c ⟨J,h⟩) (bj J)
 ·obtain⟨V,h⟩:=h
  exact ft V J<|aH<|ay J<|gU J<|fZ<|fE 4 J<|ba<|so h▸tg (ts:=[ep ((rI .u8)) b1,bA 0]) (rvs:=[.tmp 4,.tmp 5]) J J ⟨kR J,kR J,d⟩ j8 J J
 ·obtain⟨V,h⟩:=h
  refine fq V J<|aP<|aA<|a8<|fP Tryz.underlying101 cO J (eo V)<|bw cO lK J fun b2=>bG cO aB J<|bg 7 J<|bp<|a8<|eJ cO J ?_;refine iw h QA (JT _) (eb J) fun r h=>aO J<|eF J J<|eF J J<|gU J<|aW J<|bm<|aO J<|nW J<|dd h J (fun h=>?_) (fun h=>?_)
  ·exact ay J<|cz false (rI .u8) 5<|s (bZ u5)<|bk J<|aC<|fa<|aC<|fa<|df<|bJ 4 J<|fE 4 J<|ba<|ba<|so h▸tg (ts:=[ep ((rI .u8)) p9,bA r.2]) (rvs:=[.tmp 4,.tmp 5]) J J ⟨kR J,kR J,d⟩ j8 J J
  ·refine ji<|av<|aO J<|aO J<|bT h fun b3 q_b3 h=>t6 rk J J J J gZ J J (D J) (D J) q_b3 fun l3 c2=>gU J<|aS<|dY V hN J ?_;exact bf (aT (ih (i+1) b3 l3 c2 ⟨dO V,h⟩) (bj J))

def Px r{R}(h:DP r=some R):dy aV 160 [ep (be) r] (tT [ep ((rI .u8)) R.1,bA R.2]):=by
 refine eu Tryz.func160 J<|a8<|kb ((rI .u8))<|cC<|bp<|bm<|aO J<|cw Cn J<|s (jL (D J) hI)<|dd h J (fun h=>?_) (fun h=>?_)
 ·exact a8<|kb ((rI .u8))<|fZ<|aC<|so h▸ev J J J
 ·refine ji<|ay J<|cw Cn J<|s (eP kz sD (D J))<|ov (r:=(rI .u8)) (ys:=[(IntKind.u8.wrap (r.length:Int))]) (xs:=[.tmp 9]) gZ rk J J J J J ⟨(D J),d⟩ J fun l c=>aO J<|vS<|s8 10 J<|bT h fun r1 q_r1 h=>B9 [tip (rI .u8) 5 l c ([(IntKind.u8.wrap (r.length:Int))])] _ J UX (R9 l c _ _ q_r1) ⟨(z7 (D J)),(D J),d⟩ J fun i=>?_;refine(show RG _ _ _ _ [] ((12,tT [ep ((rI .u8)) r1.1,bA r1.2])::_)from ?_);exact eF J J<|eF J J<|gU J<|bk J<|so h▸ev J J J

def PE l{R}(h:BW l=some R):dy aV 118 [ep (wG) l] (tT [ep ((rI .u8)) R.1,bA R.2.1,bA R.2.2]):=by
 refine eu Tryz.func118 J<|a8<|kb ((rI .u8))<|cC<|cC<|bp<|Cj<|bm<|aO J<|cw xq J<|s (jL (D J) hI)<|dd h J (fun h=>?_) (fun h=>?_)
 ·exact a8<|kb ((rI .u8))<|cC<|fZ<|aC<|ox<|so h▸vV J J J J
 ·refine ji<|ay J<|cw xq J<|s (eP kz Fg (D J))<|uE h QC (GI _ _) ⟨OS,(D J),d⟩ fun r h l1 c=>aW J<|a8<|cC<|cC<|bp<|aP<|Ck<|aH<|bm ?_;refine aO J<|cw xq J<|s (bU hI)<|bp ?_;refine tf (bx:=fun b l2 c1 at1 e=>sv b at1 e=some R) (Of:=fun b l2 c1 at1 e=>[cM (rI .u8) 5 l2 c1 b]) (Gf:=fun b l2 c1 at1 e=>[(5,pY l2 c1 b),(6,bA at1),(7,bA e)]) (fun b l2 c1 at1 e h=>?_) (fun tV=>?_)
  ·skip
   refine aH<|bm<|aO J<|nW J<|dd h J (fun h=>?_) (fun h=>?_)
   ·exact ay J<|aO J<|kb ((rI .u8))<|gU J<|bk J<|aC<|ox<|ba<|so h▸vV J J J J
   ·exact ji<|ay J<|gU J<|cC<|fZ<|ox<|df<|bJ 5 J<|bJ 41 J<|bJ 2 J<|fE 2 J<|ba<|so h▸vV J J J J
  ·skip
   refine bt (k:=18) J fun hN=>bV ?_;refine aT (G9 (bx:=fun ls i b1 l3 c2 at2 e1=>(l.drop i=ls)/\su ls i b1 at2 e1=some R) (Of:=fun _ i b1 l3 c2 at2 e1=>[cM (rI .u8) 5 l3 c2 b1]) (Gf:=fun _ i b1 l3 c2 at2 e1=>[(5,pY l3 c2 b1),(6,bA at2),(7,bA e1),(18,ep (wG) l),(19,nu l),(20,bA (i:Int))]) (fun i b1 l3 c2 at2 e1 h=>?_) (fun e2 tl ih i b1 l3 c2 at2 e1 h=>?_) l 0 r l1 c (0:Int) (0:Int) ⟨J,h⟩) (bj J)
   ·obtain⟨V,h⟩:=h
    refine ft V J ?_;exact bP (tV b1 l3 c2 at2 e1 h) (bj J)
   ·obtain⟨V,h⟩:=h
    refine fq V J<|aP<|aA<|ay J<|fP xq FG J (eo V)<|gU J<|aW J<|a8<|kb ((rI .u8)) ?_;refine bp<|bm<|aO J<|iw h Vm (Px _) (eb J) fun r1 h=>aO J<|eF J J<|eF J J<|gU J<|aW J<|ay J<|nW J<|dd h J (fun h=>?_) (fun h=>?_)
    ·refine ay J<|aW J<|dh<|aq<|bF J<|aq<|aq<|bY ?_;exact bP (tV b1 l3 c2 (i:Int) r1.2 h) (bj J)
    ·refine ji<|av<|aO J<|aO J<|bT h fun b2 q_b2 h=>cU rk J J J J gZ J J (D J) (D J) q_b2 fun l4 c3=>gU J<|aS<|dY V hN J ?_;exact bf (aT (ih (i+1) b2 l4 c3 at2 r1.2 ⟨dO V,h⟩) (bj J))

end Go.Proofs.YtdohlidddcgfjaaGreat

