/- bS of this claim: P8. -/
import Derived.Test.YtdohlidddcgfjaaGreatFfT
import Derived.Test.YtdohlidddcgfjaaGreatFfP7
set_option linter.all false
namespace Go.Proofs.YtdohlidddcgfjaaGreat
open Go
set_option maxRecDepth 100000

def Tm m{R}(h:m3 m=some R):dR aY 29 [tD fM m] (gR R):=by
 refine fc Tryz.func29 J<|bc<|fx J<|bz<|br<|bc<|s (cg (show aJ _ _ _ ((lK aY JJ p9 XE))from(Ta adw fun x y h=>YL _ h)))<|br<|aB J<|bG Fl Bv b9 J<|bL h fun r q_r h=>s (lM (args:=Ru) (res:=AN) (f:=XE) (x:=((m.From):Int)) (D J) q_r ⟨(D J),aM⟩)<|aR J<|bL h fun t q_t h=>ai J (dy J)<|ai J (ci Fk Bu J J)<|ai J (ce b9 J J) ?_
 obtain⟨r1,h1t,h0t⟩:=og q_t
 have q_r1g:=fun H=>(h1t H).1
 refine ai J (fun K=>lM (args:=Ru) (res:=AN) (f:=XE) (x:=((m.To):Int)) (bM J K) (q_r1g K) ⟨(bM J K),aM⟩)<|s (dj (D J) (fun H=>(bM J H)) (fun H=>(h1t H).2) h0t)<|aR J<|ai J (ci Cs yi J J)<|ai J (ce b9 J J)<|ai J (fun K=>iN (bM J K) hI)<|de J<|aR J<|ai J (ci Cs yi J J)<|ai J (ce b9 J J)<|ai J (fun K=>hX (bM J K) hI)<|de J<|aR J<|bL h fun t1 q_t1 h=>ai J (fun K=>Eb jc J J) ?_
 obtain⟨r2,h1t1,h0t1⟩:=og q_t1
 have q_r2g:=fun H=>(h1t1 H).1
 refine ai J (fun K=>dz adv (YK _ (q_r2g K)) ⟨(bM J K),aM⟩)<|s (dj (D J) (fun H=>(bM J H)) (fun H=>(h1t1 H).2) h0t1)<|aR J<|bL h fun t2 q_t2 h=>ai J (fun K=>Eb jc J J) ?_
 obtain⟨r3,h1t2,h0t2⟩:=og q_t2
 have q_r3g:=fun H=>(h1t2 H).1
 exact ai J (fun K=>dz adu (YJ _ (q_r3g K)) ⟨(bM J K),aM⟩)<|s (dj (D J) (fun H=>(bM J H)) (fun H=>(h1t2 H).2) h0t2)<|bq J<|so h▸aN J J

def rk(b:Nat)(ix:OI) w1 l{R}(h:cb w1 l=some R):bk aY 59 [Z (M b 0),pF l] (fm b w1 ix) (fun _:OI=>tT []) (fun j=>fm b R j):=by
 refine bk.of Tryz.func59 J J J fun w0 S0=>?_;refine(show CG _ _ _ [Q (rH cX [(0,av (ix.h 0).1 (ix.h 0).2 w1.bytes.length)]) 60 b w1,tip (rI .u8) 5 (ix.h 0).1 (ix.h 0).2 w1.bytes] _ from ?_);refine aB J<|cr fD J<|s (bR hI)<|br<|aA<|bt (k:=6) J fun hN=>bN ?_;refine aV (nu (tV:=fun ls i ob l1 c=>(l.drop i=ls)/\fZ ls ob=some R) (Of:=fun _ i ob l1 c=>[Q (rH cX [(0,av l1 c ob.bytes.length)]) 60 b ob,tip (rI .u8) 5 l1 c ob.bytes]) (Gf:=fun _ i ob l1 c=>[(0,Z (M b 0)),(6,pF l),(7,nL l),(8,bB (i:Int))]) (fun i ob l1 c h=>?_) (fun e tl ih i ob l1 c h=>?_) l 0 w1 (ix.h 0).1 (ix.h 0).2 ⟨J,h⟩) (bp J)
 ·obtain⟨V,h⟩:=h
  exact fv V J<|ah<|ah<|so h▸eV J (rf [(l1,c)]) J J
 ·obtain⟨V,h⟩:=h
  refine ft V J<|aU<|aA<|bc<|fV fD b9 J (eK V)<|a8 J<|ax<|aR J<|aR J<|s (aC (D J))<|aW 0 oS J ?_;refine s (nm qa J (.head _) (.tail _ (.head _)) (D J))<|aR J<|s (fH lz uZ (D J))<|s (ba (r:=(rI .u8)) (ys:=[(IntKind.u8.wrap e)]) (xs:=[.tmp 18]) oh qL J J J J J ⟨(D J),aM⟩)<|cN<|bL h fun l2 q_l2 h=>wQ qL J J J J oh J J (D J) (D J) q_l2 fun l3 c1=>s (aC (D J))<|aW 0 oS J<|fb (EffOK.fr1 (md (hs' :=[(0,av l3 c1 l2.length)]) (u:=av l3 c1 l2.length) qa J J m0 J ⟨.inl ⟨J,J,J⟩,aM⟩ (D J) (rq (D J)) (Dm (D J)))) fun i1=>?_;refine(show RG _ _ _ _ [_,_] _ from ?_);refine aX<|d6 V hN J ?_;exact bj (aV (ih (i+1) ({ob with bytes:=l2}:aT) l3 c1 ⟨dZ V,h⟩) (bp J))

def Ti(b:Nat)(ix:OI) w1 l{R}(h:ke w1 l=some R):bk aY 90 [Z (M b 0),pF l] (fm b w1 ix) (fun _:OI=>tT []) (fun j=>fm b R j):=by
 refine bk.of Tryz.func90 J J J fun w0 S0=>?_;refine(show CG _ _ _ [Q (rH cX [(0,av (ix.h 0).1 (ix.h 0).2 w1.bytes.length)]) 60 b w1,tip (rI .u8) 5 (ix.h 0).1 (ix.h 0).2 w1.bytes] _ from ?_);refine aB J<|aR J<|cr fD J<|s (ba (r:=bP) (ys:=[(l.length:Int)]) (xs:=[.tmp 6]) fD b9 J J J J J ⟨(D J),aM⟩)<|bL h fun r q_r h=>aL (EffOK.fr1 (EffOK.fr1 (an (xs:=[.tmp 4,.tmp 7]) (ts:=[Z (M b 0),pF ([(l.length:Int)])]) (fm b w1 ix) _ J xl (rk b ix w1 _ q_r) ⟨(D J),(D J),aM⟩ (fun _=>J)))) J fun i=>?_;refine(show RG _ _ _ _ [_,_] ((8,tT [])::_)from ?_);refine br<|ax<|aR J<|aR J<|bL h fun r1 q_r1 h=>aL (EffOK.fr1 (EffOK.fr1 (an (xs:=[.tmp 9,.tmp 10]) (ts:=[Z (M b 0),pF l]) (fm b r i) _ J xl (rk b i r _ q_r1) ⟨(D J),(D J),aM⟩ (fun _=>J)))) J fun i1=>?_;refine(show RG _ _ _ _ [_,_] ((11,tT [])::_)from ?_);exact aX<|ah<|ah<|so h▸eV J i1 J J

def Xe(b:Nat)(ix:OI) w1 n{R}(h:fi w1 n=some R):bk aY 84 [Z (M b 0),tD bl n] (fm b w1 ix) (fun _:OI=>tT []) (fun j=>fm b R j):=by
 refine bk.of Tryz.func84 J J J fun w0 S0=>?_;refine(show CG _ _ _ [Q (rH cX [(0,av (ix.h 0).1 (ix.h 0).2 w1.bytes.length)]) 60 b w1,tip (rI .u8) 5 (ix.h 0).1 (ix.h 0).2 w1.bytes] _ from ?_);refine bc<|fx J<|br<|aB J<|bG wy oO b9 J<|s (ba (r:=bP) (ys:=[n.Table]) (xs:=[.tmp 6]) fD b9 J J J J J ⟨(D J),aM⟩)<|bL h fun r q_r h=>aL (EffOK.fr1 (EffOK.fr1 (an (xs:=[.tmp 4,.tmp 7]) (ts:=[Z (M b 0),pF ([n.Table])]) (fm b w1 ix) _ J xl (rk b ix w1 _ q_r) ⟨(D J),(D J),aM⟩ (fun _=>J)))) J fun i=>?_;refine(show RG _ _ _ _ [_,_] ((8,tT [])::_)from ?_);refine br<|ax<|aR J<|bG q5 jA dc J<|bL h fun r1 q_r1 h=>aL (EffOK.fr1 (EffOK.fr1 (an (xs:=[.tmp 9,.tmp 11]) (ts:=[Z (M b 0),pF n.Kinds]) (fm b r i) _ J ZA (Ti b i r _ q_r1) ⟨(D J),(D J),aM⟩ (fun _=>J)))) J fun i1=>?_;refine(show RG _ _ _ _ [_,_] ((12,tT [])::_)from ?_);exact aX<|ah<|ah<|so h▸eV J i1 J J

def OX(b:Nat)(ix:OI) w1 is1{R}(h:gW w1 is1=some R):bk aY 61 [Z (M b 0),gR is1] (fm b w1 ix) (fun _:OI=>tT []) (fun j=>fm b R j):=by
 refine bk.of Tryz.func61 J J J fun w0 S0=>?_;refine(show CG _ _ _ [Q (rH cX [(0,av (ix.h 0).1 (ix.h 0).2 w1.bytes.length)]) 60 b w1,tip (rI .u8) 5 (ix.h 0).1 (ix.h 0).2 w1.bytes] _ from ?_);refine bc<|cO<|br ?_;refine i0 (tV:=fun n=>lO w1 n=some R) (Of:=fun n=>[Q (rH cX [(0,av (ix.h 0).1 (ix.h 0).2 w1.bytes.length)]) 60 b w1,tip (rI .u8) 5 (ix.h 0).1 (ix.h 0).2 w1.bytes]) (Gf:=fun n=>[(0,Z (M b 0)),(4,bB n)]) (fun n h=>?_) (fun hg=>?_)
 ·skip
  refine ax<|aR J<|aR J<|s (ba (r:=bP) (ys:=[n]) (xs:=[.tmp 7]) fD b9 J J J J J ⟨(D J),aM⟩)<|bL h fun r q_r h=>aL (EffOK.fr1 (EffOK.fr1 (an (xs:=[.tmp 6,.tmp 8]) (ts:=[Z (M b 0),pF ([n])]) (fm b w1 ix) _ J xl (rk b ix w1 _ q_r) ⟨(D J),(D J),aM⟩ (fun _=>J)))) J fun i=>?_;refine(show RG _ _ _ _ [_,_] ((9,tT [])::_)from ?_);exact aX<|ah<|ah<|so h▸eV J i J J
 ·skip
  refine aB J<|c0 h J (fun h=>?_) (fun h=>?_)
  ·refine ax<|cO<|aX ?_;exact bZ (hg (1:Int) h) (bp J)
  ·refine bE ?_;exact bZ (hg (0:Int) h) (bp J)

def Tw b p bytes{R}(h:rC b p bytes=some R):jD aY 199 [eg ((rI .u8)) b,tD HU p,bB bytes] false (rI .u8) 5 R:=by
 refine jD.of Tryz.func199 J J J fun w0 S0=>bc<|cU false (rI .u8) 5<|s (cg xj)<|br<|aB J<|cr oh J<|aR J<|s (fY (D J) (D J))<|bL h fun mk q_mk h=>aL (Cw (r:=(rI .u8)) (x:=(0:Int)) qL J J J oh (fun _=>J) hI (D J) q_mk) J fun i=>a8 J<|aB J<|aR J<|bL h fun out q_out h=>cY qL J J J J oh J J (D J) (D J) q_out fun l c=>?_;refine a8 J<|bm<|aR J<|s (bR hI)<|br<|aA<|bN<|gN<|ta ?_;refine aV (DV (tV:=fun n out1 l1 c1 x=>kC p bytes n out1 x=some R) (Of:=fun out1 l1 c1 x=>[dr (rI .u8) 5 l1 c1 out1]) (Gf:=fun out1 l1 c1 x=>[(1,tD HU p),(2,bB bytes),(7,sa l1 c1 out1),(17,bB bytes),(18,bB x)]) (fun out1 l1 c1 x h=>nn h) (fun n ih out1 l1 c1 x h=>?_) fq out l c (0:Int) h) (bp J);refine eE<|bc<|ol J<|br<|aU<|jE h J (fun h=>?_) (fun h=>?_)
 ·refine jf<|aU<|aA<|aB J<|a8 J<|ax<|aR J<|aR J<|s (fH Gx zG (D J))<|aR J<|aR J<|s (iF (D J) (D J))<|s (EW hI (D J))<|s (iF (D J) hI)<|bL h fun u q_u h=>s (Cg (D J) (D J) (E6 q_u))<|s (fH zG uZ (D J))<|s (ba (r:=(rI .u8)) (ys:=[(IntKind.u8.wrap (((IntKind.u64.wrap p)).fdiv (2^(min (Int.toNat (IntKind.i64.wrap ((IntKind.i64.wrap ((8:Int)*(IntKind.i64.wrap (bytes-x))))-(8:Int)))) IntKind.u64.bits))))]) (xs:=[.tmp 30]) oh qL J J J J J ⟨(D J),aM⟩)<|bL h fun out2 q_out2 h=>?_;refine cY qL J J J J oh J J (D J) (D J) q_out2 fun l2 c2=>ia J<|aX<|aF<|aG<|ax<|s (fY (D J) hI)<|aR J<|aX ?_;exact bj (aV (ih out2 l2 c2 (IntKind.i64.wrap (x+(1:Int))) h) (bp J))
 ·exact dG<|aq<|aq<|bW<|aG<|aB J<|bq J<|so h▸ni J J
def Ln b p{R}(h:qv b p=some R):jD aY 159 [eg ((rI .u8)) b,tD HU p] false (rI .u8) 5 R:=by
 exact jD.of Tryz.func159 J J J fun w0 S0=>bc<|cU false (rI .u8) 5<|s (cg xj)<|br<|aB J<|aR J<|tE h ab3 (Tw _ _ _) (ez J) fun r h l c=>bq J<|so h▸ni J J
def TC b p bytes{R}(h:rz b p bytes=some R):jD aY 157 [eg ((rI .u8)) b,tD mi p,bB bytes] false (rI .u8) 5 R:=by
 refine jD.of Tryz.func157 J J J fun w0 S0=>bc<|cU false (rI .u8) 5<|s (cg xj)<|br<|aB J<|cr oh J<|aR J<|s (fY (D J) (D J))<|bL h fun mk q_mk h=>aL (Cw (r:=(rI .u8)) (x:=(0:Int)) qL J J J oh (fun _=>J) hI (D J) q_mk) J fun i=>a8 J<|aB J<|aR J<|bL h fun out q_out h=>cY qL J J J J oh J J (D J) (D J) q_out fun l c=>?_;refine a8 J<|bm<|aR J<|s (bR hI)<|br<|aA<|bN<|gN<|ta ?_;refine aV (DV (tV:=fun n out1 l1 c1 x=>ek p bytes n out1 x=some R) (Of:=fun out1 l1 c1 x=>[dr (rI .u8) 5 l1 c1 out1]) (Gf:=fun out1 l1 c1 x=>[(1,tD mi p),(2,bB bytes),(7,sa l1 c1 out1),(17,bB bytes),(18,bB x)]) (fun out1 l1 c1 x h=>nn h) (fun n ih out1 l1 c1 x h=>?_) fq out l c (0:Int) h) (bp J);refine eE<|bc<|ol J<|br<|aU<|jE h J (fun h=>?_) (fun h=>?_)
 ·refine jf<|aU<|aA<|aB J<|a8 J<|ax<|aR J<|aR J<|aR J<|aR J<|s (iF (D J) (D J))<|s (EW hI (D J))<|s (iF (D J) hI)<|bL h fun u q_u h=>s (Cg (D J) (D J) (E6 q_u))<|s (fH zG uZ (D J))<|s (ba (r:=(rI .u8)) (ys:=[(IntKind.u8.wrap ((p).fdiv (2^(min (Int.toNat (IntKind.i64.wrap ((IntKind.i64.wrap ((8:Int)*(IntKind.i64.wrap (bytes-x))))-(8:Int)))) IntKind.u64.bits))))]) (xs:=[.tmp 29]) oh qL J J J J J ⟨(D J),aM⟩)<|bL h fun out2 q_out2 h=>cY qL J J J J oh J J (D J) (D J) q_out2 fun l2 c2=>?_;refine ia J<|aX<|aF<|aG<|ax<|s (fY (D J) hI)<|aR J<|aX ?_;exact bj (aV (ih out2 l2 c2 (IntKind.i64.wrap (x+(1:Int))) h) (bp J))
 ·exact dG<|aq<|aq<|bW<|aG<|aB J<|bq J<|so h▸ni J J
def yo b p{R}(h:jY b p=some R):jD aY 116 [eg ((rI .u8)) b,tD mi p] false (rI .u8) 5 R:=by
 exact jD.of Tryz.func116 J J J fun w0 S0=>bc<|cU false (rI .u8) 5<|s (cg xj)<|br<|aB J<|aR J<|tE h acu (TC _ _ _) (ez J) fun r h l c=>bq J<|so h▸ni J J
def O5 b p{R}(h:jY b p=some R):dR aY 116 [eg ((rI .u8)) b,tD mi p] (eg ((rI .u8)) R):=(yo _ _ h).spec

def O4 v{R}(h:sr v=some R):dR aY 177 [tD bg v] (tT [eg ((rI .u8)) R.1,bB R.2]):=by
 refine fc Tryz.func177 J<|bc<|fx J<|jm ((rI .u8))<|cO<|br<|bm<|fL di J<|iq h BF (s6 _) (ez J) fun r h=>a8 J<|aB J<|nU J<|c0 h J (fun h=>?_) (fun h=>?_)
 ·exact aB J<|jm ((rI .u8))<|bq J<|au<|so h▸fK J J J
 ·refine jf<|bc<|bG q6 oK b9 J<|s (fH lz uZ (D J))<|m6 (r:=(rI .u8)) (ys:=[(IntKind.u8.wrap v.Kind)]) (xs:=[.tmp 13]) oh qL J J J J J ⟨(D J),aM⟩ J fun l c=>a8 J<|bm<|bG q6 oK b9 J<|br<|aA<|bc<|bU J<|ia J<|aX ?_;refine aG<|jE h J (fun h=>?_) (fun h=>?_)
  ·refine ax<|aR J<|bG rZ rE RU J<|s (fH CK uZ (D J))<|s (ba (r:=(rI .u8)) (ys:=[(IntKind.u8.wrap v.N)]) (xs:=[.tmp 22]) oh qL J J J J J ⟨(D J),aM⟩)<|bL h fun b q_b h=>cY qL J J J J oh J J (D J) (D J) q_b fun l1 c1=>ia J<|aX<|aF<|aG<|aB J<|ia J<|gZ<|du<|bA 2 J<|bA 24 J<|bA 5 J ?_;exact bA 54 J<|fd 2 J<|aZ<|so h▸fK J J J
  ·refine bc<|bU J<|a8 J<|jE h J (fun h=>?_) (fun h=>?_)
   ·refine ax<|aR J<|bG rZ rE RU J<|s (fH CK zG (D J))<|nJ<|j4 14 J<|j4 5 J<|j4 27 J<|tE h HA (yo _ _) ⟨(rq (D J)),(D J),aM⟩ fun r1 h l2 c2=>ia J<|aX<|aF<|aG<|aB J<|ia J<|gZ<|du ?_;exact bA 2 J<|bA 5 J<|bA 31 J<|bA 54 J<|fd 2 J<|aZ<|aZ<|so h▸fK J J J
   ·refine bc<|bU J<|a8 J<|jE h J (fun h=>?_) (fun h=>?_)
    ·refine bL h fun l3 q_l3 h=>?_
     refine iX 9 [tc (Z (av l c (([(IntKind.u8.wrap v.Kind)]).length))),tc (dk rS v.S),tc (tD rS v.S),tc (nL v.S),tc (tD (rI .u8) (IntKind.u8.wrap (v.S.length:Int))),tc (eg ((rI .u8)) ([(IntKind.u8.wrap (v.S.length:Int))])),([6],fun ae=>Z (av ((ae.getD 0 jQ).h 0).1 ((ae.getD 0 jQ).h 0).2 l3.length)),tc (dk rS v.S),tc (tD rS v.S)] [false,false,false,false,false,false,true,false,false] [fun _=>[dr (rI .u8) 5 l c ([(IntKind.u8.wrap v.Kind)])],fun sg=>[dr (rI .u8) 5 ((sg 6).h 0).1 ((sg 6).h 0).2 l3]] J mixed J J J J J
      ⟨⟨[⟨5,fun _=>Z (av l c (([(IntKind.u8.wrap v.Kind)]).length)),none⟩],_,0,0,J,⟨(fun _=>J),aM⟩,J,J,J,J,J,fun _ sg _ _=>ac J (mn J)⟩,
      ⟨⟨[⟨1,fun _=>dk bg v,none⟩],_,0,0,J,⟨(fun _=>J),aM⟩,J,J,J,J,J,fun _ sg _ _=>ac J (xm wH rD J J)⟩,
      ⟨⟨[⟨35,fun _=>dk rS v.S,some 1⟩],_,0,0,J,⟨(fun _=>J),aM⟩,J,J,J,J,J,fun _ sg _ _=>ac J (Eb WM J J)⟩,
      ⟨⟨[⟨36,fun _=>tD rS v.S,some 2⟩],_,0,0,J,⟨(fun _=>J),aM⟩,J,J,J,J,J,fun _ sg _ _=>ac J (DC FS (D J))⟩,
      ⟨⟨[⟨37,fun _=>tD bP (v.S.length:Int),some 3⟩],_,0,0,J,⟨(fun _=>J),aM⟩,J,J,J,J,J,fun _ sg _ _=>ac J (fH lz uZ (D J))⟩,
      ⟨⟨[⟨38,fun _=>tD (rI .u8) (IntKind.u8.wrap (v.S.length:Int)),some 4⟩],_,0,0,J,⟨(fun _=>J),aM⟩,J,J,J,J,J,fun _ sg _ _=>ac J (ba (r:=(rI .u8)) (ys:=[(IntKind.u8.wrap (v.S.length:Int))]) (xs:=[.tmp 38]) oh qL J J J J J ⟨(D J),aM⟩)⟩,
      ⟨⟨[⟨34,fun _=>Z (av l c (([(IntKind.u8.wrap v.Kind)]).length)),some 0⟩,⟨39,fun _=>tD JI ([(IntKind.u8.wrap (v.S.length:Int))]),some 5⟩],_,J,⟨(fun _=>J),(fun _=>J),aM⟩,J,J,J,fun sg=>bY J (uQ qL J J J J oh J (D J) (D J) q_l3)⟩,
      ⟨⟨[⟨1,fun _=>dk bg v,none⟩],_,0,1,J,⟨(fun _=>J),aM⟩,J,J,J,J,J,fun _ sg _ _=>ac J (xm wH rD J J)⟩,
      ⟨⟨[⟨41,fun _=>dk rS v.S,some 7⟩],_,0,1,J,⟨(fun _=>J),aM⟩,J,J,J,J,J,fun _ sg _ _=>ac J (Eb WM J J)⟩,
      aM⟩⟩⟩⟩⟩⟩⟩⟩⟩ (fun sg=>?_)
     refine(show RG _ _ _ _ [_] _ from ?_);exact bL h fun b1 q_b1 h=>NK qL J J oh FS J (D J) (D J) q_b1 fun l4 c3=>ia J<|aX<|aF<|aG<|aB J<|ia J<|gZ<|du<|bA 2 J<|bA 43 J<|bA 5 J<|bA 54 J<|fd 2 J<|aZ<|so h▸fK J J J
    ·refine bc<|bU J<|a8 J<|jE h J (fun h=>?_) (fun h=>?_)
     ·refine Rf<|FO 14 J<|FO 5 J<|bL h fun r2 q_r2 h=>bL h fun r3 q_r3 h=>?_
      refine lx (ts:=[_,_,_,_,_,_,_,_,_]) mixed J J
       ⟨iH J J,
       ⟨LZ 1 J J (xm rZ rE J J),
       ⟨vo 1 RU J J,
       ⟨gE 48 2 J J (fH CK zG (D J)),
       ⟨kV 46 0 49 3 J J J (dz HA (O5 _ _ q_r2) ⟨(rq (D J)),(D J),aM⟩),
       ⟨LZ 1 J J (xm IX Fa J J),
       ⟨vo 5 pN J J,
       ⟨kV 50 4 52 6 J J J (dz HA (O5 _ _ q_r3) ⟨(D J),(D J),aM⟩),
       ⟨gE 53 7 J J (LS J),
       aM⟩⟩⟩⟩⟩⟩⟩⟩⟩ ?_
      exact aF<|aG<|aB J<|ia J<|gZ<|aZ<|so h▸fK J J J
     ·exact bE<|aF<|aG<|aB J<|ia J<|gZ<|du<|bA 2 J<|bA 14 J<|bA 5 J<|bA 54 J<|fd 2 J<|aZ<|so h▸fK J J J

def I5(b:Nat)(ix:OI) w1 e{R}(h:iP w1 e=some R):bk aY 130 [Z (M b 0),tD cW e] (fm b w1 ix) (fun _:OI=>tT []) (fun j=>fm b R j):=by
 refine bk.of Tryz.func130 J J J fun w0 S0=>?_;refine(show CG _ _ _ [Q (rH cX [(0,av (ix.h 0).1 (ix.h 0).2 w1.bytes.length)]) 60 b w1,tip (rI .u8) 5 (ix.h 0).1 (ix.h 0).2 w1.bytes] _ from ?_);refine bc<|fx J<|br<|aU<|bL h fun r q_r h=>?_
 refine iX 10 [tc (Z (M b 0)),tc (Z (M b 0)),tc (Z (M b 0)),tc (Z (M b 0)),tc (tO (rI .u8) (ix.h 0).1 (ix.h 0).2 w1.bytes),tc (dk (ga bC) e.Nodes),tc (eg (bC) e.Nodes),tc (nL e.Nodes),tc (tD HU (IntKind.u16.wrap (e.Nodes.length:Int))),([9],fun ae=>tO (rI .u8) ((ae.getD 0 jQ).h 0).1 ((ae.getD 0 jQ).h 0).2 r)] [false,false,false,false,false,false,false,false,false,true] [fun _=>[Q (rH cX [(0,av (ix.h 0).1 (ix.h 0).2 w1.bytes.length)]) 60 b w1,tip (rI .u8) 5 (ix.h 0).1 (ix.h 0).2 w1.bytes],fun sg=>[tip (rI .u8) 5 ((sg 9).h 0).1 ((sg 9).h 0).2 r,Q (rH cX [(0,av (ix.h 0).1 (ix.h 0).2 w1.bytes.length)]) 60 b w1,tip (rI .u8) 5 (ix.h 0).1 (ix.h 0).2 w1.bytes]] J mixed J J J J J
  ⟨⟨[⟨0,fun _=>Z (M b 0),none⟩],_,0,1,J,⟨(fun _=>J),aM⟩,J,J,J,J,J,fun _ sg _ _=>ac J (mn J)⟩,
  ⟨⟨[⟨0,fun _=>Z (M b 0),none⟩],_,0,0,J,⟨(fun _=>J),aM⟩,J,J,J,J,J,fun _ sg _ _=>ac J (mn J)⟩,
  ⟨⟨[⟨9,fun _=>Z (M b 0),some 1⟩],_,0,0,J,⟨(fun _=>J),aM⟩,J,J,J,J,J,fun _ sg _ _=>ac J (aC (D J))⟩,
  ⟨⟨[⟨10,fun _=>Z (M b 0),some 2⟩],_,0,0,J,⟨(fun _=>J),aM⟩,J,J,J,J,J,fun _ sg _ _=>ac J (oZ 0 oS J J J)⟩,
  ⟨⟨[⟨11,fun _=>Z (M b 0),some 3⟩],_,0,0,J,⟨(fun _=>J),aM⟩,J,J,J,J,J,nO (fun sg=>ac J (nm qa J (.head _) (.tail _ (.head _)) (D J)))⟩,
  ⟨⟨[⟨3,fun _=>dk cW e,none⟩],_,0,0,J,⟨(fun _=>J),aM⟩,J,J,J,J,J,fun _ sg _ _=>ac J (xm rF kY J J)⟩,
  ⟨⟨[⟨13,fun _=>dk (ga bC) e.Nodes,some 5⟩],_,0,0,J,⟨(fun _=>J),aM⟩,J,J,J,J,J,fun _ sg _ _=>ac J (Eb B2 J J)⟩,
  ⟨⟨[⟨14,fun _=>tD (ga bC) e.Nodes,some 6⟩],_,0,0,J,⟨(fun _=>J),aM⟩,J,J,J,J,J,fun _ sg _ _=>ac J (XD sK J)⟩,
  ⟨⟨[⟨15,fun _=>tD bP (e.Nodes.length:Int),some 7⟩],_,0,0,J,⟨(fun _=>J),aM⟩,J,J,J,J,J,fun _ sg _ _=>ac J (fH lz Gx (D J))⟩,
  ⟨⟨[⟨12,fun _=>tO (rI .u8) (ix.h 0).1 (ix.h 0).2 w1.bytes,some 4⟩,⟨16,fun _=>tD HU (IntKind.u16.wrap (e.Nodes.length:Int)),some 8⟩],_,J,⟨(fun _=>J),(fun _=>J),aM⟩,J,J,J,fun sg=>bY J (vJ (xs:=[.tmp 12,.tmp 16]) (ts:=[tD JI w1.bytes,tD HU (IntKind.u16.wrap (e.Nodes.length:Int))]) Xt (Ln _ _ q_r) ⟨(rq (D J)),(D J),aM⟩)⟩,
  aM⟩⟩⟩⟩⟩⟩⟩⟩⟩⟩ (fun sg=>?_)
 refine(show RG _ _ _ _ [_,_,_] _ from ?_);refine s (aC (D J))<|aW 0 oS J<|fb (EffOK.fr1 (md (hs' :=[(0,av ((sg 9).h 0).1 ((sg 9).h 0).2 r.length)]) (u:=av ((sg 9).h 0).1 ((sg 9).h 0).2 r.length) qa J J m0 J ⟨.inl ⟨J,J,J⟩,aM⟩ (D J) (rq (D J)) (Dm (D J)))) fun i=>?_;refine(show RG _ _ _ _ [_,_,_] _ from ?_);refine cI<|BQ<|br<|bc<|bG rF kY B2 J<|cr sK J<|s (bR hI)<|br<|aA<|bt (k:=21) J fun hN=>bN ?_;refine aV (nu (tV:=fun ls i1 ob l c=>(e.Nodes.drop i1=ls)/\dY ls ob=some R) (Of:=fun _ i1 ob l c=>[Q (rH cX [(0,av l c ob.bytes.length)]) 60 b ob,tip (rI .u8) 5 l c ob.bytes]) (Gf:=fun _ i1 ob l c=>[(0,Z (M b 0)),(21,eg (bC) e.Nodes),(22,nL e.Nodes),(23,bB (i1:Int))]) (fun i1 ob l c h=>?_) (fun e1 tl ih i1 ob l c h=>?_) e.Nodes 0 ({w1 with bytes:=r}:aT) ((sg 9).h 0).1 ((sg 9).h 0).2 ⟨J,h⟩) (bp J)
 ·obtain⟨V,h⟩:=h
  exact fv V J<|ah<|ah<|so h▸eV J (rf [(l,c)]) J J
 ·obtain⟨V,h⟩:=h
  refine ft V J<|aU<|aA<|bc<|fV sK jC J (eK V)<|bv jC se J fun b1=>bw jC aw J<|be 5 J<|br<|aB J ?_;refine bG mv gy b9 J<|s (ba (r:=bP) (ys:=[e1.Tag]) (xs:=[.tmp 29]) fD b9 J J J J J ⟨(D J),aM⟩)<|bL h fun r1 q_r1 h=>aL (EffOK.fr1 (EffOK.fr1 (an (xs:=[.tmp 27,.tmp 30]) (ts:=[Z (M b 0),pF ([e1.Tag])]) (fm b ob (rf [(l,c)])) _ J xl (rk b (rf [(l,c)]) ob _ q_r1) ⟨(D J),(D J),aM⟩ (fun _=>J)))) J fun i2=>?_;refine(show RG _ _ _ _ [_,_] ((31,tT [])::_)from ?_);refine br<|bc<|bG mv gy b9 J<|br<|aA<|bc<|bU J<|a8 J<|jE h J (fun h=>?_) (fun h=>?_)
  ·refine ax<|aR J<|bG uN oP b9 J<|s (ba (r:=bP) (ys:=[e1.Col]) (xs:=[.tmp 38]) fD b9 J J J J J ⟨(D J),aM⟩)<|bL h fun r2 q_r2 h=>aL (EffOK.fr1 (EffOK.fr1 (an (xs:=[.tmp 36,.tmp 39]) (ts:=[Z (M b 0),pF ([e1.Col])]) (fm b r1 i2) _ J xl (rk b i2 r1 _ q_r2) ⟨(D J),(D J),aM⟩ (fun _=>J)))) J fun i3=>?_;refine(show RG _ _ _ _ [_,_] ((40,tT [])::_)from ?_);refine aX<|aF<|d6 V hN J ?_;exact bj (aV (ih (i1+1) r2 (i3.h 0).1 (i3.h 0).2 ⟨dZ V,h⟩) (bp J))
  ·refine bc<|bU J<|a8 J<|jE h J (fun h=>?_) (fun h=>?_)
   ·refine bc<|bG wG qh di J<|iq h Xr (O4 _) (ez J) fun r3 h=>aR J<|ei J J<|ei J J<|ia J<|a8 J<|ax<|aR J<|aR J<|s (aC (D J))<|aW 0 oS J<|s (nm qa J (.head _) (.tail _ (.head _)) (D J))<|aR J<|cN<|bL h fun l1 q_l1 h=>wQ qL J J J J oh J J (D J) (D J) q_l1 fun l2 c1=>s (aC (D J)) ?_;refine aW 0 oS J<|fb (EffOK.fr1 (md (hs' :=[(0,av l2 c1 l1.length)]) (u:=av l2 c1 l1.length) qa J J m0 J ⟨.inl ⟨J,J,J⟩,aM⟩ (D J) (rq (D J)) (Dm (D J)))) fun i4=>?_;refine(show RG _ _ _ _ [_,_] _ from ?_);refine aX<|aF<|d6 V hN J ?_;exact bj (aV (ih (i1+1) ({r1 with bytes:=l1}:aT) l2 c1 ⟨dZ V,h⟩) (bp J))
   ·refine bE<|aF<|d6 V hN J ?_;exact bj (aV (ih (i1+1) r1 (i2.h 0).1 (i2.h 0).2 ⟨dZ V,h⟩) (bp J))

def aa6(b:Nat)(ix:OI) w1 n{R}(h:iO w1 n=some R):bk aY 85 [Z (M b 0),tD bl n] (fm b w1 ix) (fun _:OI=>tT []) (fun j=>fm b R j):=by
 refine bk.of Tryz.func85 J J J fun w0 S0=>?_;refine(show CG _ _ _ [Q (rH cX [(0,av (ix.h 0).1 (ix.h 0).2 w1.bytes.length)]) 60 b w1,tip (rI .u8) 5 (ix.h 0).1 (ix.h 0).2 w1.bytes] _ from ?_);refine bc<|fx J<|br<|aB J<|bG Fh wv Aw J<|bL h fun r q_r h=>aL (EffOK.fr1 (EffOK.fr1 (an (xs:=[.tmp 4,.tmp 6]) (ts:=[Z (M b 0),gR n.Left]) (fm b w1 ix) _ J Wn (OX b ix w1 _ q_r) ⟨(D J),(D J),aM⟩ (fun _=>J)))) J fun i=>?_;refine(show RG _ _ _ _ [_,_] ((7,tT [])::_)from ?_);refine br<|ax<|aR J<|bG ve oN lc J<|bL h fun r1 q_r1 h=>aL (EffOK.fr1 (EffOK.fr1 (an (xs:=[.tmp 8,.tmp 10]) (ts:=[Z (M b 0),tD cW n.Cond]) (fm b r i) _ J Pf (I5 b i r _ q_r1) ⟨(D J),(D J),aM⟩ (fun _=>J)))) J fun i1=>?_;refine(show RG _ _ _ _ [_,_] ((11,tT [])::_)from ?_);exact aX<|ah<|ah<|so h▸eV J i1 J J

def aa5(b:Nat)(ix:OI) w1 n{R}(h:gQ w1 n=some R):bk aY 86 [Z (M b 0),tD bl n] (fm b w1 ix) (fun _:OI=>tT []) (fun j=>fm b R j):=by
 refine bk.of Tryz.func86 J J J fun w0 S0=>?_;refine(show CG _ _ _ [Q (rH cX [(0,av (ix.h 0).1 (ix.h 0).2 w1.bytes.length)]) 60 b w1,tip (rI .u8) 5 (ix.h 0).1 (ix.h 0).2 w1.bytes] _ from ?_);refine bc<|fx J<|br<|ax<|aR J<|bG ve oN lc J<|bL h fun r q_r h=>aL (EffOK.fr1 (EffOK.fr1 (an (xs:=[.tmp 4,.tmp 6]) (ts:=[Z (M b 0),tD cW n.Cond]) (fm b w1 ix) _ J Pf (I5 b ix w1 _ q_r) ⟨(D J),(D J),aM⟩ (fun _=>J)))) J fun i=>?_;refine(show RG _ _ _ _ [_,_] ((7,tT [])::_)from ?_);exact aX<|ah<|ah<|so h▸eV J i J J

def Tj(b:Nat)(ix:OI) w1 n{R}(h:ed w1 n=some R):bk aY 87 [Z (M b 0),tD bl n] (fm b w1 ix) (fun _:OI=>tT []) (fun j=>fm b R j):=by
 refine bk.of Tryz.func87 J J J fun w0 S0=>?_;refine(show CG _ _ _ [Q (rH cX [(0,av (ix.h 0).1 (ix.h 0).2 w1.bytes.length)]) 60 b w1,tip (rI .u8) 5 (ix.h 0).1 (ix.h 0).2 w1.bytes] _ from ?_);refine bc<|fx J<|br<|aB J<|bG qj iU dc J<|bL h fun r q_r h=>aL (EffOK.fr1 (EffOK.fr1 (an (xs:=[.tmp 6,.tmp 8]) (ts:=[Z (M b 0),pF n.Keys]) (fm b w1 ix) _ J ZA (Ti b ix w1 _ q_r) ⟨(D J),(D J),aM⟩ (fun _=>J)))) J fun i=>?_;refine(show RG _ _ _ _ [_,_] ((9,tT [])::_)from ?_);refine br<|aB J<|bG nT gx xh J<|cr qG J<|s (ba (r:=bP) (ys:=[(n.Aggs.length:Int)]) (xs:=[.tmp 13]) fD b9 J J J J J ⟨(D J),aM⟩)<|bL h fun r1 q_r1 h=>aL (EffOK.fr1 (EffOK.fr1 (an (xs:=[.tmp 10,.tmp 14]) (ts:=[Z (M b 0),pF ([(n.Aggs.length:Int)])]) (fm b r i) _ J xl (rk b i r _ q_r1) ⟨(D J),(D J),aM⟩ (fun _=>J)))) J fun i1=>?_;refine(show RG _ _ _ _ [_,_] ((15,tT [])::_)from ?_);refine br<|bc<|bG nT gx xh J<|cr qG J<|s (bR hI)<|br<|aA<|bt (k:=17) J fun hN=>bN ?_;refine aV (nu (tV:=fun ls i2 ob l c=>(n.Aggs.drop i2=ls)/\hD ls ob=some R) (Of:=fun _ i2 ob l c=>[Q (rH cX [(0,av l c ob.bytes.length)]) 60 b ob,tip (rI .u8) 5 l c ob.bytes]) (Gf:=fun _ i2 ob l c=>[(0,Z (M b 0)),(17,eg (fN) n.Aggs),(18,nL n.Aggs),(19,bB (i2:Int))]) (fun i2 ob l c h=>?_) (fun e tl ih i2 ob l c h=>?_) n.Aggs 0 r1 (i1.h 0).1 (i1.h 0).2 ⟨J,h⟩) (bp J)
 ·obtain⟨V,h⟩:=h
  exact fv V J<|ah<|ah<|so h▸eV J (rf [(l,c)]) J J
 ·obtain⟨V,h⟩:=h
  refine ft V J<|aU<|aA<|bc<|fV qG kR J (eK V)<|bv kR u0 J fun b1=>bw kR aw J<|be 5 J<|br<|aB J ?_;refine bG px mR b9 J<|s (ba (r:=bP) (ys:=[e.Tag]) (xs:=[.tmp 25]) fD b9 J J J J J ⟨(D J),aM⟩)<|bL h fun r2 q_r2 h=>aL (EffOK.fr1 (EffOK.fr1 (an (xs:=[.tmp 23,.tmp 26]) (ts:=[Z (M b 0),pF ([e.Tag])]) (fm b ob (rf [(l,c)])) _ J xl (rk b (rf [(l,c)]) ob _ q_r2) ⟨(D J),(D J),aM⟩ (fun _=>J)))) J fun i3=>?_;refine(show RG _ _ _ _ [_,_] ((27,tT [])::_)from ?_);refine br<|ax<|aR J<|bG s5 q0 lc J<|bL h fun r3 q_r3 h=>aL (EffOK.fr1 (EffOK.fr1 (an (xs:=[.tmp 28,.tmp 30]) (ts:=[Z (M b 0),tD cW e.Arg]) (fm b r2 i3) _ J Pf (I5 b i3 r2 _ q_r3) ⟨(D J),(D J),aM⟩ (fun _=>J)))) J fun i4=>?_;refine(show RG _ _ _ _ [_,_] ((31,tT [])::_)from ?_);refine aX<|d6 V hN J ?_;exact bj (aV (ih (i2+1) r3 (i4.h 0).1 (i4.h 0).2 ⟨dZ V,h⟩) (bp J))

def aa4(b:Nat)(ix:OI) w1 n{R}(h:gv w1 n=some R):bk aY 88 [Z (M b 0),tD bl n] (fm b w1 ix) (fun _:OI=>tT []) (fun j=>fm b R j):=by
 refine bk.of Tryz.func88 J J J fun w0 S0=>?_;refine(show CG _ _ _ [Q (rH cX [(0,av (ix.h 0).1 (ix.h 0).2 w1.bytes.length)]) 60 b w1,tip (rI .u8) 5 (ix.h 0).1 (ix.h 0).2 w1.bytes] _ from ?_);refine bc<|fx J<|br<|aB J<|bG wx oM Ii J<|cr xr J<|s (ba (r:=bP) (ys:=[(n.Items.length:Int)]) (xs:=[.tmp 9]) fD b9 J J J J J ⟨(D J),aM⟩)<|bL h fun r q_r h=>aL (EffOK.fr1 (EffOK.fr1 (an (xs:=[.tmp 6,.tmp 10]) (ts:=[Z (M b 0),pF ([(n.Items.length:Int)])]) (fm b w1 ix) _ J xl (rk b ix w1 _ q_r) ⟨(D J),(D J),aM⟩ (fun _=>J)))) J fun i=>?_;refine(show RG _ _ _ _ [_,_] ((11,tT [])::_)from ?_);refine br<|bc<|bG wx oM Ii J<|cr xr J<|s (bR hI)<|br<|aA<|bt (k:=13) J fun hN=>bN ?_;refine aV (nu (tV:=fun ls i1 ob l c=>(n.Items.drop i1=ls)/\gq ls ob=some R) (Of:=fun _ i1 ob l c=>[Q (rH cX [(0,av l c ob.bytes.length)]) 60 b ob,tip (rI .u8) 5 l c ob.bytes]) (Gf:=fun _ i1 ob l c=>[(0,Z (M b 0)),(13,eg (cW) n.Items),(14,nL n.Items),(15,bB (i1:Int))]) (fun i1 ob l c h=>?_) (fun e tl ih i1 ob l c h=>?_) n.Items 0 r (i.h 0).1 (i.h 0).2 ⟨J,h⟩) (bp J)
 ·obtain⟨V,h⟩:=h
  exact fv V J<|ah<|ah<|so h▸eV J (rf [(l,c)]) J J
 ·obtain⟨V,h⟩:=h
  refine ft V J<|aU<|aA<|bc<|fV xr lc J (eK V)<|bv lc sM J fun b1=>bw lc aw J<|be 5 J<|br<|ax<|aR J<|fL lc J ?_;refine bL h fun r1 q_r1 h=>aL (EffOK.fr1 (EffOK.fr1 (an (xs:=[.tmp 19,.tmp 20]) (ts:=[Z (M b 0),tD cW e]) (fm b ob (rf [(l,c)])) _ J Pf (I5 b (rf [(l,c)]) ob _ q_r1) ⟨(D J),(D J),aM⟩ (fun _=>J)))) J fun i2=>?_;refine(show RG _ _ _ _ [_,_] ((21,tT [])::_)from ?_);refine aX<|d6 V hN J ?_;exact bj (aV (ih (i1+1) r1 (i2.h 0).1 (i2.h 0).2 ⟨dZ V,h⟩) (bp J))

end Go.Proofs.YtdohlidddcgfjaaGreat

