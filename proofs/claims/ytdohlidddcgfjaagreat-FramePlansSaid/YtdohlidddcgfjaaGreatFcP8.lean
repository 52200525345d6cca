/- cE of this claim: P8. -/
import Derived.Test.YtdohlidddcgfjaaGreatFcT
import Derived.Test.YtdohlidddcgfjaaGreatFcP7
set_option linter.all false
namespace Go.Proofs.YtdohlidddcgfjaaGreat
open Go
set_option maxRecDepth 100000

def XB m{R}(h:C1 m=some R):cX bd 29 [tD iC m] (fM R):=by
 refine dK Tryz.func29 J<|d<|dl J<|bm<|bu<|d<|s (bU (show aY _ _ _ ((mI bd Jc qX Wa))from(Rt acw fun x y h=>Xu _ h)))<|bu<|ax J<|aQ E3 BC bB J<|bR h fun r q_r h=>s (mO (args:=Qa) (res:=AZ) (f:=Wa) (x:=((m.From):Int)) (D J) q_r ⟨(D J),aZ⟩)<|Q J<|bR h fun t q_t h=>ae J (bX J)<|ae J (bv E2 BB J J)<|ae J (bq bB J J) ?_
 obtain⟨r1,h1t,h0t⟩:=og q_t
 have q_r1g:=fun H=>(h1t H).1
 refine ae J (fun Y=>mO (args:=Qa) (res:=AZ) (f:=Wa) (x:=((m.To):Int)) (bl J Y) (q_r1g Y) ⟨(bl J Y),aZ⟩)<|s (co (D J) (fun H=>(bl J H)) (fun H=>(h1t H).2) h0t)<|Q J<|ae J (bv Cw yA J J)<|ae J (bq bB J J)<|ae J (fun Y=>dB (bl J Y) hI)<|cm J<|Q J<|ae J (bv Cw yA J J)<|ae J (bq bB J J)<|ae J (fun Y=>eY (bl J Y) hI)<|cm J<|Q J<|bR h fun t1 q_t1 h=>ae J (fun Y=>yT zw J J) ?_
 obtain⟨r2,h1t1,h0t1⟩:=og q_t1
 have q_r2g:=fun H=>(h1t1 H).1
 refine ae J (fun Y=>cD acv (Xt _ (q_r2g Y)) ⟨(bl J Y),aZ⟩)<|s (co (D J) (fun H=>(bl J H)) (fun H=>(h1t1 H).2) h0t1)<|Q J<|bR h fun t2 q_t2 h=>ae J (fun Y=>yT zw J J) ?_
 obtain⟨r3,h1t2,h0t2⟩:=og q_t2
 have q_r3g:=fun H=>(h1t2 H).1
 exact ae J (fun Y=>cD acu (Xs _ (q_r3g Y)) ⟨(bl J Y),aZ⟩)<|s (co (D J) (fun H=>(bl J H)) (fun H=>(h1t2 H).2) h0t2)<|bf J<|so h▸aA J J

def sl(b:Nat)(ix:OI) w1 l{R}(h:cA w1 l=some R):bK bd 59 [M (Z b 0),jK l] (fW b w1 ix) (fun _:OI=>tT []) (fun j=>fW b R j):=by
 refine bK.of Tryz.func59 J J J fun w0 S0=>?_;refine(show CG _ _ _ [bx (rH dc [(0,ay (ix.h 0).1 (ix.h 0).2 w1.bytes.length)]) 60 b w1,tip (rI .u8) 5 (ix.h 0).1 (ix.h 0).2 w1.bytes] _ from ?_);refine ax J<|bI df J<|s (bT hI)<|bu<|ak<|bo (k:=6) J fun hN=>bA ?_;refine aH (jz (aa:=fun ls i ob l1 c=>(l.drop i=ls)/\gz ls ob=some R) (Of:=fun _ i ob l1 c=>[bx (rH dc [(0,ay l1 c ob.bytes.length)]) 60 b ob,tip (rI .u8) 5 l1 c ob.bytes]) (Gf:=fun _ i ob l1 c=>[(0,M (Z b 0)),(6,jK l),(7,kE l),(8,bH (i:Int))]) (fun i ob l1 c h=>?_) (fun e tl ih i ob l1 c h=>?_) l 0 w1 (ix.h 0).1 (ix.h 0).2 ⟨J,h⟩) (aX J)
 ·obtain⟨V,h⟩:=h
  exact ez V J<|am<|am<|so h▸fE J (sj [(l1,c)]) J J
 ·obtain⟨V,h⟩:=h
  refine ew V J<|aP<|ak<|d<|dg df bB J (dJ V)<|aN J<|aj<|Q J<|Q J<|s (aO (D J))<|bh 0 pc J ?_;refine s (nE qF J (.head _) (.tail _ (.head _)) (D J))<|Q J<|s (c0 iL nV (D J))<|s (aI (r:=(rI .u8)) (ys:=[(IntKind.u8.wrap e)]) (xs:=[.tmp 18]) kG me J J J J J ⟨(D J),aZ⟩)<|bY<|bR h fun l2 q_l2 h=>oo me J J J J kG J J (D J) (D J) q_l2 fun l3 c1=>s (aO (D J))<|bh 0 pc J<|fK (EffOK.fr1 (m9 (hs' :=[(0,ay l3 c1 l2.length)]) (u:=ay l3 c1 l2.length) qF J J nS J ⟨.inl ⟨J,J,J⟩,aZ⟩ (D J) (mX (D J)) (xV (D J)))) fun i1=>?_;refine(show RG _ _ _ _ [_,_] _ from ?_);refine aJ<|dd V hN J ?_;exact aU (aH (ih (i+1) ({ob with bytes:=l2}:bg) l3 c1 ⟨da V,h⟩) (aX J))

def RC(b:Nat)(ix:OI) w1 l{R}(h:kP w1 l=some R):bK bd 90 [M (Z b 0),jK l] (fW b w1 ix) (fun _:OI=>tT []) (fun j=>fW b R j):=by
 refine bK.of Tryz.func90 J J J fun w0 S0=>?_;refine(show CG _ _ _ [bx (rH dc [(0,ay (ix.h 0).1 (ix.h 0).2 w1.bytes.length)]) 60 b w1,tip (rI .u8) 5 (ix.h 0).1 (ix.h 0).2 w1.bytes] _ from ?_);refine ax J<|Q J<|bI df J<|s (aI (r:=bV) (ys:=[(l.length:Int)]) (xs:=[.tmp 6]) df bB J J J J J ⟨(D J),aZ⟩)<|bR h fun r q_r h=>br (EffOK.fr1 (EffOK.fr1 (aE (xs:=[.tmp 4,.tmp 7]) (ts:=[M (Z b 0),jK ([(l.length:Int)])]) (fW b w1 ix) _ J xG (sl b ix w1 _ q_r) ⟨(D J),(D J),aZ⟩ (fun _=>J)))) J fun i=>?_;refine(show RG _ _ _ _ [_,_] ((8,tT [])::_)from ?_);refine bu<|aj<|Q J<|Q J<|bR h fun r1 q_r1 h=>br (EffOK.fr1 (EffOK.fr1 (aE (xs:=[.tmp 9,.tmp 10]) (ts:=[M (Z b 0),jK l]) (fW b r i) _ J xG (sl b i r _ q_r1) ⟨(D J),(D J),aZ⟩ (fun _=>J)))) J fun i1=>?_;refine(show RG _ _ _ _ [_,_] ((11,tT [])::_)from ?_);exact aJ<|am<|am<|so h▸fE J i1 J J

def VK(b:Nat)(ix:OI) w1 n{R}(h:fZ w1 n=some R):bK bd 84 [M (Z b 0),tD aM n] (fW b w1 ix) (fun _:OI=>tT []) (fun j=>fW b R j):=by
 refine bK.of Tryz.func84 J J J fun w0 S0=>?_;refine(show CG _ _ _ [bx (rH dc [(0,ay (ix.h 0).1 (ix.h 0).2 w1.bytes.length)]) 60 b w1,tip (rI .u8) 5 (ix.h 0).1 (ix.h 0).2 w1.bytes] _ from ?_);refine d<|dl J<|bu<|ax J<|aQ p6 ip bB J<|s (aI (r:=bV) (ys:=[n.Table]) (xs:=[.tmp 6]) df bB J J J J J ⟨(D J),aZ⟩)<|bR h fun r q_r h=>br (EffOK.fr1 (EffOK.fr1 (aE (xs:=[.tmp 4,.tmp 7]) (ts:=[M (Z b 0),jK ([n.Table])]) (fW b w1 ix) _ J xG (sl b ix w1 _ q_r) ⟨(D J),(D J),aZ⟩ (fun _=>J)))) J fun i=>?_;refine(show RG _ _ _ _ [_,_] ((8,tT [])::_)from ?_);refine bu<|aj<|Q J<|aQ jI dW cu J<|bR h fun r1 q_r1 h=>br (EffOK.fr1 (EffOK.fr1 (aE (xs:=[.tmp 9,.tmp 11]) (ts:=[M (Z b 0),jK n.Kinds]) (fW b r i) _ J Ym (RC b i r _ q_r1) ⟨(D J),(D J),aZ⟩ (fun _=>J)))) J fun i1=>?_;refine(show RG _ _ _ _ [_,_] ((12,tT [])::_)from ?_);exact aJ<|am<|am<|so h▸fE J i1 J J

def Nz(b:Nat)(ix:OI) w1 is1{R}(h:jo w1 is1=some R):bK bd 61 [M (Z b 0),fM is1] (fW b w1 ix) (fun _:OI=>tT []) (fun j=>fW b R j):=by
 refine bK.of Tryz.func61 J J J fun w0 S0=>?_;refine(show CG _ _ _ [bx (rH dc [(0,ay (ix.h 0).1 (ix.h 0).2 w1.bytes.length)]) 60 b w1,tip (rI .u8) 5 (ix.h 0).1 (ix.h 0).2 w1.bytes] _ from ?_);refine d<|ca<|bu ?_;refine d5 (aa:=fun n=>mP w1 n=some R) (Of:=fun n=>[bx (rH dc [(0,ay (ix.h 0).1 (ix.h 0).2 w1.bytes.length)]) 60 b w1,tip (rI .u8) 5 (ix.h 0).1 (ix.h 0).2 w1.bytes]) (Gf:=fun n=>[(0,M (Z b 0)),(4,bH n)]) (fun n h=>?_) (fun h2=>?_)
 ·skip
  refine aj<|Q J<|Q J<|s (aI (r:=bV) (ys:=[n]) (xs:=[.tmp 7]) df bB J J J J J ⟨(D J),aZ⟩)<|bR h fun r q_r h=>br (EffOK.fr1 (EffOK.fr1 (aE (xs:=[.tmp 6,.tmp 8]) (ts:=[M (Z b 0),jK ([n])]) (fW b w1 ix) _ J xG (sl b ix w1 _ q_r) ⟨(D J),(D J),aZ⟩ (fun _=>J)))) J fun i=>?_;refine(show RG _ _ _ _ [_,_] ((9,tT [])::_)from ?_);exact aJ<|am<|am<|so h▸fE J i J J
 ·skip
  refine ax J<|bW h J (fun h=>?_) (fun h=>?_)
  ·refine aj<|ca<|aJ ?_;exact bE (h2 (1:Int) h) (aX J)
  ·refine bc ?_;exact bE (h2 (0:Int) h) (aX J)

def RO b p bytes{R}(h:sJ b p bytes=some R):gm bd 199 [em ((rI .u8)) b,tD Jb p,bH bytes] false (rI .u8) 5 R:=by
 refine gm.of Tryz.func199 J J J fun w0 S0=>d<|ci false (rI .u8) 5<|s (bU tE)<|bu<|ax J<|bI kG J<|Q J<|s (cW (D J) (D J))<|bR h fun mk q_mk h=>br (Cz (r:=(rI .u8)) (x:=(0:Int)) me J J J kG (fun _=>J) hI (D J) q_mk) J fun i=>aN J<|ax J<|Q J<|bR h fun out q_out h=>bD me J J J J kG J J (D J) (D J) q_out fun l c=>?_;refine aN J<|aS<|Q J<|s (bT hI)<|bu<|ak<|bA<|dY<|lu ?_;refine aH (qW (aa:=fun n out1 l1 c1 x=>lg p bytes n out1 x=some R) (Of:=fun out1 l1 c1 x=>[db (rI .u8) 5 l1 c1 out1]) (Gf:=fun out1 l1 c1 x=>[(1,tD Jb p),(2,bH bytes),(7,nO l1 c1 out1),(17,bH bytes),(18,bH x)]) (fun out1 l1 c1 x h=>nn h) (fun n ih out1 l1 c1 x h=>?_) dk out l c (0:Int) h) (aX J);refine cJ<|d<|jC J<|bu<|aP<|fy h J (fun h=>?_) (fun h=>?_)
 ·refine fN<|aP<|ak<|ax J<|aN J<|aj<|Q J<|Q J<|s (c0 I4 vF (D J))<|Q J<|Q J<|s (dP (D J) (D J))<|s (Ch hI (D J))<|s (dP (D J) hI)<|bR h fun u q_u h=>s (Ak (D J) (D J) (Bs q_u))<|s (c0 vF nV (D J))<|s (aI (r:=(rI .u8)) (ys:=[(IntKind.u8.wrap (((IntKind.u64.wrap p)).fdiv (2^(min (Int.toNat (IntKind.i64.wrap ((IntKind.i64.wrap ((8:Int)*(IntKind.i64.wrap (bytes-x))))-(8:Int)))) IntKind.u64.bits))))]) (xs:=[.tmp 30]) kG me J J J J J ⟨(D J),aZ⟩)<|bR h fun out2 q_out2 h=>?_;refine bD me J J J J kG J J (D J) (D J) q_out2 fun l2 c2=>d6 J<|aJ<|al<|au<|aj<|s (cW (D J) hI)<|Q J<|aJ ?_;exact aU (aH (ih out2 l2 c2 (IntKind.i64.wrap (x+(1:Int))) h) (aX J))
 ·exact cQ<|ap<|ap<|bL<|au<|ax J<|bf J<|so h▸fL J J
def Kw b p{R}(h:rm b p=some R):gm bd 159 [em ((rI .u8)) b,tD Jb p] false (rI .u8) 5 R:=by
 exact gm.of Tryz.func159 J J J fun w0 S0=>d<|ci false (rI .u8) 5<|s (bU tE)<|bu<|ax J<|Q J<|ot h aaX (RO _ _ _) (cy J) fun r h l c=>bf J<|so h▸fL J J
def RT b p bytes{R}(h:sH b p bytes=some R):gm bd 157 [em ((rI .u8)) b,tD lA p,bH bytes] false (rI .u8) 5 R:=by
 refine gm.of Tryz.func157 J J J fun w0 S0=>d<|ci false (rI .u8) 5<|s (bU tE)<|bu<|ax J<|bI kG J<|Q J<|s (cW (D J) (D J))<|bR h fun mk q_mk h=>br (Cz (r:=(rI .u8)) (x:=(0:Int)) me J J J kG (fun _=>J) hI (D J) q_mk) J fun i=>aN J<|ax J<|Q J<|bR h fun out q_out h=>bD me J J J J kG J J (D J) (D J) q_out fun l c=>?_;refine aN J<|aS<|Q J<|s (bT hI)<|bu<|ak<|bA<|dY<|lu ?_;refine aH (qW (aa:=fun n out1 l1 c1 x=>eZ p bytes n out1 x=some R) (Of:=fun out1 l1 c1 x=>[db (rI .u8) 5 l1 c1 out1]) (Gf:=fun out1 l1 c1 x=>[(1,tD lA p),(2,bH bytes),(7,nO l1 c1 out1),(17,bH bytes),(18,bH x)]) (fun out1 l1 c1 x h=>nn h) (fun n ih out1 l1 c1 x h=>?_) dk out l c (0:Int) h) (aX J);refine cJ<|d<|jC J<|bu<|aP<|fy h J (fun h=>?_) (fun h=>?_)
 ·refine fN<|aP<|ak<|ax J<|aN J<|aj<|Q J<|Q J<|Q J<|Q J<|s (dP (D J) (D J))<|s (Ch hI (D J))<|s (dP (D J) hI)<|bR h fun u q_u h=>s (Ak (D J) (D J) (Bs q_u))<|s (c0 vF nV (D J))<|s (aI (r:=(rI .u8)) (ys:=[(IntKind.u8.wrap ((p).fdiv (2^(min (Int.toNat (IntKind.i64.wrap ((IntKind.i64.wrap ((8:Int)*(IntKind.i64.wrap (bytes-x))))-(8:Int)))) IntKind.u64.bits))))]) (xs:=[.tmp 29]) kG me J J J J J ⟨(D J),aZ⟩)<|bR h fun out2 q_out2 h=>bD me J J J J kG J J (D J) (D J) q_out2 fun l2 c2=>?_;refine d6 J<|aJ<|al<|au<|aj<|s (cW (D J) hI)<|Q J<|aJ ?_;exact aU (aH (ih out2 l2 c2 (IntKind.i64.wrap (x+(1:Int))) h) (aX J))
 ·exact cQ<|ap<|ap<|bL<|au<|ax J<|bf J<|so h▸fL J J
def yD b p{R}(h:ly b p=some R):gm bd 116 [em ((rI .u8)) b,tD lA p] false (rI .u8) 5 R:=by
 exact gm.of Tryz.func116 J J J fun w0 S0=>d<|ci false (rI .u8) 5<|s (bU tE)<|bu<|ax J<|Q J<|ot h abo (RT _ _ _) (cy J) fun r h l c=>bf J<|so h▸fL J J
def NJ b p{R}(h:ly b p=some R):cX bd 116 [em ((rI .u8)) b,tD lA p] (em ((rI .u8)) R):=(yD _ _ h).spec

def NI v{R}(h:tk v=some R):cX bd 177 [tD bF v] (tT [em ((rI .u8)) R.1,bH R.2]):=by
 refine dK Tryz.func177 J<|d<|dl J<|fO ((rI .u8))<|ca<|bu<|aS<|dH dh J<|eE h BQ (tU _) (cy J) fun r h=>aN J<|ax J<|nP J<|bW h J (fun h=>?_) (fun h=>?_)
 ·exact ax J<|fO ((rI .u8))<|bf J<|af<|so h▸cg J J J
 ·refine fN<|d<|aQ mT js bB J<|s (c0 iL nV (D J))<|kD (r:=(rI .u8)) (ys:=[(IntKind.u8.wrap v.Kind)]) (xs:=[.tmp 13]) kG me J J J J J ⟨(D J),aZ⟩ J fun l c=>aN J<|aS<|aQ mT js bB J<|bu<|ak<|d<|bp J<|d6 J<|aJ ?_;refine au<|fy h J (fun h=>?_) (fun h=>?_)
  ·refine aj<|Q J<|aQ nl kZ Jr J<|s (c0 DH nV (D J))<|s (aI (r:=(rI .u8)) (ys:=[(IntKind.u8.wrap v.N)]) (xs:=[.tmp 22]) kG me J J J J J ⟨(D J),aZ⟩)<|bR h fun b q_b h=>bD me J J J J kG J J (D J) (D J) q_b fun l1 c1=>d6 J<|aJ<|al<|au<|ax J<|d6 J<|eg<|dq<|bP 2 J<|bP 24 J<|bP 5 J ?_;exact bP 54 J<|eW 2 J<|aV<|so h▸cg J J J
  ·refine d<|bp J<|aN J<|fy h J (fun h=>?_) (fun h=>?_)
   ·refine aj<|Q J<|aQ nl kZ Jr J<|s (c0 DH vF (D J))<|ic<|fT 14 J<|fT 5 J<|fT 27 J<|ot h Hm (yD _ _) ⟨(mX (D J)),(D J),aZ⟩ fun r1 h l2 c2=>d6 J<|aJ<|al<|au<|ax J<|d6 J<|eg<|dq ?_;exact bP 2 J<|bP 5 J<|bP 31 J<|bP 54 J<|eW 2 J<|aV<|aV<|so h▸cg J J J
   ·refine d<|bp J<|aN J<|fy h J (fun h=>?_) (fun h=>?_)
    ·refine bR h fun l3 q_l3 h=>?_
     refine ja 9 [tc (M (ay l c (([(IntKind.u8.wrap v.Kind)]).length))),tc (ck rS v.S),tc (tD rS v.S),tc (kE v.S),tc (tD (rI .u8) (IntKind.u8.wrap (v.S.length:Int))),tc (em ((rI .u8)) ([(IntKind.u8.wrap (v.S.length:Int))])),([6],fun ac=>M (ay ((ac.getD 0 ml).h 0).1 ((ac.getD 0 ml).h 0).2 l3.length)),tc (ck rS v.S),tc (tD rS v.S)] [false,false,false,false,false,false,true,false,false] [fun _=>[db (rI .u8) 5 l c ([(IntKind.u8.wrap v.Kind)])],fun sg=>[db (rI .u8) 5 ((sg 6).h 0).1 ((sg 6).h 0).2 l3]] J mixed J J J J J
      ⟨⟨[⟨5,fun _=>M (ay l c (([(IntKind.u8.wrap v.Kind)]).length)),none⟩],_,0,0,J,⟨(fun _=>J),aZ⟩,J,J,J,J,J,fun _ sg _ _=>ai J (mt J)⟩,
      ⟨⟨[⟨1,fun _=>ck bF v,none⟩],_,0,0,J,⟨(fun _=>J),aZ⟩,J,J,J,J,J,fun _ sg _ _=>ai J (oq qS lZ J J)⟩,
      ⟨⟨[⟨35,fun _=>ck rS v.S,some 1⟩],_,0,0,J,⟨(fun _=>J),aZ⟩,J,J,J,J,J,fun _ sg _ _=>ai J (yT Ow J J)⟩,
      ⟨⟨[⟨36,fun _=>tD rS v.S,some 2⟩],_,0,0,J,⟨(fun _=>J),aZ⟩,J,J,J,J,J,fun _ sg _ _=>ai J (Bi Df (D J))⟩,
      ⟨⟨[⟨37,fun _=>tD bV (v.S.length:Int),some 3⟩],_,0,0,J,⟨(fun _=>J),aZ⟩,J,J,J,J,J,fun _ sg _ _=>ai J (c0 iL nV (D J))⟩,
      ⟨⟨[⟨38,fun _=>tD (rI .u8) (IntKind.u8.wrap (v.S.length:Int)),some 4⟩],_,0,0,J,⟨(fun _=>J),aZ⟩,J,J,J,J,J,fun _ sg _ _=>ai J (aI (r:=(rI .u8)) (ys:=[(IntKind.u8.wrap (v.S.length:Int))]) (xs:=[.tmp 38]) kG me J J J J J ⟨(D J),aZ⟩)⟩,
      ⟨⟨[⟨34,fun _=>M (ay l c (([(IntKind.u8.wrap v.Kind)]).length)),some 0⟩,⟨39,fun _=>tD FN ([(IntKind.u8.wrap (v.S.length:Int))]),some 5⟩],_,J,⟨(fun _=>J),(fun _=>J),aZ⟩,J,J,J,fun sg=>cP J (rr me J J J J kG J (D J) (D J) q_l3)⟩,
      ⟨⟨[⟨1,fun _=>ck bF v,none⟩],_,0,1,J,⟨(fun _=>J),aZ⟩,J,J,J,J,J,fun _ sg _ _=>ai J (oq qS lZ J J)⟩,
      ⟨⟨[⟨41,fun _=>ck rS v.S,some 7⟩],_,0,1,J,⟨(fun _=>J),aZ⟩,J,J,J,J,J,fun _ sg _ _=>ai J (yT Ow J J)⟩,
      aZ⟩⟩⟩⟩⟩⟩⟩⟩⟩ (fun sg=>?_)
     refine(show RG _ _ _ _ [_] _ from ?_);exact bR h fun b1 q_b1 h=>Fv me J J kG Df J (D J) (D J) q_b1 fun l4 c3=>d6 J<|aJ<|al<|au<|ax J<|d6 J<|eg<|dq<|bP 2 J<|bP 43 J<|bP 5 J<|bP 54 J<|eW 2 J<|aV<|so h▸cg J J J
    ·refine d<|bp J<|aN J<|fy h J (fun h=>?_) (fun h=>?_)
     ·refine PN<|FE 14 J<|FE 5 J<|bR h fun r2 q_r2 h=>bR h fun r3 q_r3 h=>?_
      refine gO (ts:=[_,_,_,_,_,_,_,_,_]) mixed J J
       ⟨fP J J,
       ⟨zZ 1 J J (oq nl kZ J J),
       ⟨lK 1 Jr J J,
       ⟨ff 48 2 J J (c0 DH vF (D J)),
       ⟨ga 46 0 49 3 J J J (cD Hm (NJ _ _ q_r2) ⟨(mX (D J)),(D J),aZ⟩),
       ⟨zZ 1 J J (oq xd sL J J),
       ⟨lK 5 qf J J,
       ⟨ga 50 4 52 6 J J J (cD Hm (NJ _ _ q_r3) ⟨(D J),(D J),aZ⟩),
       ⟨ff 53 7 J J (DX J),
       aZ⟩⟩⟩⟩⟩⟩⟩⟩⟩ ?_
      exact al<|au<|ax J<|d6 J<|eg<|aV<|so h▸cg J J J
     ·exact bc<|al<|au<|ax J<|d6 J<|eg<|dq<|bP 2 J<|bP 14 J<|bP 5 J<|bP 54 J<|eW 2 J<|aV<|so h▸cg J J J

def IE(b:Nat)(ix:OI) w1 e{R}(h:jp w1 e=some R):bK bd 130 [M (Z b 0),tD bN e] (fW b w1 ix) (fun _:OI=>tT []) (fun j=>fW b R j):=by
 refine bK.of Tryz.func130 J J J fun w0 S0=>?_;refine(show CG _ _ _ [bx (rH dc [(0,ay (ix.h 0).1 (ix.h 0).2 w1.bytes.length)]) 60 b w1,tip (rI .u8) 5 (ix.h 0).1 (ix.h 0).2 w1.bytes] _ from ?_);refine d<|dl J<|bu<|aP<|bR h fun r q_r h=>?_
 refine ja 10 [tc (M (Z b 0)),tc (M (Z b 0)),tc (M (Z b 0)),tc (M (Z b 0)),tc (tO (rI .u8) (ix.h 0).1 (ix.h 0).2 w1.bytes),tc (ck (f6 bt) e.Nodes),tc (em (bt) e.Nodes),tc (kE e.Nodes),tc (tD Jb (IntKind.u16.wrap (e.Nodes.length:Int))),([9],fun ac=>tO (rI .u8) ((ac.getD 0 ml).h 0).1 ((ac.getD 0 ml).h 0).2 r)] [false,false,false,false,false,false,false,false,false,true] [fun _=>[bx (rH dc [(0,ay (ix.h 0).1 (ix.h 0).2 w1.bytes.length)]) 60 b w1,tip (rI .u8) 5 (ix.h 0).1 (ix.h 0).2 w1.bytes],fun sg=>[tip (rI .u8) 5 ((sg 9).h 0).1 ((sg 9).h 0).2 r,bx (rH dc [(0,ay (ix.h 0).1 (ix.h 0).2 w1.bytes.length)]) 60 b w1,tip (rI .u8) 5 (ix.h 0).1 (ix.h 0).2 w1.bytes]] J mixed J J J J J
  ⟨⟨[⟨0,fun _=>M (Z b 0),none⟩],_,0,1,J,⟨(fun _=>J),aZ⟩,J,J,J,J,J,fun _ sg _ _=>ai J (mt J)⟩,
  ⟨⟨[⟨0,fun _=>M (Z b 0),none⟩],_,0,0,J,⟨(fun _=>J),aZ⟩,J,J,J,J,J,fun _ sg _ _=>ai J (mt J)⟩,
  ⟨⟨[⟨9,fun _=>M (Z b 0),some 1⟩],_,0,0,J,⟨(fun _=>J),aZ⟩,J,J,J,J,J,fun _ sg _ _=>ai J (aO (D J))⟩,
  ⟨⟨[⟨10,fun _=>M (Z b 0),some 2⟩],_,0,0,J,⟨(fun _=>J),aZ⟩,J,J,J,J,J,fun _ sg _ _=>ai J (q9 0 pc J J J)⟩,
  ⟨⟨[⟨11,fun _=>M (Z b 0),some 3⟩],_,0,0,J,⟨(fun _=>J),aZ⟩,J,J,J,J,J,py (fun sg=>ai J (nE qF J (.head _) (.tail _ (.head _)) (D J)))⟩,
  ⟨⟨[⟨3,fun _=>ck bN e,none⟩],_,0,0,J,⟨(fun _=>J),aZ⟩,J,J,J,J,J,fun _ sg _ _=>ai J (oq f7 dw J J)⟩,
  ⟨⟨[⟨13,fun _=>ck (f6 bt) e.Nodes,some 5⟩],_,0,0,J,⟨(fun _=>J),aZ⟩,J,J,J,J,J,fun _ sg _ _=>ai J (yT nM J J)⟩,
  ⟨⟨[⟨14,fun _=>tD (f6 bt) e.Nodes,some 6⟩],_,0,0,J,⟨(fun _=>J),aZ⟩,J,J,J,J,J,fun _ sg _ _=>ai J (ST j5 J)⟩,
  ⟨⟨[⟨15,fun _=>tD bV (e.Nodes.length:Int),some 7⟩],_,0,0,J,⟨(fun _=>J),aZ⟩,J,J,J,J,J,fun _ sg _ _=>ai J (c0 iL I4 (D J))⟩,
  ⟨⟨[⟨12,fun _=>tO (rI .u8) (ix.h 0).1 (ix.h 0).2 w1.bytes,some 4⟩,⟨16,fun _=>tD Jb (IntKind.u16.wrap (e.Nodes.length:Int)),some 8⟩],_,J,⟨(fun _=>J),(fun _=>J),aZ⟩,J,J,J,fun sg=>cP J (wv (xs:=[.tmp 12,.tmp 16]) (ts:=[tD FN w1.bytes,tD Jb (IntKind.u16.wrap (e.Nodes.length:Int))]) V2 (Kw _ _ q_r) ⟨(mX (D J)),(D J),aZ⟩)⟩,
  aZ⟩⟩⟩⟩⟩⟩⟩⟩⟩⟩ (fun sg=>?_)
 refine(show RG _ _ _ _ [_,_,_] _ from ?_);refine s (aO (D J))<|bh 0 pc J<|fK (EffOK.fr1 (m9 (hs' :=[(0,ay ((sg 9).h 0).1 ((sg 9).h 0).2 r.length)]) (u:=ay ((sg 9).h 0).1 ((sg 9).h 0).2 r.length) qF J J nS J ⟨.inl ⟨J,J,J⟩,aZ⟩ (D J) (mX (D J)) (xV (D J)))) fun i=>?_;refine(show RG _ _ _ _ [_,_,_] _ from ?_);refine cZ<|zh<|bu<|d<|aQ f7 dw nM J<|bI j5 J<|s (bT hI)<|bu<|ak<|bo (k:=21) J fun hN=>bA ?_;refine aH (jz (aa:=fun ls i1 ob l c=>(e.Nodes.drop i1=ls)/\eI ls ob=some R) (Of:=fun _ i1 ob l c=>[bx (rH dc [(0,ay l c ob.bytes.length)]) 60 b ob,tip (rI .u8) 5 l c ob.bytes]) (Gf:=fun _ i1 ob l c=>[(0,M (Z b 0)),(21,em (bt) e.Nodes),(22,kE e.Nodes),(23,bH (i1:Int))]) (fun i1 ob l c h=>?_) (fun e1 tl ih i1 ob l c h=>?_) e.Nodes 0 ({w1 with bytes:=r}:bg) ((sg 9).h 0).1 ((sg 9).h 0).2 ⟨J,h⟩) (aX J)
 ·obtain⟨V,h⟩:=h
  exact ez V J<|am<|am<|so h▸fE J (sj [(l,c)]) J J
 ·obtain⟨V,h⟩:=h
  refine ew V J<|aP<|ak<|d<|dg j5 eo J (dJ V)<|bz eo lc J fun b1=>bO eo aB J<|bj 5 J<|bu<|ax J ?_;refine aQ iJ ef bB J<|s (aI (r:=bV) (ys:=[e1.Tag]) (xs:=[.tmp 29]) df bB J J J J J ⟨(D J),aZ⟩)<|bR h fun r1 q_r1 h=>br (EffOK.fr1 (EffOK.fr1 (aE (xs:=[.tmp 27,.tmp 30]) (ts:=[M (Z b 0),jK ([e1.Tag])]) (fW b ob (sj [(l,c)])) _ J xG (sl b (sj [(l,c)]) ob _ q_r1) ⟨(D J),(D J),aZ⟩ (fun _=>J)))) J fun i2=>?_;refine(show RG _ _ _ _ [_,_] ((31,tT [])::_)from ?_);refine bu<|d<|aQ iJ ef bB J<|bu<|ak<|d<|bp J<|aN J<|fy h J (fun h=>?_) (fun h=>?_)
  ·refine aj<|Q J<|aQ od iR bB J<|s (aI (r:=bV) (ys:=[e1.Col]) (xs:=[.tmp 38]) df bB J J J J J ⟨(D J),aZ⟩)<|bR h fun r2 q_r2 h=>br (EffOK.fr1 (EffOK.fr1 (aE (xs:=[.tmp 36,.tmp 39]) (ts:=[M (Z b 0),jK ([e1.Col])]) (fW b r1 i2) _ J xG (sl b i2 r1 _ q_r2) ⟨(D J),(D J),aZ⟩ (fun _=>J)))) J fun i3=>?_;refine(show RG _ _ _ _ [_,_] ((40,tT [])::_)from ?_);refine aJ<|al<|dd V hN J ?_;exact aU (aH (ih (i1+1) r2 (i3.h 0).1 (i3.h 0).2 ⟨da V,h⟩) (aX J))
  ·refine d<|bp J<|aN J<|fy h J (fun h=>?_) (fun h=>?_)
   ·refine d<|aQ qR k7 dh J<|eE h V0 (NI _) (cy J) fun r3 h=>Q J<|dz J J<|dz J J<|d6 J<|aN J<|aj<|Q J<|Q J<|s (aO (D J))<|bh 0 pc J<|s (nE qF J (.head _) (.tail _ (.head _)) (D J))<|Q J<|bY<|bR h fun l1 q_l1 h=>oo me J J J J kG J J (D J) (D J) q_l1 fun l2 c1=>s (aO (D J)) ?_;refine bh 0 pc J<|fK (EffOK.fr1 (m9 (hs' :=[(0,ay l2 c1 l1.length)]) (u:=ay l2 c1 l1.length) qF J J nS J ⟨.inl ⟨J,J,J⟩,aZ⟩ (D J) (mX (D J)) (xV (D J)))) fun i4=>?_;refine(show RG _ _ _ _ [_,_] _ from ?_);refine aJ<|al<|dd V hN J ?_;exact aU (aH (ih (i1+1) ({r1 with bytes:=l1}:bg) l2 c1 ⟨da V,h⟩) (aX J))
   ·refine bc<|al<|dd V hN J ?_;exact aU (aH (ih (i1+1) r1 (i2.h 0).1 (i2.h 0).2 ⟨da V,h⟩) (aX J))

def ZT(b:Nat)(ix:OI) w1 n{R}(h:jn w1 n=some R):bK bd 85 [M (Z b 0),tD aM n] (fW b w1 ix) (fun _:OI=>tT []) (fun j=>fW b R j):=by
 refine bK.of Tryz.func85 J J J fun w0 S0=>?_;refine(show CG _ _ _ [bx (rH dc [(0,ay (ix.h 0).1 (ix.h 0).2 w1.bytes.length)]) 60 b w1,tip (rI .u8) 5 (ix.h 0).1 (ix.h 0).2 w1.bytes] _ from ?_);refine d<|dl J<|bu<|ax J<|aQ xa pX zF J<|bR h fun r q_r h=>br (EffOK.fr1 (EffOK.fr1 (aE (xs:=[.tmp 4,.tmp 6]) (ts:=[M (Z b 0),fM n.Left]) (fW b w1 ix) _ J U9 (Nz b ix w1 _ q_r) ⟨(D J),(D J),aZ⟩ (fun _=>J)))) J fun i=>?_;refine(show RG _ _ _ _ [_,_] ((7,tT [])::_)from ?_);refine bu<|aj<|Q J<|aQ pZ iQ gn J<|bR h fun r1 q_r1 h=>br (EffOK.fr1 (EffOK.fr1 (aE (xs:=[.tmp 8,.tmp 10]) (ts:=[M (Z b 0),tD bN n.Cond]) (fW b r i) _ J NW (IE b i r _ q_r1) ⟨(D J),(D J),aZ⟩ (fun _=>J)))) J fun i1=>?_;refine(show RG _ _ _ _ [_,_] ((11,tT [])::_)from ?_);exact aJ<|am<|am<|so h▸fE J i1 J J

def ZS(b:Nat)(ix:OI) w1 n{R}(h:im w1 n=some R):bK bd 86 [M (Z b 0),tD aM n] (fW b w1 ix) (fun _:OI=>tT []) (fun j=>fW b R j):=by
 refine bK.of Tryz.func86 J J J fun w0 S0=>?_;refine(show CG _ _ _ [bx (rH dc [(0,ay (ix.h 0).1 (ix.h 0).2 w1.bytes.length)]) 60 b w1,tip (rI .u8) 5 (ix.h 0).1 (ix.h 0).2 w1.bytes] _ from ?_);refine d<|dl J<|bu<|aj<|Q J<|aQ pZ iQ gn J<|bR h fun r q_r h=>br (EffOK.fr1 (EffOK.fr1 (aE (xs:=[.tmp 4,.tmp 6]) (ts:=[M (Z b 0),tD bN n.Cond]) (fW b w1 ix) _ J NW (IE b ix w1 _ q_r) ⟨(D J),(D J),aZ⟩ (fun _=>J)))) J fun i=>?_;refine(show RG _ _ _ _ [_,_] ((7,tT [])::_)from ?_);exact aJ<|am<|am<|so h▸fE J i J J

def RD(b:Nat)(ix:OI) w1 n{R}(h:eT w1 n=some R):bK bd 87 [M (Z b 0),tD aM n] (fW b w1 ix) (fun _:OI=>tT []) (fun j=>fW b R j):=by
 refine bK.of Tryz.func87 J J J fun w0 S0=>?_;refine(show CG _ _ _ [bx (rH dc [(0,ay (ix.h 0).1 (ix.h 0).2 w1.bytes.length)]) 60 b w1,tip (rI .u8) 5 (ix.h 0).1 (ix.h 0).2 w1.bytes] _ from ?_);refine d<|dl J<|bu<|ax J<|aQ ju dE cu J<|bR h fun r q_r h=>br (EffOK.fr1 (EffOK.fr1 (aE (xs:=[.tmp 6,.tmp 8]) (ts:=[M (Z b 0),jK n.Keys]) (fW b w1 ix) _ J Ym (RC b ix w1 _ q_r) ⟨(D J),(D J),aZ⟩ (fun _=>J)))) J fun i=>?_;refine(show RG _ _ _ _ [_,_] ((9,tT [])::_)from ?_);refine bu<|ax J<|aQ gA cO o0 J<|bI lb J<|s (aI (r:=bV) (ys:=[(n.Aggs.length:Int)]) (xs:=[.tmp 13]) df bB J J J J J ⟨(D J),aZ⟩)<|bR h fun r1 q_r1 h=>br (EffOK.fr1 (EffOK.fr1 (aE (xs:=[.tmp 10,.tmp 14]) (ts:=[M (Z b 0),jK ([(n.Aggs.length:Int)])]) (fW b r i) _ J xG (sl b i r _ q_r1) ⟨(D J),(D J),aZ⟩ (fun _=>J)))) J fun i1=>?_;refine(show RG _ _ _ _ [_,_] ((15,tT [])::_)from ?_);refine bu<|d<|aQ gA cO o0 J<|bI lb J<|s (bT hI)<|bu<|ak<|bo (k:=17) J fun hN=>bA ?_;refine aH (jz (aa:=fun ls i2 ob l c=>(n.Aggs.drop i2=ls)/\iz ls ob=some R) (Of:=fun _ i2 ob l c=>[bx (rH dc [(0,ay l c ob.bytes.length)]) 60 b ob,tip (rI .u8) 5 l c ob.bytes]) (Gf:=fun _ i2 ob l c=>[(0,M (Z b 0)),(17,em (fh) n.Aggs),(18,kE n.Aggs),(19,bH (i2:Int))]) (fun i2 ob l c h=>?_) (fun e tl ih i2 ob l c h=>?_) n.Aggs 0 r1 (i1.h 0).1 (i1.h 0).2 ⟨J,h⟩) (aX J)
 ·obtain⟨V,h⟩:=h
  exact ez V J<|am<|am<|so h▸fE J (sj [(l,c)]) J J
 ·obtain⟨V,h⟩:=h
  refine ew V J<|aP<|ak<|d<|dg lb ig J (dJ V)<|bz ig tq J fun b1=>bO ig aB J<|bj 5 J<|bu<|ax J ?_;refine aQ jx hM bB J<|s (aI (r:=bV) (ys:=[e.Tag]) (xs:=[.tmp 25]) df bB J J J J J ⟨(D J),aZ⟩)<|bR h fun r2 q_r2 h=>br (EffOK.fr1 (EffOK.fr1 (aE (xs:=[.tmp 23,.tmp 26]) (ts:=[M (Z b 0),jK ([e.Tag])]) (fW b ob (sj [(l,c)])) _ J xG (sl b (sj [(l,c)]) ob _ q_r2) ⟨(D J),(D J),aZ⟩ (fun _=>J)))) J fun i3=>?_;refine(show RG _ _ _ _ [_,_] ((27,tT [])::_)from ?_);refine bu<|aj<|Q J<|aQ oe ma gn J<|bR h fun r3 q_r3 h=>br (EffOK.fr1 (EffOK.fr1 (aE (xs:=[.tmp 28,.tmp 30]) (ts:=[M (Z b 0),tD bN e.Arg]) (fW b r2 i3) _ J NW (IE b i3 r2 _ q_r3) ⟨(D J),(D J),aZ⟩ (fun _=>J)))) J fun i4=>?_;refine(show RG _ _ _ _ [_,_] ((31,tT [])::_)from ?_);refine aJ<|dd V hN J ?_;exact aU (aH (ih (i2+1) r3 (i4.h 0).1 (i4.h 0).2 ⟨da V,h⟩) (aX J))

def ZR(b:Nat)(ix:OI) w1 n{R}(h:g9 w1 n=some R):bK bd 88 [M (Z b 0),tD aM n] (fW b w1 ix) (fun _:OI=>tT []) (fun j=>fW b R j):=by
 refine bK.of Tryz.func88 J J J fun w0 S0=>?_;refine(show CG _ _ _ [bx (rH dc [(0,ay (ix.h 0).1 (ix.h 0).2 w1.bytes.length)]) 60 b w1,tip (rI .u8) 5 (ix.h 0).1 (ix.h 0).2 w1.bytes] _ from ?_);refine d<|dl J<|bu<|ax J<|aQ oc io wH J<|bI qD J<|s (aI (r:=bV) (ys:=[(n.Items.length:Int)]) (xs:=[.tmp 9]) df bB J J J J J ⟨(D J),aZ⟩)<|bR h fun r q_r h=>br (EffOK.fr1 (EffOK.fr1 (aE (xs:=[.tmp 6,.tmp 10]) (ts:=[M (Z b 0),jK ([(n.Items.length:Int)])]) (fW b w1 ix) _ J xG (sl b ix w1 _ q_r) ⟨(D J),(D J),aZ⟩ (fun _=>J)))) J fun i=>?_;refine(show RG _ _ _ _ [_,_] ((11,tT [])::_)from ?_);refine bu<|d<|aQ oc io wH J<|bI qD J<|s (bT hI)<|bu<|ak<|bo (k:=13) J fun hN=>bA ?_;refine aH (jz (aa:=fun ls i1 ob l c=>(n.Items.drop i1=ls)/\gU ls ob=some R) (Of:=fun _ i1 ob l c=>[bx (rH dc [(0,ay l c ob.bytes.length)]) 60 b ob,tip (rI .u8) 5 l c ob.bytes]) (Gf:=fun _ i1 ob l c=>[(0,M (Z b 0)),(13,em (bN) n.Items),(14,kE n.Items),(15,bH (i1:Int))]) (fun i1 ob l c h=>?_) (fun e tl ih i1 ob l c h=>?_) n.Items 0 r (i.h 0).1 (i.h 0).2 ⟨J,h⟩) (aX J)
 ·obtain⟨V,h⟩:=h
  exact ez V J<|am<|am<|so h▸fE J (sj [(l,c)]) J J
 ·obtain⟨V,h⟩:=h
  refine ew V J<|aP<|ak<|d<|dg qD gn J (dJ V)<|bz gn qO J fun b1=>bO gn aB J<|bj 5 J<|bu<|aj<|Q J<|dH gn J ?_;refine bR h fun r1 q_r1 h=>br (EffOK.fr1 (EffOK.fr1 (aE (xs:=[.tmp 19,.tmp 20]) (ts:=[M (Z b 0),tD bN e]) (fW b ob (sj [(l,c)])) _ J NW (IE b (sj [(l,c)]) ob _ q_r1) ⟨(D J),(D J),aZ⟩ (fun _=>J)))) J fun i2=>?_;refine(show RG _ _ _ _ [_,_] ((21,tT [])::_)from ?_);refine aJ<|dd V hN J ?_;exact aU (aH (ih (i1+1) r1 (i2.h 0).1 (i2.h 0).2 ⟨da V,h⟩) (aX J))

end Go.Proofs.YtdohlidddcgfjaaGreat

