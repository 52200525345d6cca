/- bO of this claim: P7. -/
import Derived.Test.YtdohlidddcgfjaaGreatFeT
import Derived.Test.YtdohlidddcgfjaaGreatFeP6
set_option linter.all false
namespace Go.Proofs.YtdohlidddcgfjaaGreat
open Go
set_option maxRecDepth 100000

def UT nodes{R}(h:jI nodes=some R):dV a8 82 [eg (bl) nodes] (tT [eg (oz) R.1,bw R.2.1,bw R.2.2]):=by
 refine fb Tryz.func82 J<|be<|iJ (oz)<|cJ<|cJ<|bt<|DQ<|bp<|aQ J<|cM vy J<|Q (iC (D J) hI)<|aQ J<|b8 J (dd J)<|b8 J (m2 vy J)<|b8 J (fun V=>jW (bJ J V) hI)<|kG J<|di h J (fun h=>?_) (fun h=>?_)
 ·exact be<|iJ (oz)<|cJ<|gm<|aF<|pt<|so h▸vl J J J J
 ·refine jv<|ay J<|Q (ec (r:=rH br [(1,.slice none 0 0),(2,.slice none 0 0)]) (y:=(⟨nodes,[],[],Rh,[],[],[]⟩:al)) Wk WR (zH Q9 ⟨J,J,d⟩) (⟨_,_,_,_,_,J,EU Ng J J,J,(D J),J⟩))<|tp (D J) J fun b=>cP true oz 69<|cP false bN 3 ?_;refine(show RG _ _ _ _ [_,_,_] _ from ?_);refine aX J<|be<|iI h YH SK trivial fun r h=>aX J<|be<|cJ<|bt<|aS<|DU<|aG<|bp<|aQ J<|cM vy J<|Q (ca hI) ?_;refine bt ?_;refine On (bx:=fun wrong ob l c l1 c1=>j6 nodes wrong ob=some R) (Of:=fun wrong ob l c l1 c1=>[Z (rH br [(1,au l c ob.kinds.length),(2,au l1 c1 ob.open_.length)]) 168 b ob,tip oz 69 l c ob.kinds,de bN 3 l1 c1 ob.open_]) (Gf:=fun wrong ob l c l1 c1=>[(0,eg (bl) nodes),(5,K (M b 0)),(7,bw wrong)]) (fun wrong ob l c l1 c1 h=>?_) (fun tV=>?_)
  ·skip
   refine aG ?_;refine iy (bx:=fun wrong1=>li ob wrong1=some R) (Of:=fun wrong1=>[Z (rH br [(1,au l c ob.kinds.length),(2,au l1 c1 ob.open_.length)]) 168 b ob,tip oz 69 l c ob.kinds,de bN 3 l1 c1 ob.open_]) (Gf:=fun wrong1=>[(5,K (M b 0)),(7,bw wrong1)]) (fun wrong1 h=>?_) (fun K1=>?_)
   ·skip
    refine bp<|aQ J<|Q (ie (D J) hI)<|di h J (fun h=>?_) (fun h=>?_)
    ·exact ay J<|iJ (oz)<|gB J<|gm<|aF<|pt<|aY<|aY<|aY<|so h▸vl J J J J
    ·refine jv<|be<|cP false oz 69<|Q (b9 vC)<|bt<|bp<|aQ J<|Q (aA (D J))<|aT 1 BS J<|Q (mE Rn J (.tail _ (.head _)) (.tail _ (.tail _ (.head _))) (D J))<|Q (lS Bu (rb (D J)))<|Q (ca hI)<|bt<|aC<|Oi<|Ol 61 J<|bD (k:=61) J fun hN=>b7 ?_;refine gp<|gc<|gp<|gp ?_;refine aZ (mJ (bx:=fun ls i out l2 c2=>(ob.kinds.drop i=ls)/\mM ls out=some R) (Of:=fun _ i out l2 c2=>[de oz 69 l2 c2 out,Z (rH br [(1,au l c ob.kinds.length),(2,au l1 c1 ob.open_.length)]) 168 b ob,tip oz 69 l c ob.kinds,de bN 3 l1 c1 ob.open_]) (Gf:=fun _ i out l2 c2=>[(10,qP l2 c2 out),(61,eg (oz) ob.kinds),(62,oA ob.kinds),(63,bw (i:Int))]) (fun i out l2 c2 h=>?_) (fun e tl ih i out l2 c2 h=>?_) ob.kinds 0 ([]:List (List Int)) none 0 ⟨J,h⟩) (bq J)
     ·obtain⟨X,h⟩:=h
      refine fY X J<|aG<|ay J<|gB J<|cJ<|gm<|pt<|df ?_;exact bv 10 J<|bv 73 J<|bv 2 J<|eF 2 J<|aY<|aY<|aY<|aY<|so h▸vl J J J J
     ·obtain⟨X,h⟩:=h
      refine fX X J<|aS<|aC<|be<|gq Bu c0 J (fa X)<|aX J<|av<|aQ J<|aQ J<|sN h QK (IY _) (ez J) fun r1 h l3 c3=>?_;refine qB<|md 69 J<|Q (ba (r:=xX) (ys:=[r1]) (xs:=[.tmp 69]) Bu c0 J J J J J ⟨(rb (D J)),d⟩)<|cH<|bK h fun out1 q_out1 h=>c9 c0 J J J J Bu J J (D J) (D J) q_out1 fun l4 c4=>gB J<|aU<|eu X hN J<|af<|aY ?_;exact bm (aZ (ih (i+1) out1 l4 c4 ⟨ej X,h⟩) (bq J))
   ·skip
    refine ay J<|Q (iC (D J) hI)<|aQ J<|ai J (dd J)<|ai J (fun V=>aA (bJ J V))<|ai J (fun V=>bQ (n:=2) rx J (bJ J V) J)<|ai J (fun V=>cL c0 J (.head _) (bJ J V))<|ai J (fun V=>iD fc (.tail _ (.tail _ (.head _))) (bJ J V))<|ai J (A4 J)<|cU J<|di h J (fun h=>?_) (fun h=>?_)
    ·refine av<|aQ J<|cM vy J<|Q (ic (D J) hI)<|gB J<|aU ?_;exact bU (K1 (IntKind.i64.wrap ((nodes.length:Int)-(1:Int))) h) (bq J)
    ·refine bG ?_;exact bU (K1 wrong h) (bq J)
  ·skip
   refine bD (k:=25) J fun hN1=>b7<|gc<|mf ?_;refine aZ (DH (bx:=fun ls1 i1 wrong2 ob1 l5 c5 l6 c6=>(nodes.drop i1=ls1)/\fU nodes r ls1 i1 wrong2 ob1=some R) (Of:=fun _ i1 wrong2 ob1 l5 c5 l6 c6=>[Z (rH br [(1,au l5 c5 ob1.kinds.length),(2,au l6 c6 ob1.open_.length)]) 168 b ob1,tip oz 69 l5 c5 ob1.kinds,de bN 3 l6 c6 ob1.open_]) (Gf:=fun _ i1 wrong2 ob1 l5 c5 l6 c6=>[(0,eg (bl) nodes),(5,K (M b 0)),(6,Wn (fun y:(al->Unit->Option (Bool×al))=>oT (fun bb=>eC a8 (fun(x:Unit)=>[K (M bb 0)]) (ei bb) oR y)) (Tq .i64) r),(7,bw wrong2),(25,eg (bl) nodes),(26,oA nodes),(27,bw (i1:Int))]) (fun i1 wrong2 ob1 l5 c5 l6 c6 h=>?_) (fun e1 tl1 ih1 i1 wrong2 ob1 l5 c5 l6 c6 h=>?_) nodes 0 Bx (⟨nodes,[],[],Rh,[],[],[]⟩:al) none 0 none 0 ⟨J,h⟩) (bq J)
   ·obtain⟨hx1,h⟩:=h
    refine fY hx1 J ?_;exact bU (tV wrong2 ob1 l5 c5 l6 c6 h) (bq J)
   ·obtain⟨hx1,h⟩:=h
    refine fX hx1 J<|aS<|aC<|ay J<|gq vy ge J (fa hx1)<|bz ge kR J fun b1=>gB J<|bu ge ax J<|bh 9 J<|bt<|aS ?_;refine av<|aQ J<|aQ J<|aQ J<|bI ln em bW J<|Q (Iq (γ:=(fun y:(al->Unit->Option (Bool×al))=>oT (fun bb=>eC a8 (fun(x:Unit)=>[K (M bb 0)]) (ei bb) y0 y))) (z:=(fun _ _=>none)) Bv (iE kI) V7 (fun _ _=>EN) (D J) (sK (D J)))<|bK h fun r2 q_r2 h=>aK (EffOK.fr2 (EffOK.fr2 (EffOK.fr2 (an (xs:=[.tmp 32,.tmp 33,.tmp 37]) (ts:=[K (M b 0),bw (i1:Int),oT (fun bb=>eC a8 (fun(x:Unit)=>[K (M bb 0)]) (ei bb) oR ((tL r e1.Op).getD (fun _ _=>none)))]) (ei b ob1 (p9 [(l5,c5),(l6,c6)])) _ J YG (VG b (p9 [(l5,c5),(l6,c6)]) ob1 _ _ q_r2) ⟨(D J),(D J),(D J),d⟩ (fun _=>J))))) J fun i2=>?_;refine(show RG _ _ _ _ [_,_,_] ((38,gA r2.1)::_)from ?_);refine Q (gg (D J))<|di h J (fun h=>?_) (fun h=>?_)
    ·refine ay J<|aX J<|dq<|bM J<|aq<|aq<|bR ?_;exact bU (tV (i1:Int) r2.2 (i2.h 0).1 (i2.h 0).2 (i2.h 1).1 (i2.h 1).2 h) (bq J)
    ·refine bG<|eu hx1 hN1 J ?_;exact bm (aZ (ih1 (i1+1) wrong2 r2.2 (i2.h 0).1 (i2.h 0).2 (i2.h 1).1 (i2.h 1).2 ⟨ej hx1,h⟩) (bq J))

def U9 p{R}(h:sm p=some R):dV a8 40 [tD m3 p] (gA R):=by
 refine fb Tryz.func40 J<|be<|fv J<|bL<|bt<|be<|Q (b9 (show aI _ _ _ ((kU a8 Hr oR (fun(x:Int)=>pR x)))from(PO ZL fun x y h=>UU _ h)))<|bt<|bp<|bI yB qt JO J<|cM yP J<|Q (ca hI)<|bt<|aC<|bD (k:=12) J fun hN=>b7 ?_;refine aZ (iu (bx:=fun ls i=>(p.Frags.drop i=ls)/\mS p ls=some R) (Of:=fun _ i=>[]) (Gf:=fun _ i=>[(1,c8 m3 p),(3,(kU a8 Hr oR (fun(x:Int)=>pR x))),(12,eg (cG) p.Frags),(13,oA p.Frags),(14,bw (i:Int))]) (fun i h=>?_) (fun e tl ih i h=>?_) p.Frags 0 ⟨J,h⟩) (bq J)
 ·obtain⟨X,h⟩:=h
  refine fY X J<|aG<|be<|bI yB qt JO J<|cM yP J<|Q (ie (D J) hI)<|aQ J<|ai J (cq yB qt J J)<|ai J (ck JO J J)<|ai J (m2 yP J)<|ai J (fun V=>gy (bJ J V) hI) ?_;exact cU J<|bk J<|so h▸aW J J
 ·obtain⟨X,h⟩:=h
  refine fX X J<|aS<|aC<|be<|gq yP qh J (fa X)<|bz qh pz J fun b=>bu qh ax J<|bh 5 J<|bt<|be<|tX AC uk J ?_;refine fP F2 J<|iI h ZK (UT _) (ez J) fun r h=>aQ J<|eh J J<|eh J J<|eh J J<|gB J<|gB J<|aX J<|be<|bI Df uj bW J<|bP J<|aQ J<|b8 J (cq Df uj J J)<|b8 J (ck bW J J)<|b8 J (lr J)<|kG J<|gB J<|aU ?_;refine aG<|be<|bI De ui bW J<|Q (ie (D J) hI)<|aQ J<|ai J (cq De ui J J)<|ai J (ck bW J J)<|ai J (fun V=>gy (bJ J V) hI)<|cU J<|aQ J<|ai J (cq Dd uh J J)<|ai J (ck c0 J J)<|ai J (m2 fc J)<|ai J (fun V=>gy (bJ J V) hI)<|cU J<|aQ J<|bK h fun t q_t h=>ai J (cq Dd uh J J)<|ai J (ck c0 J J)<|ai J (dd J) ?_
  obtain⟨r1,h1t,h0t⟩:=og q_t
  have q_r1g:=fun W=>(h1t W).1
  refine ai J (fun V=>dx VQ (KI _ _ (q_r1g V)) ⟨(bJ J V),(bJ J V),d⟩)<|ai J (y3 J)<|Q (cR (D J) (fun W=>(bJ J W)) (fun W=>(h1t W).2) h0t)<|aX J<|ay J<|oj J<|aQ J<|b8 J (dd J)<|b8 J (y3 J)<|kG J<|aQ J<|b8 J (dd J)<|b8 J (y3 J)<|kG J<|di h J (fun h=>?_) (fun h=>?_)
  ·exact be<|bL<|co<|fJ<|aF<|fJ<|so h▸aW J J
  ·refine bG<|eu X hN J ?_;exact bm (aZ (ih (i+1) ⟨ej X,h⟩) (bq J))

def SG n{R}(h:uQ n=some R):dV a8 154 [tD nh n] (gA R):=by
 exact fb Tryz.func154 J<|be<|bL<|bt<|ay J<|Q (ie (D J) hI)<|aQ J<|ai J (dd J)<|ai J (fun V=>gy (bJ J V) hI)<|cU J<|bk J<|so h▸aW J J

def Se h3 f{R}(h:hX h3 f=some R):dV a8 248 [eg (mp) h3,(kU a8 T5 oR (fun(x:(List am))=>f x))] (bw R):=by
 refine fb Tryz.func248 J<|be<|cJ<|bt<|bp<|aQ J<|cM xo J<|Q (ca hI)<|bt<|aC<|bD (k:=6) J fun hN=>b7 ?_;refine aZ (iu (bx:=fun ls i=>(h3.drop i=ls)/\dF f ls i=some R) (Of:=fun _ i=>[]) (Gf:=fun _ i=>[(0,eg (mp) h3),(1,(kU a8 T5 oR (fun(x:(List am))=>f x))),(7,oA h3),(8,bw (i:Int))]) (fun i h=>?_) (fun e tl ih i h=>?_) h3 0 ⟨J,h⟩) (bq J)
 ·obtain⟨X,h⟩:=h
  exact fY X J<|aG<|be<|gm<|so h▸aW J J
 ·obtain⟨X,h⟩:=h
  refine fX X J<|aS<|aC<|ay J<|aX J<|ay J<|aQ J<|aQ J<|EK xo Cq J (fa X) ?_;refine fP Cq J<|bK h fun r q_r h=>Q (kX (args:=(fun(x:(List am))=>[tD mp x])) (res:=y0) (f:=(fun(x:(List am))=>f x)) (x:=((e):(List am))) (D J) q_r ⟨(D J),d⟩)<|di h J (fun h=>?_) (fun h=>?_)
  ·exact ay J<|bk J<|fJ<|aF<|fJ<|so h▸aW J J
  ·refine bG<|eu X hN J ?_;exact bm (aZ (ih (i+1) ⟨ej X,h⟩) (bq J))

def So h3 f{R}(h:eH h3 f=some R):dV a8 228 [eg (mp) h3,(kU a8 T5 oR (fun(x:(List am))=>f x))] (gA R):=by
 exact fb Tryz.func228 J<|be<|bL<|bt<|ay J<|aQ J<|iI h XF (Se _ _) (ez J) fun r h=>Q (ie (D J) hI)<|bk J<|so h▸aW J J

def Sb v{R}(h:qU v=some R):dV a8 258 [tD bd v] (gA R):=by
 exact fb Tryz.func258 J<|be<|fv J<|bL<|bt<|be<|fP db J<|iI h zL (ry _) (ez J) fun r h=>oj J<|bk J<|so h▸aW J J

def R8 h3 f{R}(h:kf h3 f=some R):dV a8 264 [eg (bd) h3,(kU a8 OF oR (fun(x:am)=>f x))] (bw R):=by
 refine fb Tryz.func264 J<|be<|cJ<|bt<|bp<|aQ J<|cM DX J<|Q (ca hI)<|bt<|aC<|bD (k:=6) J fun hN=>b7 ?_;refine aZ (iu (bx:=fun ls i=>(h3.drop i=ls)/\cW f ls i=some R) (Of:=fun _ i=>[]) (Gf:=fun _ i=>[(0,eg (bd) h3),(1,(kU a8 OF oR (fun(x:am)=>f x))),(7,oA h3),(8,bw (i:Int))]) (fun i h=>?_) (fun e tl ih i h=>?_) h3 0 ⟨J,h⟩) (bq J)
 ·obtain⟨X,h⟩:=h
  exact fY X J<|aG<|be<|gm<|so h▸aW J J
 ·obtain⟨X,h⟩:=h
  refine fX X J<|aS<|aC<|ay J<|aX J<|ay J<|aQ J<|aQ J<|EK DX db J (fa X) ?_;refine fP db J<|bK h fun r q_r h=>Q (kX (args:=OF) (res:=y0) (f:=(fun(x:am)=>f x)) (x:=((e):am)) (D J) q_r ⟨(D J),d⟩)<|di h J (fun h=>?_) (fun h=>?_)
  ·exact ay J<|bk J<|fJ<|aF<|fJ<|so h▸aW J J
  ·refine bG<|eu X hN J ?_;exact bm (aZ (ih (i+1) ⟨ej X,h⟩) (bq J))

def Sa h3 f{R}(h:f6 h3 f=some R):dV a8 259 [eg (bd) h3,(kU a8 OF oR (fun(x:am)=>f x))] (gA R):=by
 exact fb Tryz.func259 J<|be<|bL<|bt<|ay J<|aQ J<|iI h Xv (R8 _ _) (ez J) fun r h=>Q (ie (D J) hI)<|bk J<|so h▸aW J J

def Sd r{R}(h:wV r=some R):dV a8 249 [eg (bd) r] (gA R):=by
 refine fb Tryz.func249 J<|be<|bL<|bt<|be<|Q (b9 (show aI _ _ _ ((kU a8 OF oR (fun(x:am)=>qU x)))from(PO Xy fun x y h=>Sb _ h)))<|bt<|ay J<|cM DX J<|Q (gy (D J) hI)<|aQ J<|bK h fun t q_t h=>ai J (dd J)<|ai J (dd J) ?_
 obtain⟨r1,h1t,h0t⟩:=og q_t
 have q_r1g:=fun W=>(h1t W).1
 exact ai J (fun V=>dx Xx (Sa _ _ (q_r1g V)) ⟨(bJ J V),(bJ J V),d⟩)<|ai J (y3 J)<|Q (cR (D J) (fun W=>(bJ J W)) (fun W=>(h1t W).2) h0t)<|bk J<|so h▸aW J J

def Sm r{R}(h:wW r=some R):dV a8 230 [eg (bd) r] (bw R):=by
 refine fb Tryz.func230 J<|be<|cJ<|bt<|bp<|aQ J<|iI h XE (Sd _) (ez J) fun r1 h=>Q (gg (D J))<|di h J (fun h=>?_) (fun h=>?_)
 ·exact be<|gm<|aF<|so h▸aW J J
 ·exact jv<|be<|gm<|so h▸aW J J

def Sn r{R}(h:wm r=some R):dV a8 229 [eg (bd) r] (gA R):=by
 exact fb Tryz.func229 J<|be<|bL<|bt<|ay J<|iI h XQ (Sm _) (ez J) fun r1 h=>oj J<|bk J<|so h▸aW J J

def Sy l{R}(h:xa l=some R):dV a8 197 [eg (mp) l] (gA R):=by
 refine fb Tryz.func197 J<|be<|bL<|bt<|ay J<|cM xo J<|Q (jW (D J) hI)<|aQ J<|ai J (dd J)<|ai J (m2 xo J)<|ai J (fun V=>gy (bJ J V) hI)<|cU J<|aQ J<|bK h fun t q_t h=>ai J (dd J) ?_
 obtain⟨r,h1t,h0t⟩:=og q_t
 have q_rg:=fun W=>(h1t W).1
 exact ai J (fun V=>dx XS (So _ _ (q_rg V)) ⟨(bJ J V),(PO XR fun x y h=>Sn _ h),d⟩)<|ai J (y3 J)<|Q (cR (D J) (fun W=>(bJ J W)) (fun W=>(h1t W).2) h0t)<|bk J<|so h▸aW J J

def SF b seq{R}(h:uR b seq=some R):dV a8 155 [tD ki b,tD lx seq] (gA R):=by
 refine fb Tryz.func155 J<|be<|fv J<|bL<|bt<|bp<|aQ J<|Q (iC (D J) hI)<|aQ J<|b8 J (dd J)<|b8 J (fun V=>jW (bJ J V) hI)<|kG J<|di h J (fun h=>?_) (fun h=>?_)
 ·exact be<|bL<|co<|aF<|so h▸aW J J
 ·refine jv<|bp<|bI u4 nK yM J<|di h J (fun h=>?_) (fun h=>?_)
  ·exact be<|bI wD o0 HF J<|cM xo J<|bP J<|aQ J<|ai J (cq wC oZ J J)<|ai J (ck oE J J)<|ai J (dd J)<|ai J (fun V=>ic (bJ J V) hI)<|ai J (fun V=>dW (bJ J V) (bJ J V))<|cU J<|bk J<|aF<|so h▸aW J J
  ·refine jv<|be<|bI wC oZ oE J<|bP J<|aQ J<|bK h fun t q_t h=>ai J (cq wD o0 J J)<|ai J (ck HF J J) ?_
   obtain⟨r,h1t,h0t⟩:=og q_t
   have q_rg:=fun W=>(h1t W).1
   exact ai J (fun V=>dx X9 (Sy _ (q_rg V)) ⟨(bJ J V),d⟩)<|Q (cR (D J) (fun W=>(bJ J W)) (fun W=>(h1t W).2) h0t)<|bk J<|so h▸aW J J

def Sl a1 b{R}(h:t8 a1 b=some R):dV a8 231 [eg (bd) a1,eg (bd) b] (gA R):=by
 exact fb Tryz.func231 J<|be<|bL<|bt<|ay J<|aQ J<|iI h Xq (Qa _ _) (ez J) fun r h=>bk J<|so h▸aW J J

def Sx a1 b{R}(h:y8 a1 b=some R):dV a8 198 [eg (mp) a1,eg (mp) b] (gA R):=by
 exact fb Tryz.func198 J<|be<|bL<|bt<|ay J<|aQ J<|iI h Xr (Qb _ _ _) ⟨(D J),(D J),(PO XP fun x y h=>Sl _ _ h),d⟩ fun r h=>bk J<|so h▸aW J J

def SE a1 b{R}(h:w9 a1 b=some R):dV a8 156 [tD ki a1,tD ki b] (gA R):=by
 refine fb Tryz.func156 J<|be<|fv J<|fv J<|bL<|bt<|be<|bI u4 nK yM J<|bI u4 nK yM J<|Q (Gq Lv (D J) (D J))<|aQ J<|ai J (cq wC oZ J J)<|ai J (ck oE J J)<|ai J (cq wC oZ J J)<|ai J (ck oE J J)<|ai J (fun V=>dW (bJ J V) (bJ J V))<|cU J<|aQ J<|bK h fun t q_t h=>?_;refine ai J (cq wD o0 J J)<|ai J (ck HF J J)<|ai J (cq wD o0 J J)<|ai J (ck HF J J) ?_
 obtain⟨r,h1t,h0t⟩:=og q_t
 have q_rg:=fun W=>(h1t W).1
 exact ai J (fun V=>dx X8 (Sx _ _ (q_rg V)) ⟨(bJ J V),(bJ J V),d⟩)<|Q (cR (D J) (fun W=>(bJ J W)) (fun W=>(h1t W).2) h0t)<|bk J<|so h▸aW J J

def SO p{R}(h:n6 p=some R):dV a8 115 [tD cu p] (bw R):=by
 refine fb Tryz.func115 J<|be<|fv J<|cJ<|bt<|be<|bI Gz ta p7 J<|iI h YA (SG _) (ez J) fun r h=>aX J<|bp<|bI Di qY bW J<|bt<|aC ?_;refine be<|bP J<|aX J<|iY h J (fun h=>?_) (fun h=>?_)
 ·refine av<|aQ J<|aQ J<|ai J (cq yz pn J J)<|ai J (ck oE J J)<|ai J (lr J)<|cU J<|aQ J<|bK h fun t q_t h=>ai J (cq oy fm J J)<|ai J (ck Ul J J)<|ai J (cq yA nG J J)<|ai J (ck oE J J) ?_
  obtain⟨r1,h1t,h0t⟩:=og q_t
  have q_r1g:=fun W=>(h1t W).1
  refine ai J (fun V=>dx Yz (SF _ _ (q_r1g V)) ⟨(bJ J V),(bJ J V),d⟩)<|Q (cR (D J) (fun W=>(bJ J W)) (fun W=>(h1t W).2) h0t)<|gB J<|aU<|aE<|aG<|bp<|aQ J<|Q (gg (D J))<|di h J (fun h=>?_) (fun h=>?_)
  ·exact be<|gm<|aF<|so h▸aW J J
  ·exact jv<|be<|gm<|so h▸aW J J
 ·refine be<|bP J<|aX J<|iY h J (fun h=>?_) (fun h=>?_)
  ·refine av<|aQ J<|aQ J<|bK h fun t1 q_t1 h=>ai J (cq oy fm J J)<|ai J (ck Ul J J)<|ai J (fun V=>ec Ul Zy Hn J) ?_
   obtain⟨r2,h1t1,h0t1⟩:=og q_t1
   have q_r2g:=fun W=>(h1t1 W).1
   refine ai J (fun V=>dx Yy (SE _ _ (q_r2g V)) ⟨(bJ J V),(bJ J V),d⟩)<|Q (cR (D J) (fun W=>(bJ J W)) (fun W=>(h1t1 W).2) h0t1)<|aQ J<|ai J (cq yA nG J J)<|ai J (ck oE J J)<|ai J (fun V=>ie (bJ J V) hI)<|cU J<|aQ J<|ai J (cq yA nG J J)<|ai J (ck oE J J)<|ai J (fun V=>gy (bJ J V) hI)<|cU J<|aQ J<|ai J (cq yz pn J J)<|ai J (ck oE J J)<|ai J (cq yA nG J J)<|ai J (ck oE J J)<|ai J (fun V=>ic (bJ J V) hI)<|ai J (fun V=>ie (bJ J V) (bJ J V))<|cU J<|aQ J<|ai J (cq yz pn J J)<|ai J (ck oE J J)<|ai J (fun V=>gy (bJ J V) hI) ?_;refine cU J<|gB J<|aU<|aE<|aG<|bp<|aQ J<|Q (gg (D J))<|di h J (fun h=>?_) (fun h=>?_)
   ·exact be<|gm<|aF<|so h▸aW J J
   ·exact jv<|be<|gm<|so h▸aW J J
  ·refine av<|bL<|aU<|aE<|aG<|bp<|aQ J<|Q (gg (D J))<|di h J (fun h=>?_) (fun h=>?_)
   ·exact be<|gm<|aF<|so h▸aW J J
   ·exact jv<|be<|gm<|so h▸aW J J

def SP m kind{R}(h:ip m kind=some R):dV a8 114 [bw kind,c8 fQ m] (gA R):=by
 refine fb Tryz.func114 J<|be<|bL<|bt<|be<|bI wB ww bW J<|Q (ie (D J) hI)<|aQ J<|ai J (cq wB ww J J)<|ai J (ck bW J J)<|ai J (fun V=>iC (bJ J V) hI)<|cU J<|aQ J<|ai J (cq wA wu J J)<|ai J (fun V=>ig Di J qY J (bJ J V))<|ai J (ck bW J J)<|ai J (dd J)<|ai J (fun V=>dW (bJ J V) (bJ J V))<|cU J<|aQ J ?_;refine bK h fun t q_t h=>ai J (cq wA wu J J)<|ai J (ck rn J J) ?_
 obtain⟨r,h1t,h0t⟩:=og q_t
 have q_rg:=fun W=>(h1t W).1
 exact ai J (fun V=>dx YL (SO _ (q_rg V)) ⟨(bJ J V),d⟩)<|ai J (lr J)<|Q (cR (D J) (fun W=>(bJ J W)) (fun W=>(h1t W).2) h0t)<|bk J<|so h▸aW J J

def U4 m{R}(h:rt m=some R):dV a8 58 [tD fQ m] (gA R):=by
 refine fb Tryz.func58 J<|be<|fv J<|bL<|bt<|be<|Q ((show cm _ _ _ _ ((kU a8 Hr oR (fun(x:Int)=>(ip m) x)))from wi (cts:=[c8 fQ m]) (caps:=[.tmp 1]) YM ⟨(D J),d⟩ (fun x y h=>SP _ _ h)))<|aX J<|bp<|bI u3 qZ bW J<|bt<|aC<|be<|bP J ?_;refine aX J<|iY h J (fun h=>?_) (fun h=>?_)
 ·refine be<|bI yy wv bW J<|Q (ie (D J) hI)<|aQ J<|ai J (cq yy wv J J)<|ai J (ck bW J J)<|ai J (fun V=>gy (bJ J V) hI)<|cU J<|aQ J<|bK h fun t q_t h=>ai J (cq AD zx J J)<|ai J (ck Co J J) ?_
  obtain⟨r,h1t,h0t⟩:=og q_t
  have q_rg:=fun W=>(h1t W).1
  exact ai J (fun V=>dx Z7 (U9 _ (q_rg V)) ⟨(bJ J V),d⟩)<|Q (cR (D J) (fun W=>(bJ J W)) (fun W=>(h1t W).2) h0t)<|bk J<|fJ<|so h▸aW J J
 ·refine iy (bx:=fun x=>mI m x=some R) (Of:=fun x=>[]) (Gf:=fun x=>[(1,c8 fQ m),(3,(kU a8 Hr oR (fun(x:Int)=>(ip m) x))),(6,bw m.Kind),(22,gA x)]) (fun x h=>?_) (fun tV=>?_)
  ·skip
   refine iY h J (fun h=>?_) (fun h=>?_)
   ·exact be<|bL<|co<|fJ<|so h▸aW J J
   ·refine be<|bP J<|aX J<|iY h J (fun h=>?_) (fun h=>?_)
    ·exact ay J<|bK h fun r1 q_r1 h=>Q (kX (args:=OC) (res:=y0) (f:=(fun(x:Int)=>(ip m) x)) (x:=(((1:Int)):Int)) (D J) q_r1 ⟨hI,d⟩)<|bk J<|fJ<|so h▸aW J J
    ·refine be<|bP J<|aX J<|iY h J (fun h=>?_) (fun h=>?_)
     ·exact ay J<|bK h fun r2 q_r2 h=>Q (kX (args:=OC) (res:=y0) (f:=(fun(x:Int)=>(ip m) x)) (x:=(((2:Int)):Int)) (D J) q_r2 ⟨hI,d⟩)<|bk J<|fJ<|so h▸aW J J
     ·refine be<|bP J<|aX J<|iY h J (fun h=>?_) (fun h=>?_)
      ·exact be<|bI wz wt xZ J<|bP J<|aQ J<|b8 J (cq wz wt J J)<|b8 J (ck xZ J J)<|b8 J (lr J)<|kG J<|bk J<|fJ<|so h▸aW J J
      ·exact bG<|aE<|aG<|be<|bL<|co<|so h▸aW J J
  ·skip
   refine be<|bP J<|aX J<|iY h J (fun h=>?_) (fun h=>?_)
   ·refine bG ?_;exact bU (tV (m.Kind==(2:Int)) h) (bq J)
   ·refine be<|bP J<|aX J<|iY h J (fun h=>?_) (fun h=>?_)
    ·refine bG ?_;exact bU (tV (m.Kind==(6:Int)) h) (bq J)
    ·refine av<|bP J<|gB J<|aU ?_;exact bU (tV (m.Kind==(7:Int)) h) (bq J)

end Go.Proofs.YtdohlidddcgfjaaGreat

