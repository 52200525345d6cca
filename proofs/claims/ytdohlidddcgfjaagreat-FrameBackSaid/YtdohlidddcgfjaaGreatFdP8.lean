/- bT of this claim: P8. -/
import Derived.Test.YtdohlidddcgfjaaGreatFdT
import Derived.Test.YtdohlidddcgfjaaGreatFdP7
set_option linter.all false
namespace Go.Proofs.YtdohlidddcgfjaaGreat
open Go
set_option maxRecDepth 100000

def SF m{R}(h:lK m=some R):dJ aY 29 [tD fz m] (gI R):=by
 refine eX Tryz.func29 J<|a8<|eZ J<|bA<|br<|a8<|s (cg (show aJ _ _ _ ((lF aY Jm pN WG))from(Sp acH fun x y h=>XW _ h)))<|br<|aB J<|bG E0 Ba b9 J<|bM h fun r q_r h=>s (lH (args:=QQ) (res:=Aw) (f:=WG) (x:=((m.From):Int)) (D J) q_r ⟨(D J),aM⟩)<|aS J<|bM h fun t q_t h=>ai J (du J)<|ai J (cj EZ A9 J J)<|ai J (ce b9 J J) ?_
 obtain⟨r1,h1t,h0t⟩:=og q_t
 have q_r1g:=fun K=>(h1t K).1
 refine ai J (fun H=>lH (args:=QQ) (res:=Aw) (f:=WG) (x:=((m.To):Int)) (bL J H) (q_r1g H) ⟨(bL J H),aM⟩)<|s (de (D J) (fun K=>(bL J K)) (fun K=>(h1t K).2) h0t)<|aS J<|ai J (cj B7 xS J J)<|ai J (ce b9 J J)<|ai J (fun H=>iJ (bL J H) hI)<|c8 J<|aS J<|ai J (cj B7 xS J J)<|ai J (ce b9 J J)<|ai J (fun H=>g9 (bL J H) hI)<|c8 J<|aS J<|bM h fun t1 q_t1 h=>ai J (fun H=>BA iz J J) ?_
 obtain⟨r2,h1t1,h0t1⟩:=og q_t1
 have q_r2g:=fun K=>(h1t1 K).1
 refine ai J (fun H=>db acG (XV _ (q_r2g H)) ⟨(bL J H),aM⟩)<|s (de (D J) (fun K=>(bL J K)) (fun K=>(h1t1 K).2) h0t1)<|aS J<|bM h fun t2 q_t2 h=>ai J (fun H=>BA iz J J) ?_
 obtain⟨r3,h1t2,h0t2⟩:=og q_t2
 have q_r3g:=fun K=>(h1t2 K).1
 exact ai J (fun H=>db acF (XU _ (q_r3g H)) ⟨(bL J H),aM⟩)<|s (de (D J) (fun K=>(bL J K)) (fun K=>(h1t2 K).2) h0t2)<|bq J<|so h▸aN J J

def q6(b:Nat)(ix:OI) w1 l{R}(h:cb w1 l=some R):bk aY 59 [Z (M b 0),pi l] (fg b w1 ix) (fun _:OI=>tT []) (fun j=>fg b R j):=by
 refine bk.of Tryz.func59 J J J fun w0 S0=>?_;refine(show CG _ _ _ [Q (rH cV [(0,au (ix.h 0).1 (ix.h 0).2 w1.bytes.length)]) 60 b w1,tip (rI .u8) 5 (ix.h 0).1 (ix.h 0).2 w1.bytes] _ from ?_);refine aB J<|cw fx J<|s (bQ hI)<|br<|aA<|bt (k:=6) J fun hN=>bN ?_;refine aV (ni (tV:=fun ls i ob l1 c=>(l.drop i=ls)/\fT ls ob=some R) (Of:=fun _ i ob l1 c=>[Q (rH cV [(0,au l1 c ob.bytes.length)]) 60 b ob,tip (rI .u8) 5 l1 c ob.bytes]) (Gf:=fun _ i ob l1 c=>[(0,Z (M b 0)),(6,pi l),(7,nz l),(8,bC (i:Int))]) (fun i ob l1 c h=>?_) (fun e tl ih i ob l1 c h=>?_) l 0 w1 (ix.h 0).1 (ix.h 0).2 ⟨J,h⟩) (bo J)
 ·obtain⟨V,h⟩:=h
  exact fm V J<|ah<|ah<|so h▸eN J (qZ [(l1,c)]) J J
 ·obtain⟨V,h⟩:=h
  refine fj V J<|aT<|aA<|a8<|fQ fx b9 J (eF V)<|aZ J<|aw<|aS J<|aS J<|s (aC (D J))<|aW 0 oF J ?_;refine s (na pO J (.head _) (.tail _ (.head _)) (D J))<|aS J<|s (fE lr uZ (D J))<|s (bc (r:=(rI .u8)) (ys:=[(IntKind.u8.wrap e)]) (xs:=[.tmp 18]) iY tW J J J J J ⟨(D J),aM⟩)<|cL<|bM h fun l2 q_l2 h=>wA tW J J J J iY J J (D J) (D J) q_l2 fun l3 c1=>s (aC (D J))<|aW 0 oF J<|eW (EffOK.fr1 (lY (hs' :=[(0,au l3 c1 l2.length)]) (u:=au l3 c1 l2.length) pO J J mS J ⟨.inl ⟨J,J,J⟩,aM⟩ (D J) (tX (D J)) (C4 (D J)))) fun i1=>?_;refine(show RG _ _ _ _ [_,_] _ from ?_);refine aX<|dW V hN J ?_;exact bj (aV (ih (i+1) ({ob with bytes:=l2}:aU) l3 c1 ⟨dQ V,h⟩) (bo J))

def SB(b:Nat)(ix:OI) w1 l{R}(h:j7 w1 l=some R):bk aY 90 [Z (M b 0),pi l] (fg b w1 ix) (fun _:OI=>tT []) (fun j=>fg b R j):=by
 refine bk.of Tryz.func90 J J J fun w0 S0=>?_;refine(show CG _ _ _ [Q (rH cV [(0,au (ix.h 0).1 (ix.h 0).2 w1.bytes.length)]) 60 b w1,tip (rI .u8) 5 (ix.h 0).1 (ix.h 0).2 w1.bytes] _ from ?_);refine aB J<|aS J<|cw fx J<|s (bc (r:=bP) (ys:=[(l.length:Int)]) (xs:=[.tmp 6]) fx b9 J J J J J ⟨(D J),aM⟩)<|bM h fun r q_r h=>aL (EffOK.fr1 (EffOK.fr1 (an (xs:=[.tmp 4,.tmp 7]) (ts:=[Z (M b 0),pi ([(l.length:Int)])]) (fg b w1 ix) _ J w5 (q6 b ix w1 _ q_r) ⟨(D J),(D J),aM⟩ (fun _=>J)))) J fun i=>?_;refine(show RG _ _ _ _ [_,_] ((8,tT [])::_)from ?_);refine br<|aw<|aS J<|aS J<|bM h fun r1 q_r1 h=>aL (EffOK.fr1 (EffOK.fr1 (an (xs:=[.tmp 9,.tmp 10]) (ts:=[Z (M b 0),pi l]) (fg b r i) _ J w5 (q6 b i r _ q_r1) ⟨(D J),(D J),aM⟩ (fun _=>J)))) J fun i1=>?_;refine(show RG _ _ _ _ [_,_] ((11,tT [])::_)from ?_);exact aX<|ah<|ah<|so h▸eN J i1 J J

def Wh(b:Nat)(ix:OI) w1 n{R}(h:fe w1 n=some R):bk aY 84 [Z (M b 0),tD bl n] (fg b w1 ix) (fun _:OI=>tT []) (fun j=>fg b R j):=by
 refine bk.of Tryz.func84 J J J fun w0 S0=>?_;refine(show CG _ _ _ [Q (rH cV [(0,au (ix.h 0).1 (ix.h 0).2 w1.bytes.length)]) 60 b w1,tip (rI .u8) 5 (ix.h 0).1 (ix.h 0).2 w1.bytes] _ from ?_);refine a8<|eZ J<|br<|aB J<|bG wh oB b9 J<|s (bc (r:=bP) (ys:=[n.Table]) (xs:=[.tmp 6]) fx b9 J J J J J ⟨(D J),aM⟩)<|bM h fun r q_r h=>aL (EffOK.fr1 (EffOK.fr1 (an (xs:=[.tmp 4,.tmp 7]) (ts:=[Z (M b 0),pi ([n.Table])]) (fg b w1 ix) _ J w5 (q6 b ix w1 _ q_r) ⟨(D J),(D J),aM⟩ (fun _=>J)))) J fun i=>?_;refine(show RG _ _ _ _ [_,_] ((8,tT [])::_)from ?_);refine br<|aw<|aS J<|bG qO jv c0 J<|bM h fun r1 q_r1 h=>aL (EffOK.fr1 (EffOK.fr1 (an (xs:=[.tmp 9,.tmp 11]) (ts:=[Z (M b 0),pi n.Kinds]) (fg b r i) _ J YF (SB b i r _ q_r1) ⟨(D J),(D J),aM⟩ (fun _=>J)))) J fun i1=>?_;refine(show RG _ _ _ _ [_,_] ((12,tT [])::_)from ?_);exact aX<|ah<|ah<|so h▸eN J i1 J J

def Ol(b:Nat)(ix:OI) w1 is1{R}(h:gL w1 is1=some R):bk aY 61 [Z (M b 0),gI is1] (fg b w1 ix) (fun _:OI=>tT []) (fun j=>fg b R j):=by
 refine bk.of Tryz.func61 J J J fun w0 S0=>?_;refine(show CG _ _ _ [Q (rH cV [(0,au (ix.h 0).1 (ix.h 0).2 w1.bytes.length)]) 60 b w1,tip (rI .u8) 5 (ix.h 0).1 (ix.h 0).2 w1.bytes] _ from ?_);refine a8<|cM<|br ?_;refine iV (tV:=fun n=>lJ w1 n=some R) (Of:=fun n=>[Q (rH cV [(0,au (ix.h 0).1 (ix.h 0).2 w1.bytes.length)]) 60 b w1,tip (rI .u8) 5 (ix.h 0).1 (ix.h 0).2 w1.bytes]) (Gf:=fun n=>[(0,Z (M b 0)),(4,bC n)]) (fun n h=>?_) (fun hb=>?_)
 ·skip
  refine aw<|aS J<|aS J<|s (bc (r:=bP) (ys:=[n]) (xs:=[.tmp 7]) fx b9 J J J J J ⟨(D J),aM⟩)<|bM h fun r q_r h=>aL (EffOK.fr1 (EffOK.fr1 (an (xs:=[.tmp 6,.tmp 8]) (ts:=[Z (M b 0),pi ([n])]) (fg b w1 ix) _ J w5 (q6 b ix w1 _ q_r) ⟨(D J),(D J),aM⟩ (fun _=>J)))) J fun i=>?_;refine(show RG _ _ _ _ [_,_] ((9,tT [])::_)from ?_);exact aX<|ah<|ah<|so h▸eN J i J J
 ·skip
  refine aB J<|cZ h J (fun h=>?_) (fun h=>?_)
  ·refine aw<|cM<|aX ?_;exact bZ (hb (1:Int) h) (bo J)
  ·refine bE ?_;exact bZ (hb (0:Int) h) (bo J)

def SN b p bytes{R}(h:rm b p bytes=some R):jy aY 199 [d8 ((rI .u8)) b,tD Hw p,bC bytes] false (rI .u8) 5 R:=by
 refine jy.of Tryz.func199 J J J fun w0 S0=>a8<|cS false (rI .u8) 5<|s (cg w3)<|br<|aB J<|cw iY J<|aS J<|s (fS (D J) (D J))<|bM h fun mk q_mk h=>aL (Cc (r:=(rI .u8)) (x:=(0:Int)) tW J J J iY (fun _=>J) hI (D J) q_mk) J fun i=>aZ J<|aB J<|aS J<|bM h fun out q_out h=>dl tW J J J J iY J J (D J) (D J) q_out fun l c=>?_;refine aZ J<|bm<|aS J<|s (bQ hI)<|br<|aA<|bN<|gE<|sO ?_;refine aV (Dx (tV:=fun n out1 l1 c1 x=>ko p bytes n out1 x=some R) (Of:=fun out1 l1 c1 x=>[dk (rI .u8) 5 l1 c1 out1]) (Gf:=fun out1 l1 c1 x=>[(1,tD Hw p),(2,bC bytes),(7,rL l1 c1 out1),(17,bC bytes),(18,bC x)]) (fun out1 l1 c1 x h=>nn h) (fun n ih out1 l1 c1 x h=>?_) fh out l c (0:Int) h) (bo J);refine eu<|a8<|nX J<|br<|aT<|jz h J (fun h=>?_) (fun h=>?_)
 ·refine jg<|aT<|aA<|aB J<|aZ J<|aw<|aS J<|aS J<|s (fE F8 zr (D J))<|aS J<|aS J<|s (iI (D J) (D J))<|s (EA hI (D J))<|s (iI (D J) hI)<|bM h fun u q_u h=>s (BW (D J) (D J) (EL q_u))<|s (fE zr uZ (D J))<|s (bc (r:=(rI .u8)) (ys:=[(IntKind.u8.wrap (((IntKind.u64.wrap p)).fdiv (2^(min (Int.toNat (IntKind.i64.wrap ((IntKind.i64.wrap ((8:Int)*(IntKind.i64.wrap (bytes-x))))-(8:Int)))) IntKind.u64.bits))))]) (xs:=[.tmp 30]) iY tW J J J J J ⟨(D J),aM⟩)<|bM h fun out2 q_out2 h=>?_;refine dl tW J J J J iY J J (D J) (D J) q_out2 fun l2 c2=>hE J<|aX<|aF<|aG<|aw<|s (fS (D J) hI)<|aS J<|aX ?_;exact bj (aV (ih out2 l2 c2 (IntKind.i64.wrap (x+(1:Int))) h) (bo J))
 ·exact dB<|aq<|aq<|bV<|aG<|aB J<|bq J<|so h▸m6 J J
def KH b p{R}(h:qf b p=some R):jy aY 159 [d8 ((rI .u8)) b,tD Hw p] false (rI .u8) 5 R:=by
 exact jy.of Tryz.func159 J J J fun w0 S0=>a8<|cS false (rI .u8) 5<|s (cg w3)<|br<|aB J<|aS J<|u6 h abg (SN _ _ _) (ea J) fun r h l c=>bq J<|so h▸m6 J J
def SR b p bytes{R}(h:rk b p bytes=some R):jy aY 157 [d8 ((rI .u8)) b,tD md p,bC bytes] false (rI .u8) 5 R:=by
 refine jy.of Tryz.func157 J J J fun w0 S0=>a8<|cS false (rI .u8) 5<|s (cg w3)<|br<|aB J<|cw iY J<|aS J<|s (fS (D J) (D J))<|bM h fun mk q_mk h=>aL (Cc (r:=(rI .u8)) (x:=(0:Int)) tW J J J iY (fun _=>J) hI (D J) q_mk) J fun i=>aZ J<|aB J<|aS J<|bM h fun out q_out h=>dl tW J J J J iY J J (D J) (D J) q_out fun l c=>?_;refine aZ J<|bm<|aS J<|s (bQ hI)<|br<|aA<|bN<|gE<|sO ?_;refine aV (Dx (tV:=fun n out1 l1 c1 x=>ef p bytes n out1 x=some R) (Of:=fun out1 l1 c1 x=>[dk (rI .u8) 5 l1 c1 out1]) (Gf:=fun out1 l1 c1 x=>[(1,tD md p),(2,bC bytes),(7,rL l1 c1 out1),(17,bC bytes),(18,bC x)]) (fun out1 l1 c1 x h=>nn h) (fun n ih out1 l1 c1 x h=>?_) fh out l c (0:Int) h) (bo J);refine eu<|a8<|nX J<|br<|aT<|jz h J (fun h=>?_) (fun h=>?_)
 ·refine jg<|aT<|aA<|aB J<|aZ J<|aw<|aS J<|aS J<|aS J<|aS J<|s (iI (D J) (D J))<|s (EA hI (D J))<|s (iI (D J) hI)<|bM h fun u q_u h=>s (BW (D J) (D J) (EL q_u))<|s (fE zr uZ (D J))<|s (bc (r:=(rI .u8)) (ys:=[(IntKind.u8.wrap ((p).fdiv (2^(min (Int.toNat (IntKind.i64.wrap ((IntKind.i64.wrap ((8:Int)*(IntKind.i64.wrap (bytes-x))))-(8:Int)))) IntKind.u64.bits))))]) (xs:=[.tmp 29]) iY tW J J J J J ⟨(D J),aM⟩)<|bM h fun out2 q_out2 h=>dl tW J J J J iY J J (D J) (D J) q_out2 fun l2 c2=>?_;refine hE J<|aX<|aF<|aG<|aw<|s (fS (D J) hI)<|aS J<|aX ?_;exact bj (aV (ih out2 l2 c2 (IntKind.i64.wrap (x+(1:Int))) h) (bo J))
 ·exact dB<|aq<|aq<|bV<|aG<|aB J<|bq J<|so h▸m6 J J
def xY b p{R}(h:jS b p=some R):jy aY 116 [d8 ((rI .u8)) b,tD md p] false (rI .u8) 5 R:=by
 exact jy.of Tryz.func116 J J J fun w0 S0=>a8<|cS false (rI .u8) 5<|s (cg w3)<|br<|aB J<|aS J<|u6 h abG (SR _ _ _) (ea J) fun r h l c=>bq J<|so h▸m6 J J
def Ow b p{R}(h:jS b p=some R):dJ aY 116 [d8 ((rI .u8)) b,tD md p] (d8 ((rI .u8)) R):=(xY _ _ h).spec

def Ov v{R}(h:r0 v=some R):dJ aY 177 [tD be v] (tT [d8 ((rI .u8)) R.1,bC R.2]):=by
 refine eX Tryz.func177 J<|a8<|eZ J<|jh ((rI .u8))<|cM<|br<|bm<|fi dd J<|iw h Bl (sK _) (ea J) fun r h=>aZ J<|aB J<|nW J<|cZ h J (fun h=>?_) (fun h=>?_)
 ·exact aB J<|jh ((rI .u8))<|bq J<|av<|so h▸fH J J J
 ·refine jg<|a8<|bG qP ox b9 J<|s (fE lr uZ (D J))<|sb (r:=(rI .u8)) (ys:=[(IntKind.u8.wrap v.Kind)]) (xs:=[.tmp 13]) iY tW J J J J J ⟨(D J),aM⟩ J fun l c=>aZ J<|bm<|bG qP ox b9 J<|br<|aA<|a8<|bW J<|hE J<|aX ?_;refine aG<|jz h J (fun h=>?_) (fun h=>?_)
  ·refine aw<|aS J<|bG rJ rp Rh J<|s (fE Cr uZ (D J))<|s (bc (r:=(rI .u8)) (ys:=[(IntKind.u8.wrap v.N)]) (xs:=[.tmp 22]) iY tW J J J J J ⟨(D J),aM⟩)<|bM h fun b q_b h=>dl tW J J J J iY J J (D J) (D J) q_b fun l1 c1=>hE J<|aX<|aF<|aG<|aB J<|hE J<|gQ<|dm<|bB 2 J<|bB 24 J<|bB 5 J ?_;exact bB 54 J<|eY 2 J<|ba<|so h▸fH J J J
  ·refine a8<|bW J<|aZ J<|jz h J (fun h=>?_) (fun h=>?_)
   ·refine aw<|aS J<|bG rJ rp Rh J<|s (fE Cr zr (D J))<|vy<|qS 14 J<|qS 5 J<|qS 27 J<|u6 h He (xY _ _) ⟨(tX (D J)),(D J),aM⟩ fun r1 h l2 c2=>hE J<|aX<|aF<|aG<|aB J<|hE J<|gQ<|dm ?_;exact bB 2 J<|bB 5 J<|bB 31 J<|bB 54 J<|eY 2 J<|ba<|ba<|so h▸fH J J J
   ·refine a8<|bW J<|aZ J<|jz h J (fun h=>?_) (fun h=>?_)
    ·refine bM h fun l3 q_l3 h=>?_
     refine iT 9 [tc (Z (au l c (([(IntKind.u8.wrap v.Kind)]).length))),tc (df rS v.S),tc (tD rS v.S),tc (nz v.S),tc (tD (rI .u8) (IntKind.u8.wrap (v.S.length:Int))),tc (d8 ((rI .u8)) ([(IntKind.u8.wrap (v.S.length:Int))])),([6],fun ae=>Z (au ((ae.getD 0 jK).h 0).1 ((ae.getD 0 jK).h 0).2 l3.length)),tc (df rS v.S),tc (tD rS v.S)] [false,false,false,false,false,false,true,false,false] [fun _=>[dk (rI .u8) 5 l c ([(IntKind.u8.wrap v.Kind)])],fun sg=>[dk (rI .u8) 5 ((sg 6).h 0).1 ((sg 6).h 0).2 l3]] J mixed J J J J J
      ⟨⟨[⟨5,fun _=>Z (au l c (([(IntKind.u8.wrap v.Kind)]).length)),none⟩],_,0,0,J,⟨(fun _=>J),aM⟩,J,J,J,J,J,fun _ sg _ _=>ac J (lQ J)⟩,
      ⟨⟨[⟨1,fun _=>df be v,none⟩],_,0,0,J,⟨(fun _=>J),aM⟩,J,J,J,J,J,fun _ sg _ _=>ac J (w6 wq ro J J)⟩,
      ⟨⟨[⟨35,fun _=>df rS v.S,some 1⟩],_,0,0,J,⟨(fun _=>J),aM⟩,J,J,J,J,J,fun _ sg _ _=>ac J (BA V1 J J)⟩,
      ⟨⟨[⟨36,fun _=>tD rS v.S,some 2⟩],_,0,0,J,⟨(fun _=>J),aM⟩,J,J,J,J,J,fun _ sg _ _=>ac J (Dk Fx (D J))⟩,
      ⟨⟨[⟨37,fun _=>tD bP (v.S.length:Int),some 3⟩],_,0,0,J,⟨(fun _=>J),aM⟩,J,J,J,J,J,fun _ sg _ _=>ac J (fE lr uZ (D J))⟩,
      ⟨⟨[⟨38,fun _=>tD (rI .u8) (IntKind.u8.wrap (v.S.length:Int)),some 4⟩],_,0,0,J,⟨(fun _=>J),aM⟩,J,J,J,J,J,fun _ sg _ _=>ac J (bc (r:=(rI .u8)) (ys:=[(IntKind.u8.wrap (v.S.length:Int))]) (xs:=[.tmp 38]) iY tW J J J J J ⟨(D J),aM⟩)⟩,
      ⟨⟨[⟨34,fun _=>Z (au l c (([(IntKind.u8.wrap v.Kind)]).length)),some 0⟩,⟨39,fun _=>tD Jl ([(IntKind.u8.wrap (v.S.length:Int))]),some 5⟩],_,J,⟨(fun _=>J),(fun _=>J),aM⟩,J,J,J,fun sg=>bY J (uB tW J J J J iY J (D J) (D J) q_l3)⟩,
      ⟨⟨[⟨1,fun _=>df be v,none⟩],_,0,1,J,⟨(fun _=>J),aM⟩,J,J,J,J,J,fun _ sg _ _=>ac J (w6 wq ro J J)⟩,
      ⟨⟨[⟨41,fun _=>df rS v.S,some 7⟩],_,0,1,J,⟨(fun _=>J),aM⟩,J,J,J,J,J,fun _ sg _ _=>ac J (BA V1 J J)⟩,
      aM⟩⟩⟩⟩⟩⟩⟩⟩⟩ (fun sg=>?_)
     refine(show RG _ _ _ _ [_] _ from ?_);exact bM h fun b1 q_b1 h=>Na tW J J iY Fx J (D J) (D J) q_b1 fun l4 c3=>hE J<|aX<|aF<|aG<|aB J<|hE J<|gQ<|dm<|bB 2 J<|bB 43 J<|bB 5 J<|bB 54 J<|eY 2 J<|ba<|so h▸fH J J J
    ·refine a8<|bW J<|aZ J<|jz h J (fun h=>?_) (fun h=>?_)
     ·refine QE<|Ft 14 J<|Ft 5 J<|bM h fun r2 q_r2 h=>bM h fun r3 q_r3 h=>?_
      refine kM (ts:=[_,_,_,_,_,_,_,_,_]) mixed J J
       ⟨iy J J,
       ⟨Lr 1 J J (w6 rJ rp J J),
       ⟨u7 1 Rh J J,
       ⟨gk 48 2 J J (fE Cr zr (D J)),
       ⟨kx 46 0 49 3 J J J (db He (Ow _ _ q_r2) ⟨(tX (D J)),(D J),aM⟩),
       ⟨Lr 1 J J (w6 IA EQ J J),
       ⟨u7 5 pt J J,
       ⟨kx 50 4 52 6 J J J (db He (Ow _ _ q_r3) ⟨(D J),(D J),aM⟩),
       ⟨gk 53 7 J J (Jo J),
       aM⟩⟩⟩⟩⟩⟩⟩⟩⟩ ?_
      exact aF<|aG<|aB J<|hE J<|gQ<|ba<|so h▸fH J J J
     ·exact bE<|aF<|aG<|aB J<|hE J<|gQ<|dm<|bB 2 J<|bB 14 J<|bB 5 J<|bB 54 J<|eY 2 J<|ba<|so h▸fH J J J

def IG(b:Nat)(ix:OI) w1 e{R}(h:iL w1 e=some R):bk aY 130 [Z (M b 0),tD cU e] (fg b w1 ix) (fun _:OI=>tT []) (fun j=>fg b R j):=by
 refine bk.of Tryz.func130 J J J fun w0 S0=>?_;refine(show CG _ _ _ [Q (rH cV [(0,au (ix.h 0).1 (ix.h 0).2 w1.bytes.length)]) 60 b w1,tip (rI .u8) 5 (ix.h 0).1 (ix.h 0).2 w1.bytes] _ from ?_);refine a8<|eZ J<|br<|aT<|bM h fun r q_r h=>?_
 refine iT 10 [tc (Z (M b 0)),tc (Z (M b 0)),tc (Z (M b 0)),tc (Z (M b 0)),tc (tO (rI .u8) (ix.h 0).1 (ix.h 0).2 w1.bytes),tc (df (fW bD) e.Nodes),tc (d8 (bD) e.Nodes),tc (nz e.Nodes),tc (tD Hw (IntKind.u16.wrap (e.Nodes.length:Int))),([9],fun ae=>tO (rI .u8) ((ae.getD 0 jK).h 0).1 ((ae.getD 0 jK).h 0).2 r)] [false,false,false,false,false,false,false,false,false,true] [fun _=>[Q (rH cV [(0,au (ix.h 0).1 (ix.h 0).2 w1.bytes.length)]) 60 b w1,tip (rI .u8) 5 (ix.h 0).1 (ix.h 0).2 w1.bytes],fun sg=>[tip (rI .u8) 5 ((sg 9).h 0).1 ((sg 9).h 0).2 r,Q (rH cV [(0,au (ix.h 0).1 (ix.h 0).2 w1.bytes.length)]) 60 b w1,tip (rI .u8) 5 (ix.h 0).1 (ix.h 0).2 w1.bytes]] J mixed J J J J J
  ⟨⟨[⟨0,fun _=>Z (M b 0),none⟩],_,0,1,J,⟨(fun _=>J),aM⟩,J,J,J,J,J,fun _ sg _ _=>ac J (lQ J)⟩,
  ⟨⟨[⟨0,fun _=>Z (M b 0),none⟩],_,0,0,J,⟨(fun _=>J),aM⟩,J,J,J,J,J,fun _ sg _ _=>ac J (lQ J)⟩,
  ⟨⟨[⟨9,fun _=>Z (M b 0),some 1⟩],_,0,0,J,⟨(fun _=>J),aM⟩,J,J,J,J,J,fun _ sg _ _=>ac J (aC (D J))⟩,
  ⟨⟨[⟨10,fun _=>Z (M b 0),some 2⟩],_,0,0,J,⟨(fun _=>J),aM⟩,J,J,J,J,J,fun _ sg _ _=>ac J (oK 0 oF J J J)⟩,
  ⟨⟨[⟨11,fun _=>Z (M b 0),some 3⟩],_,0,0,J,⟨(fun _=>J),aM⟩,J,J,J,J,J,nD (fun sg=>ac J (na pO J (.head _) (.tail _ (.head _)) (D J)))⟩,
  ⟨⟨[⟨3,fun _=>df cU e,none⟩],_,0,0,J,⟨(fun _=>J),aM⟩,J,J,J,J,J,fun _ sg _ _=>ac J (w6 rq kS J J)⟩,
  ⟨⟨[⟨13,fun _=>df (fW bD) e.Nodes,some 5⟩],_,0,0,J,⟨(fun _=>J),aM⟩,J,J,J,J,J,fun _ sg _ _=>ac J (BA BG J J)⟩,
  ⟨⟨[⟨14,fun _=>tD (fW bD) e.Nodes,some 6⟩],_,0,0,J,⟨(fun _=>J),aM⟩,J,J,J,J,J,fun _ sg _ _=>ac J (WF sq J)⟩,
  ⟨⟨[⟨15,fun _=>tD bP (e.Nodes.length:Int),some 7⟩],_,0,0,J,⟨(fun _=>J),aM⟩,J,J,J,J,J,fun _ sg _ _=>ac J (fE lr F8 (D J))⟩,
  ⟨⟨[⟨12,fun _=>tO (rI .u8) (ix.h 0).1 (ix.h 0).2 w1.bytes,some 4⟩,⟨16,fun _=>tD Hw (IntKind.u16.wrap (e.Nodes.length:Int)),some 8⟩],_,J,⟨(fun _=>J),(fun _=>J),aM⟩,J,J,J,fun sg=>bY J (vu (xs:=[.tmp 12,.tmp 16]) (ts:=[tD Jl w1.bytes,tD Hw (IntKind.u16.wrap (e.Nodes.length:Int))]) Ww (KH _ _ q_r) ⟨(tX (D J)),(D J),aM⟩)⟩,
  aM⟩⟩⟩⟩⟩⟩⟩⟩⟩⟩ (fun sg=>?_)
 refine(show RG _ _ _ _ [_,_,_] _ from ?_);refine s (aC (D J))<|aW 0 oF J<|eW (EffOK.fr1 (lY (hs' :=[(0,au ((sg 9).h 0).1 ((sg 9).h 0).2 r.length)]) (u:=au ((sg 9).h 0).1 ((sg 9).h 0).2 r.length) pO J J mS J ⟨.inl ⟨J,J,J⟩,aM⟩ (D J) (tX (D J)) (C4 (D J)))) fun i=>?_;refine(show RG _ _ _ _ [_,_,_] _ from ?_);refine cF<|Bu<|br<|a8<|bG rq kS BG J<|cw sq J<|s (bQ hI)<|br<|aA<|bt (k:=21) J fun hN=>bN ?_;refine aV (ni (tV:=fun ls i1 ob l c=>(e.Nodes.drop i1=ls)/\dP ls ob=some R) (Of:=fun _ i1 ob l c=>[Q (rH cV [(0,au l c ob.bytes.length)]) 60 b ob,tip (rI .u8) 5 l c ob.bytes]) (Gf:=fun _ i1 ob l c=>[(0,Z (M b 0)),(21,d8 (bD) e.Nodes),(22,nz e.Nodes),(23,bC (i1:Int))]) (fun i1 ob l c h=>?_) (fun e1 tl ih i1 ob l c h=>?_) e.Nodes 0 ({w1 with bytes:=r}:aU) ((sg 9).h 0).1 ((sg 9).h 0).2 ⟨J,h⟩) (bo J)
 ·obtain⟨V,h⟩:=h
  exact fm V J<|ah<|ah<|so h▸eN J (qZ [(l,c)]) J J
 ·obtain⟨V,h⟩:=h
  refine fj V J<|aT<|aA<|a8<|fQ sq jx J (eF V)<|bw jx rO J fun b1=>bv jx ax J<|bf 5 J<|br<|aB J ?_;refine bG mn gu b9 J<|s (bc (r:=bP) (ys:=[e1.Tag]) (xs:=[.tmp 29]) fx b9 J J J J J ⟨(D J),aM⟩)<|bM h fun r1 q_r1 h=>aL (EffOK.fr1 (EffOK.fr1 (an (xs:=[.tmp 27,.tmp 30]) (ts:=[Z (M b 0),pi ([e1.Tag])]) (fg b ob (qZ [(l,c)])) _ J w5 (q6 b (qZ [(l,c)]) ob _ q_r1) ⟨(D J),(D J),aM⟩ (fun _=>J)))) J fun i2=>?_;refine(show RG _ _ _ _ [_,_] ((31,tT [])::_)from ?_);refine br<|a8<|bG mn gu b9 J<|br<|aA<|a8<|bW J<|aZ J<|jz h J (fun h=>?_) (fun h=>?_)
  ·refine aw<|aS J<|bG uy oC b9 J<|s (bc (r:=bP) (ys:=[e1.Col]) (xs:=[.tmp 38]) fx b9 J J J J J ⟨(D J),aM⟩)<|bM h fun r2 q_r2 h=>aL (EffOK.fr1 (EffOK.fr1 (an (xs:=[.tmp 36,.tmp 39]) (ts:=[Z (M b 0),pi ([e1.Col])]) (fg b r1 i2) _ J w5 (q6 b i2 r1 _ q_r2) ⟨(D J),(D J),aM⟩ (fun _=>J)))) J fun i3=>?_;refine(show RG _ _ _ _ [_,_] ((40,tT [])::_)from ?_);refine aX<|aF<|dW V hN J ?_;exact bj (aV (ih (i1+1) r2 (i3.h 0).1 (i3.h 0).2 ⟨dQ V,h⟩) (bo J))
  ·refine a8<|bW J<|aZ J<|jz h J (fun h=>?_) (fun h=>?_)
   ·refine a8<|bG wp pV dd J<|iw h Wu (Ov _) (ea J) fun r3 h=>aS J<|ek J J<|ek J J<|hE J<|aZ J<|aw<|aS J<|aS J<|s (aC (D J))<|aW 0 oF J<|s (na pO J (.head _) (.tail _ (.head _)) (D J))<|aS J<|cL<|bM h fun l1 q_l1 h=>wA tW J J J J iY J J (D J) (D J) q_l1 fun l2 c1=>s (aC (D J)) ?_;refine aW 0 oF J<|eW (EffOK.fr1 (lY (hs' :=[(0,au l2 c1 l1.length)]) (u:=au l2 c1 l1.length) pO J J mS J ⟨.inl ⟨J,J,J⟩,aM⟩ (D J) (tX (D J)) (C4 (D J)))) fun i4=>?_;refine(show RG _ _ _ _ [_,_] _ from ?_);refine aX<|aF<|dW V hN J ?_;exact bj (aV (ih (i1+1) ({r1 with bytes:=l1}:aU) l2 c1 ⟨dQ V,h⟩) (bo J))
   ·refine bE<|aF<|dW V hN J ?_;exact bj (aV (ih (i1+1) r1 (i2.h 0).1 (i2.h 0).2 ⟨dQ V,h⟩) (bo J))

def aag(b:Nat)(ix:OI) w1 n{R}(h:iK w1 n=some R):bk aY 85 [Z (M b 0),tD bl n] (fg b w1 ix) (fun _:OI=>tT []) (fun j=>fg b R j):=by
 refine bk.of Tryz.func85 J J J fun w0 S0=>?_;refine(show CG _ _ _ [Q (rH cV [(0,au (ix.h 0).1 (ix.h 0).2 w1.bytes.length)]) 60 b w1,tip (rI .u8) 5 (ix.h 0).1 (ix.h 0).2 w1.bytes] _ from ?_);refine a8<|eZ J<|br<|aB J<|bG EW wd Ad J<|bM h fun r q_r h=>aL (EffOK.fr1 (EffOK.fr1 (an (xs:=[.tmp 4,.tmp 6]) (ts:=[Z (M b 0),gI n.Left]) (fg b w1 ix) _ J Vz (Ol b ix w1 _ q_r) ⟨(D J),(D J),aM⟩ (fun _=>J)))) J fun i=>?_;refine(show RG _ _ _ _ [_,_] ((7,tT [])::_)from ?_);refine br<|aw<|aS J<|bG uS oA kY J<|bM h fun r1 q_r1 h=>aL (EffOK.fr1 (EffOK.fr1 (an (xs:=[.tmp 8,.tmp 10]) (ts:=[Z (M b 0),tD cU n.Cond]) (fg b r i) _ J OH (IG b i r _ q_r1) ⟨(D J),(D J),aM⟩ (fun _=>J)))) J fun i1=>?_;refine(show RG _ _ _ _ [_,_] ((11,tT [])::_)from ?_);exact aX<|ah<|ah<|so h▸eN J i1 J J

def aaf(b:Nat)(ix:OI) w1 n{R}(h:gH w1 n=some R):bk aY 86 [Z (M b 0),tD bl n] (fg b w1 ix) (fun _:OI=>tT []) (fun j=>fg b R j):=by
 refine bk.of Tryz.func86 J J J fun w0 S0=>?_;refine(show CG _ _ _ [Q (rH cV [(0,au (ix.h 0).1 (ix.h 0).2 w1.bytes.length)]) 60 b w1,tip (rI .u8) 5 (ix.h 0).1 (ix.h 0).2 w1.bytes] _ from ?_);refine a8<|eZ J<|br<|aw<|aS J<|bG uS oA kY J<|bM h fun r q_r h=>aL (EffOK.fr1 (EffOK.fr1 (an (xs:=[.tmp 4,.tmp 6]) (ts:=[Z (M b 0),tD cU n.Cond]) (fg b w1 ix) _ J OH (IG b ix w1 _ q_r) ⟨(D J),(D J),aM⟩ (fun _=>J)))) J fun i=>?_;refine(show RG _ _ _ _ [_,_] ((7,tT [])::_)from ?_);exact aX<|ah<|ah<|so h▸eN J i J J

def SC(b:Nat)(ix:OI) w1 n{R}(h:d6 w1 n=some R):bk aY 87 [Z (M b 0),tD bl n] (fg b w1 ix) (fun _:OI=>tT []) (fun j=>fg b R j):=by
 refine bk.of Tryz.func87 J J J fun w0 S0=>?_;refine(show CG _ _ _ [Q (rH cV [(0,au (ix.h 0).1 (ix.h 0).2 w1.bytes.length)]) 60 b w1,tip (rI .u8) 5 (ix.h 0).1 (ix.h 0).2 w1.bytes] _ from ?_);refine a8<|eZ J<|br<|aB J<|bG pX iQ c0 J<|bM h fun r q_r h=>aL (EffOK.fr1 (EffOK.fr1 (an (xs:=[.tmp 6,.tmp 8]) (ts:=[Z (M b 0),pi n.Keys]) (fg b w1 ix) _ J YF (SB b ix w1 _ q_r) ⟨(D J),(D J),aM⟩ (fun _=>J)))) J fun i=>?_;refine(show RG _ _ _ _ [_,_] ((9,tT [])::_)from ?_);refine br<|aB J<|bG nI gr wY J<|cw qr J<|s (bc (r:=bP) (ys:=[(n.Aggs.length:Int)]) (xs:=[.tmp 13]) fx b9 J J J J J ⟨(D J),aM⟩)<|bM h fun r1 q_r1 h=>aL (EffOK.fr1 (EffOK.fr1 (an (xs:=[.tmp 10,.tmp 14]) (ts:=[Z (M b 0),pi ([(n.Aggs.length:Int)])]) (fg b r i) _ J w5 (q6 b i r _ q_r1) ⟨(D J),(D J),aM⟩ (fun _=>J)))) J fun i1=>?_;refine(show RG _ _ _ _ [_,_] ((15,tT [])::_)from ?_);refine br<|a8<|bG nI gr wY J<|cw qr J<|s (bQ hI)<|br<|aA<|bt (k:=17) J fun hN=>bN ?_;refine aV (ni (tV:=fun ls i2 ob l c=>(n.Aggs.drop i2=ls)/\gU ls ob=some R) (Of:=fun _ i2 ob l c=>[Q (rH cV [(0,au l c ob.bytes.length)]) 60 b ob,tip (rI .u8) 5 l c ob.bytes]) (Gf:=fun _ i2 ob l c=>[(0,Z (M b 0)),(17,d8 (fI) n.Aggs),(18,nz n.Aggs),(19,bC (i2:Int))]) (fun i2 ob l c h=>?_) (fun e tl ih i2 ob l c h=>?_) n.Aggs 0 r1 (i1.h 0).1 (i1.h 0).2 ⟨J,h⟩) (bo J)
 ·obtain⟨V,h⟩:=h
  exact fm V J<|ah<|ah<|so h▸eN J (qZ [(l,c)]) J J
 ·obtain⟨V,h⟩:=h
  refine fj V J<|aT<|aA<|a8<|fQ qr kN J (eF V)<|bw kN uI J fun b1=>bv kN ax J<|bf 5 J<|br<|aB J ?_;refine bG pc mJ b9 J<|s (bc (r:=bP) (ys:=[e.Tag]) (xs:=[.tmp 25]) fx b9 J J J J J ⟨(D J),aM⟩)<|bM h fun r2 q_r2 h=>aL (EffOK.fr1 (EffOK.fr1 (an (xs:=[.tmp 23,.tmp 26]) (ts:=[Z (M b 0),pi ([e.Tag])]) (fg b ob (qZ [(l,c)])) _ J w5 (q6 b (qZ [(l,c)]) ob _ q_r2) ⟨(D J),(D J),aM⟩ (fun _=>J)))) J fun i3=>?_;refine(show RG _ _ _ _ [_,_] ((27,tT [])::_)from ?_);refine br<|aw<|aS J<|bG sJ qN kY J<|bM h fun r3 q_r3 h=>aL (EffOK.fr1 (EffOK.fr1 (an (xs:=[.tmp 28,.tmp 30]) (ts:=[Z (M b 0),tD cU e.Arg]) (fg b r2 i3) _ J OH (IG b i3 r2 _ q_r3) ⟨(D J),(D J),aM⟩ (fun _=>J)))) J fun i4=>?_;refine(show RG _ _ _ _ [_,_] ((31,tT [])::_)from ?_);refine aX<|dW V hN J ?_;exact bj (aV (ih (i2+1) r3 (i4.h 0).1 (i4.h 0).2 ⟨dQ V,h⟩) (bo J))

def aae(b:Nat)(ix:OI) w1 n{R}(h:gp w1 n=some R):bk aY 88 [Z (M b 0),tD bl n] (fg b w1 ix) (fun _:OI=>tT []) (fun j=>fg b R j):=by
 refine bk.of Tryz.func88 J J J fun w0 S0=>?_;refine(show CG _ _ _ [Q (rH cV [(0,au (ix.h 0).1 (ix.h 0).2 w1.bytes.length)]) 60 b w1,tip (rI .u8) 5 (ix.h 0).1 (ix.h 0).2 w1.bytes] _ from ?_);refine a8<|eZ J<|br<|aB J<|bG wg oz HK J<|cw xb J<|s (bc (r:=bP) (ys:=[(n.Items.length:Int)]) (xs:=[.tmp 9]) fx b9 J J J J J ⟨(D J),aM⟩)<|bM h fun r q_r h=>aL (EffOK.fr1 (EffOK.fr1 (an (xs:=[.tmp 6,.tmp 10]) (ts:=[Z (M b 0),pi ([(n.Items.length:Int)])]) (fg b w1 ix) _ J w5 (q6 b ix w1 _ q_r) ⟨(D J),(D J),aM⟩ (fun _=>J)))) J fun i=>?_;refine(show RG _ _ _ _ [_,_] ((11,tT [])::_)from ?_);refine br<|a8<|bG wg oz HK J<|cw xb J<|s (bQ hI)<|br<|aA<|bt (k:=13) J fun hN=>bN ?_;refine aV (ni (tV:=fun ls i1 ob l c=>(n.Items.drop i1=ls)/\gi ls ob=some R) (Of:=fun _ i1 ob l c=>[Q (rH cV [(0,au l c ob.bytes.length)]) 60 b ob,tip (rI .u8) 5 l c ob.bytes]) (Gf:=fun _ i1 ob l c=>[(0,Z (M b 0)),(13,d8 (cU) n.Items),(14,nz n.Items),(15,bC (i1:Int))]) (fun i1 ob l c h=>?_) (fun e tl ih i1 ob l c h=>?_) n.Items 0 r (i.h 0).1 (i.h 0).2 ⟨J,h⟩) (bo J)
 ·obtain⟨V,h⟩:=h
  exact fm V J<|ah<|ah<|so h▸eN J (qZ [(l,c)]) J J
 ·obtain⟨V,h⟩:=h
  refine fj V J<|aT<|aA<|a8<|fQ xb kY J (eF V)<|bw kY sr J fun b1=>bv kY ax J<|bf 5 J<|br<|aw<|aS J<|fi kY J ?_;refine bM h fun r1 q_r1 h=>aL (EffOK.fr1 (EffOK.fr1 (an (xs:=[.tmp 19,.tmp 20]) (ts:=[Z (M b 0),tD cU e]) (fg b ob (qZ [(l,c)])) _ J OH (IG b (qZ [(l,c)]) ob _ q_r1) ⟨(D J),(D J),aM⟩ (fun _=>J)))) J fun i2=>?_;refine(show RG _ _ _ _ [_,_] ((21,tT [])::_)from ?_);refine aX<|dW V hN J ?_;exact bj (aV (ih (i1+1) r1 (i2.h 0).1 (i2.h 0).2 ⟨dQ V,h⟩) (bo J))

end Go.Proofs.YtdohlidddcgfjaaGreat

