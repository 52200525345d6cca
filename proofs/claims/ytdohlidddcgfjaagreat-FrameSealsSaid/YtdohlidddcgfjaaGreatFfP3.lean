/- bS of this claim: P3. -/
import Derived.Test.YtdohlidddcgfjaaGreatFfT
import Derived.Test.YtdohlidddcgfjaaGreatFfP2
set_option linter.all false
namespace Go.Proofs.YtdohlidddcgfjaaGreat
open Go
set_option maxRecDepth 100000

def Tq e{R}(h:vI e=some R):jD aY 234 [tD cW e] false bP 3 R:=by
 refine jD.of Tryz.func234 J J J fun w0 S0=>bc<|fx J<|cU false bP 3<|s (cg xj)<|br<|bm<|fL lc J<|iq h Xk (O0 _) (ez J) fun r h=>nU J<|c0 h J (fun h=>?_) (fun h=>?_)
 ·exact bc<|cU false bP 3<|s (cg xj)<|bQ<|au<|so h▸ni J J
 ·refine jf<|bc<|cU false bP 3<|s (cg xj)<|br<|bm<|bG rF kY B2 J<|cr sK J<|s (bR hI)<|br<|aA<|bt (k:=10) J fun hN=>bN<|gN<|ta ?_;refine aV (nu (tV:=fun ls i out l c=>(e.Nodes.drop i=ls)/\nf ls out=some R) (Of:=fun _ i out l c=>[dr bP 3 l c out]) (Gf:=fun _ i out l c=>[(3,sa l c out),(10,eg (bC) e.Nodes),(11,nL e.Nodes),(12,bB (i:Int))]) (fun i out l c h=>?_) (fun e1 tl ih i out l c h=>?_) e.Nodes 0 rm none 0 ⟨J,h⟩) (bp J)
  ·obtain⟨V,h⟩:=h
   refine fv V J<|aG<|aB J<|bL h fun srt q_srt h=>?_;refine Uc (n:=out.length) (ys:=srt) Gq ?_ aby ?_ ?_ ?_ ?_ ?_
   ·rfl
   ·exact q_srt
   ·exact(D J)
   ·rfl
   ·rfl
   intro hl
   refine LC hl 3 J<|LC hl 25 J<|br<|aB J<|bL h fun r1 q_r1 h=>FE [dr bP 3 l c srt] _ J abx (YV l c _ q_r1) ⟨(D J),aM⟩ J fun i1=>?_;refine(show RG _ _ _ _ [_] ((28,sa (i1.h 0).1 (i1.h 0).2 r1)::_)from ?_);exact bq J<|so h▸ni J J
  ·obtain⟨V,h⟩:=h
   refine ft V J<|aU<|aA<|bc<|fV sK jC J (eK V)<|bv jC se J fun b=>bw jC aw J<|be 5 J<|br<|bc<|sf mv gy J ?_;refine fL b9 J<|bU J<|c0 h J (fun h=>?_) (fun h=>?_)
   ·refine ax<|aR J<|bG uN oP b9 J<|s (ba (r:=bP) (ys:=[e1.Col]) (xs:=[.tmp 21]) fD b9 J J J J J ⟨(D J),aM⟩)<|bL h fun out1 q_out1 h=>cY b9 J J J J fD J J (D J) (D J) q_out1 fun l2 c2=>ia J<|aX<|d6 V hN J ?_;exact bj (aV (ih (i+1) out1 l2 c2 ⟨dZ V,h⟩) (bp J))
   ·refine bE<|d6 V hN J ?_;exact bj (aV (ih (i+1) out l c ⟨dZ V,h⟩) (bp J))
def Lo ae{R}(h:dX ae=some R):jD aY 128 [pF ae] false bP 3 R:=by
 refine jD.of Tryz.func128 J J J fun w0 S0=>bc<|cU false bP 3<|s (cg xj)<|br<|bm<|aR J<|LD fD (D J) J fun isnil hisnil=>br<|q9 (D J) (fun hc=>?_) (fun hc=>?_)
 ·have V:=hisnil hc
  have h:some rm=some R:=by simpa [dX,app,V] using h
  exact bc<|cU false bP 3<|s (cg xj)<|bQ<|au<|so h▸ni J J
 ·exact jf<|bc<|m6 (r:=bP) (ys:=rm) (xs:=[]) fD b9 J J J J J trivial J fun l c=>aR J<|bL h fun x q_x h=>cY b9 J J J J fD J J (D J) (D J) q_x fun l1 c1=>bq J<|so h▸ni J J
def Zr{l:Option Nat}{c:Nat}{xs ae:List Int}{lo:Int}{R}(hs:dQ xs lo (xs.length:Int)=some ae)(h:dX ae=some R):bk aY 128 [Z (nP 1 l c lo.toNat ae.length)] [dr bP 3 l c xs] (fun i:OI=>sa (i.h 0).1 (i.h 0).2 R) (fun i=>[dr bP 3 (i.h 0).1 (i.h 0).2 R,dr bP 3 l c xs]):=by
 refine bk.of Tryz.func128 J J J fun w0 S0=>bc<|s (cg xj)<|br<|bm<|aR J<|Q6 (r:=bP) fD (.head _) hs (D J) J fun isnil hisnil=>br<|q9 (D J) (fun hc=>?_) (fun hc=>?_)
 ·have V:=hisnil hc
  have h:some rm=some R:=by simpa [dX,app,V] using h
  exact bc<|cU false bP 3<|s (cg xj)<|bQ<|au<|so h▸bF J (oi none 0) J J (fun _ _ h=>h)
 ·exact jf<|bc<|m6 (r:=bP) (ys:=rm) (xs:=[]) fD b9 J J J J J trivial J fun l1 c1=>aR J<|bL h fun x q_x h=>NJ b9 J J J J fD J J (D J) (.tail _ (.head _)) hs (D J) q_x fun l2 c2=>bq J<|so h▸bF J (oi l2 c2) J J (fun _ _ h=>h)

def YU(b:Nat)(l:Option Nat)(c:Nat) stack k{R}(h:pW stack k=some R):bk aY 253 [bB k,Z (M b 0)] [Q rV 69 b (av l c stack.length),dr bP 3 l c stack] (fun i:OI=>pF R.1) (fun i=>[Q rV 69 b (av (i.h 0).1 (i.h 0).2 R.2.length),dr bP 3 (i.h 0).1 (i.h 0).2 R.2]):=by
 refine bk.of Tryz.func253 J J J fun w0 S0=>bc<|jm bP<|br<|bc<|s (pR dc (.head _) (D J))<|s (pR dc (.head _) (D J))<|s (jg fD (.tail _ (.head _)) (D J))<|aR J<|s (iF (D J) (D J))<|bL h fun y q_y h=>s (qt fD b9 J (.tail _ (.head _)) (D J) (D J) q_y)<|q8 (.tail _ (.head _)) q_y fun hv=>cN<|bL h fun r q_r h=>FE [dr bP 3 l c stack] _ J T0 (Zr q_y q_r) ⟨(D J),aM⟩ J fun i=>?_;refine(show RG _ _ _ _ [_,_,_] _ from ?_);refine a8 J<|bc<|s (pR dc (.tail _ (.tail _ (.head _))) (D J))<|s (pR dc (.tail _ (.tail _ (.head _))) (D J))<|s (jg fD (.tail _ (.head _)) (D J))<|aR J<|s (iF (D J) (D J))<|bL h fun y1 q_y1 h=>s (oD fD b9 J (.tail _ (.head _)) (D J) (D J) q_y1)<|cN<|FC q_y1<|cI<|ej dc J aw J (D J) (KX (D J))<|br<|aB J<|a8 J ?_;exact rN<|aH<|du<|bA 3 J<|bA 11 J<|bA 4 J<|bA 18 J<|fd 3 J<|aZ<|ah<|ah<|so h▸bF J (oi l c) J J (fun _ _ h=>h)

def VM e do1{R}(h:pS e do1=some R):dR aY 235 [tD cW e,(lK aY Uw Uu (fun(x:ap×(List Int))=>do1 x.1 x.2))] (tT [bB R.1,bB R.2]):=by
 refine fc Tryz.func235 J<|bc<|fx J<|cO<|cO<|br<|FP<|bc<|cU false bP 3<|bv (x:=av none 0 0) dc (fun _=>Iy) J fun b=>br<|bc<|cO<|br<|bc<|s (vz (cts:=[Z (M b 0)]) (caps:=[.tmp 6]) ⟨(D J),aM⟩)<|ia J ?_;refine br<|bc<|cO<|br<|aU<|FQ<|aG<|bm<|bG rF kY B2 J<|cr sK J<|s (bR hI)<|br ?_;refine HO (tV:=fun bad stack l c=>mS bad stack=some R) (Of:=fun bad stack l c=>[Q rV 69 b (av l c stack.length),dr bP 3 l c stack]) (Gf:=fun bad stack l c=>[(6,Z (M b 0)),(7,bB 0),(9,bB bad)]) (fun bad stack l c h=>?_) (fun hg=>?_)
 ·skip
  refine aG<|bm<|aR J<|nU J<|c0 h J (fun h=>?_) (fun h=>?_)
  ·exact aB J<|aR J<|ia J<|bq J<|au<|qD<|aZ<|aZ<|so h▸fK J J J
  ·exact jf<|bc<|s (pR dc (.head _) (D J))<|bL h fun e1 q_e1 h=>s (gA fD b9 (.tail _ (.head _)) (D J) hI q_e1)<|s (mN (r:=bP) (i:=(0:Int)) (foff:=0) b9 J J bo J (.tail _ (.head _)) q_e1 (D J))<|ia J<|gZ<|qD<|aZ<|aZ<|so h▸fK J J J
 ·skip
  refine bt (k:=16) J fun hN=>bN ?_;refine aV (LH (tV:=fun ls i bad1 stack1 l1 c1=>(e.Nodes.drop i=ls)/\iB do1 ls bad1 stack1=some R) (Of:=fun _ i bad1 stack1 l1 c1=>[Q rV 69 b (av l1 c1 stack1.length),dr bP 3 l1 c1 stack1]) (Gf:=fun _ i bad1 stack1 l1 c1=>[(1,(lK aY Uw Uu (fun(x:ap×(List Int))=>do1 x.1 x.2))),(6,Z (M b 0)),(7,bB 0),(8,tC 253 [Z (M b 0)]),(9,bB bad1),(16,eg (bC) e.Nodes),(17,nL e.Nodes),(18,bB (i:Int))]) (fun i bad1 stack1 l1 c1 h=>?_) (fun e2 tl ih i bad1 stack1 l1 c1 h=>?_) e.Nodes 0 (0:Int) rm none 0 ⟨J,h⟩) (bp J)
  ·obtain⟨V,h⟩:=h
   refine fv V J ?_;exact bZ (hg bad1 stack1 l1 c1 h) (bp J)
  ·obtain⟨V,h⟩:=h
   refine ft V J<|aU<|aA<|bc<|fV sK jC J (eK V)<|bv jC se J fun b1=>bw jC aw J<|be 11 J<|br<|aU<|bL h fun r q_r h=>bL h fun r1 q_r1 h=>?_;refine bL h fun r2 q_r2 h=>?_
   refine iX 12 [tc ((lK aY Uw Uu (fun(x:ap×(List Int))=>do1 x.1 x.2))),tc (tD bC e2),tc (tC 253 [Z (M b 0)]),tc (dk bP e2.Tag),tc (bB e2.Tag),tc (bB r),tc (pF r1.1),tc (tT [bB r2.1,bB r2.2]),tc (tT [bB r2.1,bB r2.2]),tc (bB r2.1),tc (bB r2.2),tc (bB r2.1)] [false,false,false,false,false,false,true,false,false,false,false,false] [fun _=>[Q rV 69 b (av l1 c1 stack1.length),dr bP 3 l1 c1 stack1],fun sg=>[Q rV 69 b (av ((sg 6).h 0).1 ((sg 6).h 0).2 r1.2.length),dr bP 3 ((sg 6).h 0).1 ((sg 6).h 0).2 r1.2]] J mixed J J J J J
    ⟨⟨[⟨1,fun _=>(lK aY XJ XH (fun(x:ap×(List Int))=>do1 x.1 x.2)),none⟩],_,0,1,J,⟨(fun _=>J),aM⟩,J,J,J,J,J,fun _ sg _ _=>ac J (mn J)⟩,
    ⟨⟨[⟨11,fun _=>dk bC e2,none⟩],_,0,1,J,⟨(fun _=>J),aM⟩,J,J,J,J,J,fun _ sg _ _=>ac J (Eb jC J J)⟩,
    ⟨⟨[⟨8,fun _=>tC 253 [Z (M b 0)],none⟩],_,0,0,J,⟨(fun _=>J),aM⟩,J,J,J,J,J,fun _ sg _ _=>ac J (mn J)⟩,
    ⟨⟨[⟨11,fun _=>dk bC e2,none⟩],_,0,0,J,⟨(fun _=>J),aM⟩,J,J,J,J,J,fun _ sg _ _=>ac J (xm mv gy J J)⟩,
    ⟨⟨[⟨26,fun _=>dk bP e2.Tag,some 3⟩],_,0,0,J,⟨(fun _=>J),aM⟩,J,J,J,J,J,fun _ sg _ _=>ac J (Eb b9 J J)⟩,
    ⟨⟨[⟨27,fun _=>tD bP e2.Tag,some 4⟩],_,0,0,J,⟨(fun _=>J),aM⟩,J,J,J,J,J,fun _ sg _ _=>ac J (dz Xi (OZ _ q_r) ⟨(D J),aM⟩)⟩,
    ⟨⟨[⟨25,fun _=>tC 253 [Z (M b 0)],some 2⟩,⟨28,fun _=>tD bP r,some 5⟩],_,J,⟨(fun _=>J),(fun _=>J),aM⟩,J,J,J,fun sg=>bY J (EffOK.fr1 (EffOK.fr1 (tq (xs:=[.tmp 28]) (ts:=[tD bP r]) (cts:=[Z (M b 0)]) [Q rV 69 b (av l1 c1 stack1.length),dr bP 3 l1 c1 stack1] _ J abw (YU b l1 c1 _ _ q_r1) (D J) ⟨(D J),aM⟩ (fun _=>J))))⟩,
    ⟨⟨[⟨23,fun _=>(lK aY XJ XH (fun(x:ap×(List Int))=>do1 x.1 x.2)),some 0⟩,⟨24,fun _=>tD bC e2,some 1⟩,⟨29,fun _=>tD zK r1.1,some 6⟩],_,1,1,J,⟨(fun _=>J),(fun _=>J),(fun _=>J),aM⟩,J,J,J,J,J,fun _ sg _ _=>ac J (lM (args:=XJ) (res:=XH) (f:=(fun(x:ap×(List Int))=>do1 x.1 x.2)) (x:=((e2,r1.1):ap×(List Int))) (D J) q_r2 ⟨(D J),(D J),aM⟩)⟩,
    ⟨⟨[⟨30,fun _=>tT [tD bP r2.1,tD bP r2.2],some 7⟩],_,1,1,J,⟨(fun _=>J),aM⟩,J,J,J,J,J,fun _ sg _ _=>ac J (mn J)⟩,
    ⟨⟨[⟨22,fun _=>tT [tD bP r2.1,tD bP r2.2],some 8⟩],_,1,1,J,⟨(fun _=>J),aM⟩,J,J,J,J,J,fun _ sg _ _=>ac J (LY J J)⟩,
    ⟨⟨[⟨22,fun _=>tT [tD bP r2.1,tD bP r2.2],some 8⟩],_,1,1,J,⟨(fun _=>J),aM⟩,J,J,J,J,J,fun _ sg _ _=>ac J (LY J J)⟩,
    ⟨⟨[⟨31,fun _=>tD bP r2.1,some 9⟩],_,1,1,J,⟨(fun _=>J),aM⟩,J,J,J,J,J,fun _ sg _ _=>ac J (LS J)⟩,
    aM⟩⟩⟩⟩⟩⟩⟩⟩⟩⟩⟩⟩ (fun sg=>?_)
   refine(show RG _ _ _ _ [_,_] _ from ?_);refine a8 J<|bm<|aR J<|nU J<|c0 h J (fun h=>?_) (fun h=>?_)
   ·refine aB J<|a8 J<|dG<|aq<|bO J<|aq<|aq<|bW ?_;exact bZ (hg r2.2 r1.2 ((sg 6).h 0).1 ((sg 6).h 0).2 h) (bp J)
   ·refine jf<|ax<|s (pR dc (.head _) (D J))<|aR J<|s (ba (r:=bP) (ys:=[r2.1]) (xs:=[.tmp 37]) fD b9 J J J J J ⟨(D J),aM⟩)<|cN<|bL h fun l2 q_l2 h=>cY b9 J J J J fD J J (D J) (D J) q_l2 fun l3 c2=>cN<|ej dc J aw J (D J) (KX (D J))<|aX<|d6 V hN J ?_;exact bj (aV (ih (i+1) bad1 l2 l3 c2 ⟨dZ V,h⟩) (bp J))

def VK tag{R}(h:xa tag=some R):dR aY 237 [bB tag] (gR R):=by
 exact fc Tryz.func237 J<|bc<|bz<|br<|aB J<|bU J<|aR J<|bD J (dy J)<|bD J (fun K=>iN (bM J K) hI)<|bD J (ut J)<|jr J J J J (fun K=>mn J)<|jr J J J J (fun K=>hX (bM J K) hI)<|bD J (fun K=>qd (bM J K) (fun H=>(bM J (Au K H))))<|j5 J<|bq J<|so h▸aN J J

def VL kinds n l{R}(h:j3 kinds n l=some R):dR aY 236 [tD bC n,pF l,dk pJ kinds] (tT [bB R.1,bB R.2]):=by
 refine fc Tryz.func236 J<|bc<|fx J<|cO<|cO<|br<|bc<|cO<|br<|bm<|aR J<|cr fD J<|s (bR hI)<|br<|aA<|bt (k:=12) J fun hN=>bN ?_;refine aV (yA (tV:=fun ls i own=>(l.drop i=ls)/\mU kinds n ls own=some R) (Of:=fun _ i own=>[]) (Gf:=fun _ i own=>[(2,dk pJ kinds),(3,dk bC n),(7,bB own),(12,pF l),(13,nL l),(14,bB (i:Int))]) (fun i own h=>?_) (fun e tl ih i own h=>?_) l 0 (0:Int) ⟨J,h⟩) (bp J)
 ·obtain⟨V,h⟩:=h
  refine fv V J<|aG<|aB J<|a8 J<|bc<|cO<|br ?_;refine aU<|aA<|bc<|bG mv gy b9 J<|bU J<|a8 J<|jE h J (fun h=>?_) (fun h=>?_)
  ·exact bc<|sf wG qh J<|bG q6 oK b9 J<|ia J<|gZ<|eu<|so h▸fK J J J
  ·refine bc<|bG mv gy b9 J<|bU J<|a8 J<|jE h J (fun h=>?_) (fun h=>?_)
   ·exact bc<|fL dc J<|bG uN oP b9 J<|bL h fun e1 q_e1 h=>fV fD b9 J q_e1<|ia J<|gZ<|eu<|so h▸fK J J J
   ·refine bc<|bG mv gy b9 J<|iq h abG (VK _) (ez J) fun r h=>a8 J<|jE h J (fun h=>?_) (fun h=>?_)
    ·refine ax<|cO<|cO<|aX<|aF<|aG<|bm<|aR J<|bU J<|aR J<|bD J (dy J)<|bD J (CS J)<|bD J (ut J)<|jr J J J J (fun K=>mn J)<|jr J J J J (fun K=>mn J)<|jr J J J J (fun K=>kJ (bM J K) (bM J K))<|bD J (fun K=>qd (bM J K) (fun H=>(bM J (Au K H))))<|j5 J<|c0 h J (fun h=>?_) (fun h=>?_)
     ·exact bc<|cO<|gZ<|au<|so h▸fK J J J
     ·exact jf<|aB J<|ia J<|gZ<|so h▸fK J J J
    ·refine bc<|bG mv gy b9 J<|bU J<|aR J<|bD J (ci mv gy J J)<|bD J (ce b9 J J)<|bD J (mD J)<|j5 J<|aR J<|bD J (ci mv gy J J)<|bD J (ce b9 J J)<|bD J (mD J)<|j5 J<|a8 J<|jE h J (fun h=>?_) (fun h=>?_)
     ·refine ax<|cO<|aX<|aF<|aG<|bm<|aR J<|bU J<|aR J<|bD J (dy J)<|bD J (CS J)<|bD J (ut J)<|jr J J J J (fun K=>mn J)<|jr J J J J (fun K=>mn J)<|jr J J J J (fun K=>kJ (bM J K) (bM J K))<|bD J (fun K=>qd (bM J K) (fun H=>(bM J (Au K H))))<|j5 J<|c0 h J (fun h=>?_) (fun h=>?_)
      ·exact bc<|cO<|gZ<|au<|so h▸fK J J J
      ·exact jf<|aB J<|ia J<|gZ<|so h▸fK J J J
     ·refine bE<|aF<|aG<|bm<|aR J<|bU J<|aR J<|bD J (dy J)<|bD J (CS J)<|bD J (ut J)<|jr J J J J (fun K=>mn J)<|jr J J J J (fun K=>mn J)<|jr J J J J (fun K=>kJ (bM J K) (bM J K))<|bD J (fun K=>qd (bM J K) (fun H=>(bM J (Au K H))))<|j5 J<|c0 h J (fun h=>?_) (fun h=>?_)
      ·exact bc<|cO<|gZ<|au<|so h▸fK J J J
      ·exact jf<|aB J<|ia J<|gZ<|so h▸fK J J J
 ·obtain⟨V,h⟩:=h
  refine ft V J<|aU<|aA<|bc<|fV fD b9 J (eK V)<|a8 J<|aA<|aB J<|bU J ?_;refine aR J<|bD J (dy J)<|bD J (dy J)<|bD J (fun K=>eh (bM J K) (bM J K))<|j5 J<|a8 J<|jE h J (fun h=>?_) (fun h=>?_)
  ·refine bE<|aF<|d6 V hN J ?_;exact bj (aV (ih (i+1) own ⟨dZ V,h⟩) (bp J))
  ·refine aB J<|bU J<|a8 J<|jE h J (fun h=>?_) (fun h=>?_)
   ·refine ax<|aR J<|ia J<|aX<|aF<|d6 V hN J ?_;exact bj (aV (ih (i+1) e ⟨dZ V,h⟩) (bp J))
   ·refine ax<|cO<|aX<|aF<|d6 V hN J ?_;exact bj (aV (ih (i+1) Di ⟨dZ V,h⟩) (bp J))

def DN e kinds{R}(h:nH e kinds=some R):dR aY 206 [tD cW e,pF kinds] (tT [bB R.1,bB R.2]):=by
 refine fc Tryz.func206 J<|bc<|fx J<|fx J<|cO<|cO<|br<|bm<|fL lc J<|iq h Xk (O0 _) (ez J) fun r h=>a8 J<|aB J<|nU J<|br ?_;refine jE h J (fun h=>?_) (fun h=>?_)
 ·exact aB J<|cO<|bq J<|au<|so h▸fK J J J
 ·refine jf<|bm<|fL dc J<|cr fD J<|s (bR hI)<|br<|aA<|bt (k:=16) J fun hN=>bN ?_;refine aV (fC (tV:=fun ls i=>(kinds.drop i=ls)/\q7 e kinds ls=some R) (Of:=fun _ i=>[]) (Gf:=fun _ i=>[(2,dk cW e),(3,dk pJ kinds),(16,pF kinds),(17,nL kinds),(18,bB (i:Int))]) (fun i h=>?_) (fun e1 tl ih i h=>?_) kinds 0 ⟨J,h⟩) (bp J)
  ·obtain⟨V,h⟩:=h
   refine fv V J<|aG<|bm<|fL lc J<|tE h abJ (Tq _) (ez J) fun r1 h l c=>s (jg fD (.head _) (D J))<|s (bR hI)<|br<|aA ?_;refine BT (.head _) fun hN1=>bN ?_;refine aV (fC (tV:=fun ls1 i1=>(r1.drop i1=ls1)/\nd e kinds ls1=some R) (Of:=fun _ i1=>[dr bP 3 l c r1]) (Gf:=fun _ i1=>[(2,dk cW e),(3,dk pJ kinds),(30,sa l c r1),(31,nL r1),(32,bB (i1:Int))]) (fun i1 h=>?_) (fun e2 tl1 ih1 i1 h=>?_) r1 0 ⟨J,h⟩) (bp J)
   ·obtain⟨hx1,h⟩:=h
    refine fv hx1 J<|aG<|bc<|fL lc J<|s ((show cu _ _ _ _ ((lK aY Uw Uu (fun(x:ap×(List Int))=>(j3 kinds) x.1 x.2)))from xT (cts:=[dk pJ kinds]) (caps:=[.tmp 3]) abH ⟨(D J),aM⟩ (fun x y h=>VL _ _ _ h)))<|iq h abI (VM _ _) (ez J) fun r2 h=>ei J J<|ei J J<|ia J<|ia J<|aX ?_;exact aG<|rN<|aZ<|so h▸fK J J J
   ·obtain⟨hx1,h⟩:=h
    refine ft hx1 J<|aU<|aA<|bc<|s (gA fD b9 (.head _) (D J) (D J) (eK hx1))<|s (mN (r:=bP) (i:=(i1:Int)) (foff:=0) b9 J J bo J (.head _) (eK hx1) (D J))<|a8 J<|aB J<|fL dc J<|cr fD J ?_;refine s (iN (D J) (D J))<|c0 h J (fun h=>?_) (fun h=>?_)
    ·exact bc<|cO<|gZ<|eu<|au<|eu<|aZ<|so h▸fK J J J
    ·refine bE<|d6 hx1 hN1 J ?_;exact bj (aV (ih1 (i1+1) ⟨dZ hx1,h⟩) (bp J))
  ·obtain⟨V,h⟩:=h
   refine ft V J<|aU<|aA<|bc<|fV fD b9 J (eK V)<|a8 J<|aB J<|s (jd (D J) hI)<|aR J ?_;refine bD J (dy J)<|bD J (fun K=>gm (bM J K) hI)<|j5 J<|c0 h J (fun h=>?_) (fun h=>?_)
   ·exact bc<|cO<|gZ<|eu<|au<|eu<|so h▸fK J J J
   ·refine bE<|d6 V hN J ?_;exact bj (aV (ih (i+1) ⟨dZ V,h⟩) (bp J))

def O3 e kinds{R}(h:kp e kinds=some R):dR aY 205 [tD cW e,pF kinds] (gR R):=by
 refine fc Tryz.func205 J<|bc<|fx J<|bz<|br<|bc<|fL lc J<|aR J<|iq h Pb (DN _ _) (ez J) fun r h=>aR J<|ei J J<|ei J J<|ia J<|a8 J<|aB J<|bU J ?_;exact aR J<|ai J (dy J)<|ai J (mD J)<|ai J (ut J)<|dL J J J J (fun K=>mn J)<|dL J J J J (fun K=>eh (bM J K) hI)<|ai J (fun K=>nC (bM J K) (fun H=>(bM J (Au K (zb H)))))<|de J<|bq J<|so h▸aN J J

def Zm(b:Nat)(ix:OI) l{R}(h:hU l=some R):bk aY 165 [Z (M b 0)] (eN b l ix) (fun _:OI=>gR R.1) (fun j=>eN b R.2 j):=by
 refine bk.of Tryz.func165 J J J fun w0 S0=>?_;refine(show CG _ _ _ [Q (rH bu [(1,av (ix.h 0).1 (ix.h 0).2 l.kinds.length),(2,av (ix.h 1).1 (ix.h 1).2 l.open_.length)]) 168 b l,tip pJ 69 (ix.h 0).1 (ix.h 0).2 l.kinds,dr bP 3 (ix.h 1).1 (ix.h 1).2 l.open_] _ from ?_);refine bc<|bz<|br<|aU<|bL h fun r q_r h=>?_
 refine sx 13 (ts:=[Z (M b 0),Z (M b 0),Z (M b 0),Z (M b 15),pF l.a_,Z (M b 0),Z (M b 0),Z (M b 16),pF l.b,eg (pJ) ([l.a_,l.b]),pF r,Z (M b 0),Z (M b 17)]) mixed J J J
  ⟨iH J J,
  ⟨iH J J,
  ⟨gE 4 1 J J (aC (D J)),
  ⟨gE 5 2 J J (oZ 15 jO J J J),
  ⟨gE 6 3 J J (aE (r:=rH bu [(1,av (ix.h 0).1 (ix.h 0).2 l.kinds.length),(2,av (ix.h 1).1 (ix.h 1).2 l.open_.length)]) (x:=l) dc J J (eI pt) (.head _) (D J)),
  ⟨iH J J,
  ⟨gE 8 5 J J (aC (D J)),
  ⟨gE 9 6 J J (oZ 16 BA J J J),
  ⟨gE 10 7 J J (aE (r:=rH bu [(1,av (ix.h 0).1 (ix.h 0).2 l.kinds.length),(2,av (ix.h 1).1 (ix.h 1).2 l.open_.length)]) (x:=l) dc J J (eI Ho) (.head _) (D J)),
  ⟨kV 7 4 11 8 J J J (ba (r:=zK) (ys:=[l.a_,l.b]) (xs:=[.tmp 7,.tmp 11]) Dg dc J J J J J ⟨(D J),(D J),aM⟩),
  ⟨gE 12 9 J J (dz abZ (VV _ q_r) ⟨(D J),aM⟩),
  ⟨gE 3 0 J J (aC (D J)),
  ⟨gE 14 11 J J (oZ 17 gk J J J),
  aM⟩⟩⟩⟩⟩⟩⟩⟩⟩⟩⟩⟩⟩ ?_
 refine fb (dq dc J (ot (hs' :=[(1,av (ix.h 0).1 (ix.h 0).2 l.kinds.length),(2,av (ix.h 1).1 (ix.h 1).2 l.open_.length)]) tf ⟨.inr ⟨J,J⟩,.inr ⟨J,J⟩,aM⟩ J) J (D J) (D J)) fun i=>?_;refine(show RG _ _ _ _ [_,_,_] _ from ?_);refine br<|aU<|bL h fun r1 q_r1 h=>?_
 refine lx (ts:=[_,_,_,_,_,_,_,_,_,_,_]) mixed J J
  ⟨iH J J,
  ⟨gE 16 0 J J (aC (D J)),
  ⟨gE 17 1 J J (oZ 3 ie J J J),
  ⟨gE 18 2 J J (oZ 9 ve J J J),
  ⟨gE 19 3 J J (aE (r:=rH bu [(1,av (ix.h 0).1 (ix.h 0).2 l.kinds.length),(2,av (ix.h 1).1 (ix.h 1).2 l.open_.length)]) (x:=({l with result:=r}:al)) lc J J (eI (er fT oN)) (.head _) (D J)),
  ⟨iH J J,
  ⟨gE 21 5 J J (aC (D J)),
  ⟨gE 22 6 J J (oZ 17 gk J J J),
  ⟨gE 23 7 J J (aE (r:=rH bu [(1,av (ix.h 0).1 (ix.h 0).2 l.kinds.length),(2,av (ix.h 1).1 (ix.h 1).2 l.open_.length)]) (x:=({l with result:=r}:al)) dc J J (eI Cp) (.head _) (D J)),
  ⟨kV 20 4 24 8 J J J (dz Xo (O3 _ _ q_r1) ⟨(D J),(D J),aM⟩),
  ⟨gE 25 9 J J (LS J),
  aM⟩⟩⟩⟩⟩⟩⟩⟩⟩⟩⟩ ?_
 exact aG<|rN<|aH<|aH<|aH<|so h▸bF J ix J J (fun _ _ h=>h)

def Zl(b:Nat)(ix:OI) l{R}(h:fP l=some R):bk aY 166 [Z (M b 0)] (eN b l ix) (fun _:OI=>gR R.1) (fun j=>eN b R.2 j):=by
 refine bk.of Tryz.func166 J J J fun w0 S0=>?_;refine(show CG _ _ _ [Q (rH bu [(1,av (ix.h 0).1 (ix.h 0).2 l.kinds.length),(2,av (ix.h 1).1 (ix.h 1).2 l.open_.length)]) 168 b l,tip pJ 69 (ix.h 0).1 (ix.h 0).2 l.kinds,dr bP 3 (ix.h 1).1 (ix.h 1).2 l.open_] _ from ?_);refine bc<|bz<|br<|aB J<|aR J<|s (aC (D J))<|aW 15 jO J<|s (aE (r:=rH bu [(1,av (ix.h 0).1 (ix.h 0).2 l.kinds.length),(2,av (ix.h 1).1 (ix.h 1).2 l.open_.length)]) (x:=l) dc J J (eI pt) (.head _) (D J))<|s (aC (D J))<|aW 17 gk J<|fb (dq dc J (ot (hs' :=[(1,av (ix.h 0).1 (ix.h 0).2 l.kinds.length),(2,av (ix.h 1).1 (ix.h 1).2 l.open_.length)]) tf ⟨.inr ⟨J,J⟩,.inr ⟨J,J⟩,aM⟩ J) J (D J) (D J)) fun i=>?_;refine(show RG _ _ _ _ [_,_,_] _ from ?_);refine br<|aU<|bL h fun r q_r h=>?_
 refine lx (ts:=[_,_,_,_,_,_,_,_,_,_,_]) mixed J J
  ⟨iH J J,
  ⟨gE 10 0 J J (aC (D J)),
  ⟨gE 11 1 J J (oZ 3 ie J J J),
  ⟨gE 12 2 J J (oZ 9 ve J J J),
  ⟨gE 13 3 J J (aE (r:=rH bu [(1,av (ix.h 0).1 (ix.h 0).2 l.kinds.length),(2,av (ix.h 1).1 (ix.h 1).2 l.open_.length)]) (x:=({l with result:=l.a_}:al)) lc J J (eI (er fT oN)) (.head _) (D J)),
  ⟨iH J J,
  ⟨gE 15 5 J J (aC (D J)),
  ⟨gE 16 6 J J (oZ 15 jO J J J),
  ⟨gE 17 7 J J (aE (r:=rH bu [(1,av (ix.h 0).1 (ix.h 0).2 l.kinds.length),(2,av (ix.h 1).1 (ix.h 1).2 l.open_.length)]) (x:=({l with result:=l.a_}:al)) dc J J (eI pt) (.head _) (D J)),
  ⟨kV 14 4 18 8 J J J (dz Xo (O3 _ _ q_r) ⟨(D J),(D J),aM⟩),
  ⟨gE 19 9 J J (LS J),
  aM⟩⟩⟩⟩⟩⟩⟩⟩⟩⟩⟩ ?_
 exact aG<|rN<|aH<|aH<|aH<|so h▸bF J ix J J (fun _ _ h=>h)

end Go.Proofs.YtdohlidddcgfjaaGreat

