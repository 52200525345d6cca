/- bT of this claim: P3. -/
import Derived.Test.YtdohlidddcgfjaaGreatFdT
import Derived.Test.YtdohlidddcgfjaaGreatFdP2
set_option linter.all false
namespace Go.Proofs.YtdohlidddcgfjaaGreat
open Go
set_option maxRecDepth 100000

def SI e{R}(h:vt e=some R):jy aY 234 [tD cU e] false bP 3 R:=by
 refine jy.of Tryz.func234 J J J fun w0 S0=>a8<|eZ J<|cS false bP 3<|s (cg w3)<|br<|bm<|fi kY J<|iw h Wn (Ot _) (ea J) fun r h=>nW J<|cZ h J (fun h=>?_) (fun h=>?_)
 ·exact a8<|cS false bP 3<|s (cg w3)<|bS<|av<|so h▸m6 J J
 ·refine jg<|a8<|cS false bP 3<|s (cg w3)<|br<|bm<|bG rq kS BG J<|cw sq J<|s (bQ hI)<|br<|aA<|bt (k:=10) J fun hN=>bN<|gE<|sO ?_;refine aV (ni (tV:=fun ls i out l c=>(e.Nodes.drop i=ls)/\m5 ls out=some R) (Of:=fun _ i out l c=>[dk bP 3 l c out]) (Gf:=fun _ i out l c=>[(3,rL l c out),(10,d8 (bD) e.Nodes),(11,nz e.Nodes),(12,bC (i:Int))]) (fun i out l c h=>?_) (fun e1 tl ih i out l c h=>?_) e.Nodes 0 ss none 0 ⟨J,h⟩) (bo J)
  ·obtain⟨V,h⟩:=h
   refine fm V J<|aG<|aB J<|bM h fun srt q_srt h=>?_;refine Tq (n:=out.length) (ys:=srt) FZ ?_ aaL ?_ ?_ ?_ ?_ ?_
   ·rfl
   ·exact q_srt
   ·exact(D J)
   ·rfl
   ·rfl
   intro hl
   refine KZ hl 3 J<|KZ hl 25 J<|br<|aB J<|bM h fun r1 q_r1 h=>Fi [dk bP 3 l c srt] _ J aaK (X7 l c _ q_r1) ⟨(D J),aM⟩ J fun i1=>?_;refine(show RG _ _ _ _ [_] ((28,rL (i1.h 0).1 (i1.h 0).2 r1)::_)from ?_);exact bq J<|so h▸m6 J J
  ·obtain⟨V,h⟩:=h
   refine fj V J<|aT<|aA<|a8<|fQ sq jx J (eF V)<|bw jx rO J fun b=>bv jx ax J<|bf 5 J<|br<|a8<|rP mn gu J ?_;refine fi b9 J<|bW J<|cZ h J (fun h=>?_) (fun h=>?_)
   ·refine aw<|aS J<|bG uy oC b9 J<|s (bc (r:=bP) (ys:=[e1.Col]) (xs:=[.tmp 21]) fx b9 J J J J J ⟨(D J),aM⟩)<|bM h fun out1 q_out1 h=>dl b9 J J J J fx J J (D J) (D J) q_out1 fun l2 c2=>hE J<|aX<|dW V hN J ?_;exact bj (aV (ih (i+1) out1 l2 c2 ⟨dQ V,h⟩) (bo J))
   ·refine bE<|dW V hN J ?_;exact bj (aV (ih (i+1) out l c ⟨dQ V,h⟩) (bo J))
def KI ae{R}(h:dO ae=some R):jy aY 128 [pi ae] false bP 3 R:=by
 refine jy.of Tryz.func128 J J J fun w0 S0=>a8<|cS false bP 3<|s (cg w3)<|br<|bm<|aS J<|K0 fx (D J) J fun isnil hisnil=>br<|qV (D J) (fun hc=>?_) (fun hc=>?_)
 ·have V:=hisnil hc
  have h:some ss=some R:=by simpa [dO,app,V] using h
  exact a8<|cS false bP 3<|s (cg w3)<|bS<|av<|so h▸m6 J J
 ·exact jg<|a8<|sb (r:=bP) (ys:=ss) (xs:=[]) fx b9 J J J J J trivial J fun l c=>aS J<|bM h fun x q_x h=>dl b9 J J J J fx J J (D J) (D J) q_x fun l1 c1=>bq J<|so h▸m6 J J
def Yx{l:Option Nat}{c:Nat}{xs ae:List Int}{lo:Int}{R}(hs:dV xs lo (xs.length:Int)=some ae)(h:dO ae=some R):bk aY 128 [Z (nE 1 l c lo.toNat ae.length)] [dk bP 3 l c xs] (fun i:OI=>rL (i.h 0).1 (i.h 0).2 R) (fun i=>[dk bP 3 (i.h 0).1 (i.h 0).2 R,dk bP 3 l c xs]):=by
 refine bk.of Tryz.func128 J J J fun w0 S0=>a8<|s (cg w3)<|br<|bm<|aS J<|Qv (r:=bP) fx (.head _) hs (D J) J fun isnil hisnil=>br<|qV (D J) (fun hc=>?_) (fun hc=>?_)
 ·have V:=hisnil hc
  have h:some ss=some R:=by simpa [dO,app,V] using h
  exact a8<|cS false bP 3<|s (cg w3)<|bS<|av<|so h▸bF J (oi none 0) J J (fun _ _ h=>h)
 ·exact jg<|a8<|sb (r:=bP) (ys:=ss) (xs:=[]) fx b9 J J J J J trivial J fun l1 c1=>aS J<|bM h fun x q_x h=>M9 b9 J J J J fx J J (D J) (.tail _ (.head _)) hs (D J) q_x fun l2 c2=>bq J<|so h▸bF J (oi l2 c2) J J (fun _ _ h=>h)

def X6(b:Nat)(l:Option Nat)(c:Nat) stack k{R}(h:pI stack k=some R):bk aY 253 [bC k,Z (M b 0)] [Q rV 69 b (au l c stack.length),dk bP 3 l c stack] (fun i:OI=>pi R.1) (fun i=>[Q rV 69 b (au (i.h 0).1 (i.h 0).2 R.2.length),dk bP 3 (i.h 0).1 (i.h 0).2 R.2]):=by
 refine bk.of Tryz.func253 J J J fun w0 S0=>a8<|jh bP<|br<|a8<|s (pz c0 (.head _) (D J))<|s (pz c0 (.head _) (D J))<|s (ja fx (.tail _ (.head _)) (D J))<|aS J<|s (iI (D J) (D J))<|bM h fun y q_y h=>s (qd fx b9 J (.tail _ (.head _)) (D J) (D J) q_y)<|qT (.tail _ (.head _)) q_y fun hv=>cL<|bM h fun r q_r h=>Fi [dk bP 3 l c stack] _ J Tf (Yx q_y q_r) ⟨(D J),aM⟩ J fun i=>?_;refine(show RG _ _ _ _ [_,_,_] _ from ?_);refine aZ J<|a8<|s (pz c0 (.tail _ (.tail _ (.head _))) (D J))<|s (pz c0 (.tail _ (.tail _ (.head _))) (D J))<|s (ja fx (.tail _ (.head _)) (D J))<|aS J<|s (iI (D J) (D J))<|bM h fun y1 q_y1 h=>s (om fx b9 J (.tail _ (.head _)) (D J) (D J) q_y1)<|cL<|Fg q_y1<|cF<|ed c0 J ax J (D J) (Kp (D J))<|br<|aB J<|aZ J ?_;exact qU<|aH<|dm<|bB 3 J<|bB 11 J<|bB 4 J<|bB 18 J<|eY 3 J<|ba<|ah<|ah<|so h▸bF J (oi l c) J J (fun _ _ h=>h)

def U0 e do1{R}(h:pA e do1=some R):dJ aY 235 [tD cU e,(lF aY TM TK (fun(x:ap×(List Int))=>do1 x.1 x.2))] (tT [bC R.1,bC R.2]):=by
 refine eX Tryz.func235 J<|a8<|eZ J<|cM<|cM<|br<|Fu<|a8<|cS false bP 3<|bw (x:=au none 0 0) c0 (fun _=>Ia) J fun b=>br<|a8<|cM<|br<|a8<|s (vk (cts:=[Z (M b 0)]) (caps:=[.tmp 6]) ⟨(D J),aM⟩)<|hE J ?_;refine br<|a8<|cM<|br<|aT<|Fv<|aG<|bm<|bG rq kS BG J<|cw sq J<|s (bQ hI)<|br ?_;refine Hq (tV:=fun bad stack l c=>mK bad stack=some R) (Of:=fun bad stack l c=>[Q rV 69 b (au l c stack.length),dk bP 3 l c stack]) (Gf:=fun bad stack l c=>[(6,Z (M b 0)),(7,bC 0),(9,bC bad)]) (fun bad stack l c h=>?_) (fun hb=>?_)
 ·skip
  refine aG<|bm<|aS J<|nW J<|cZ h J (fun h=>?_) (fun h=>?_)
  ·exact aB J<|aS J<|hE J<|bq J<|av<|qo<|ba<|ba<|so h▸fH J J J
  ·exact jg<|a8<|s (pz c0 (.head _) (D J))<|bM h fun e1 q_e1 h=>s (iC fx b9 (.tail _ (.head _)) (D J) hI q_e1)<|s (nc (r:=bP) (i:=(0:Int)) (foff:=0) b9 J J bp J (.tail _ (.head _)) q_e1 (D J))<|hE J<|gQ<|qo<|ba<|ba<|so h▸fH J J J
 ·skip
  refine bt (k:=16) J fun hN=>bN ?_;refine aV (K8 (tV:=fun ls i bad1 stack1 l1 c1=>(e.Nodes.drop i=ls)/\ir do1 ls bad1 stack1=some R) (Of:=fun _ i bad1 stack1 l1 c1=>[Q rV 69 b (au l1 c1 stack1.length),dk bP 3 l1 c1 stack1]) (Gf:=fun _ i bad1 stack1 l1 c1=>[(1,(lF aY TM TK (fun(x:ap×(List Int))=>do1 x.1 x.2))),(6,Z (M b 0)),(7,bC 0),(8,tC 253 [Z (M b 0)]),(9,bC bad1),(16,d8 (bD) e.Nodes),(17,nz e.Nodes),(18,bC (i:Int))]) (fun i bad1 stack1 l1 c1 h=>?_) (fun e2 tl ih i bad1 stack1 l1 c1 h=>?_) e.Nodes 0 (0:Int) ss none 0 ⟨J,h⟩) (bo J)
  ·obtain⟨V,h⟩:=h
   refine fm V J ?_;exact bZ (hb bad1 stack1 l1 c1 h) (bo J)
  ·obtain⟨V,h⟩:=h
   refine fj V J<|aT<|aA<|a8<|fQ sq jx J (eF V)<|bw jx rO J fun b1=>bv jx ax J<|bf 11 J<|br<|aT<|bM h fun r q_r h=>bM h fun r1 q_r1 h=>?_;refine bM h fun r2 q_r2 h=>?_
   refine iT 12 [tc ((lF aY TM TK (fun(x:ap×(List Int))=>do1 x.1 x.2))),tc (tD bD e2),tc (tC 253 [Z (M b 0)]),tc (df bP e2.Tag),tc (bC e2.Tag),tc (bC r),tc (pi r1.1),tc (tT [bC r2.1,bC r2.2]),tc (tT [bC r2.1,bC r2.2]),tc (bC r2.1),tc (bC r2.2),tc (bC r2.1)] [false,false,false,false,false,false,true,false,false,false,false,false] [fun _=>[Q rV 69 b (au l1 c1 stack1.length),dk bP 3 l1 c1 stack1],fun sg=>[Q rV 69 b (au ((sg 6).h 0).1 ((sg 6).h 0).2 r1.2.length),dk bP 3 ((sg 6).h 0).1 ((sg 6).h 0).2 r1.2]] J mixed J J J J J
    ⟨⟨[⟨1,fun _=>(lF aY WL WJ (fun(x:ap×(List Int))=>do1 x.1 x.2)),none⟩],_,0,1,J,⟨(fun _=>J),aM⟩,J,J,J,J,J,fun _ sg _ _=>ac J (lQ J)⟩,
    ⟨⟨[⟨11,fun _=>df bD e2,none⟩],_,0,1,J,⟨(fun _=>J),aM⟩,J,J,J,J,J,fun _ sg _ _=>ac J (BA jx J J)⟩,
    ⟨⟨[⟨8,fun _=>tC 253 [Z (M b 0)],none⟩],_,0,0,J,⟨(fun _=>J),aM⟩,J,J,J,J,J,fun _ sg _ _=>ac J (lQ J)⟩,
    ⟨⟨[⟨11,fun _=>df bD e2,none⟩],_,0,0,J,⟨(fun _=>J),aM⟩,J,J,J,J,J,fun _ sg _ _=>ac J (w6 mn gu J J)⟩,
    ⟨⟨[⟨26,fun _=>df bP e2.Tag,some 3⟩],_,0,0,J,⟨(fun _=>J),aM⟩,J,J,J,J,J,fun _ sg _ _=>ac J (BA b9 J J)⟩,
    ⟨⟨[⟨27,fun _=>tD bP e2.Tag,some 4⟩],_,0,0,J,⟨(fun _=>J),aM⟩,J,J,J,J,J,fun _ sg _ _=>ac J (db Wl (Oq _ q_r) ⟨(D J),aM⟩)⟩,
    ⟨⟨[⟨25,fun _=>tC 253 [Z (M b 0)],some 2⟩,⟨28,fun _=>tD bP r,some 5⟩],_,J,⟨(fun _=>J),(fun _=>J),aM⟩,J,J,J,fun sg=>bY J (EffOK.fr1 (EffOK.fr1 (sY (xs:=[.tmp 28]) (ts:=[tD bP r]) (cts:=[Z (M b 0)]) [Q rV 69 b (au l1 c1 stack1.length),dk bP 3 l1 c1 stack1] _ J aaJ (X6 b l1 c1 _ _ q_r1) (D J) ⟨(D J),aM⟩ (fun _=>J))))⟩,
    ⟨⟨[⟨23,fun _=>(lF aY WL WJ (fun(x:ap×(List Int))=>do1 x.1 x.2)),some 0⟩,⟨24,fun _=>tD bD e2,some 1⟩,⟨29,fun _=>tD zu r1.1,some 6⟩],_,1,1,J,⟨(fun _=>J),(fun _=>J),(fun _=>J),aM⟩,J,J,J,J,J,fun _ sg _ _=>ac J (lH (args:=WL) (res:=WJ) (f:=(fun(x:ap×(List Int))=>do1 x.1 x.2)) (x:=((e2,r1.1):ap×(List Int))) (D J) q_r2 ⟨(D J),(D J),aM⟩)⟩,
    ⟨⟨[⟨30,fun _=>tT [tD bP r2.1,tD bP r2.2],some 7⟩],_,1,1,J,⟨(fun _=>J),aM⟩,J,J,J,J,J,fun _ sg _ _=>ac J (lQ J)⟩,
    ⟨⟨[⟨22,fun _=>tT [tD bP r2.1,tD bP r2.2],some 8⟩],_,1,1,J,⟨(fun _=>J),aM⟩,J,J,J,J,J,fun _ sg _ _=>ac J (Lq J J)⟩,
    ⟨⟨[⟨22,fun _=>tT [tD bP r2.1,tD bP r2.2],some 8⟩],_,1,1,J,⟨(fun _=>J),aM⟩,J,J,J,J,J,fun _ sg _ _=>ac J (Lq J J)⟩,
    ⟨⟨[⟨31,fun _=>tD bP r2.1,some 9⟩],_,1,1,J,⟨(fun _=>J),aM⟩,J,J,J,J,J,fun _ sg _ _=>ac J (Jo J)⟩,
    aM⟩⟩⟩⟩⟩⟩⟩⟩⟩⟩⟩⟩ (fun sg=>?_)
   refine(show RG _ _ _ _ [_,_] _ from ?_);refine aZ J<|bm<|aS J<|nW J<|cZ h J (fun h=>?_) (fun h=>?_)
   ·refine aB J<|aZ J<|dB<|aq<|bO J<|aq<|aq<|bV ?_;exact bZ (hb r2.2 r1.2 ((sg 6).h 0).1 ((sg 6).h 0).2 h) (bo J)
   ·refine jg<|aw<|s (pz c0 (.head _) (D J))<|aS J<|s (bc (r:=bP) (ys:=[r2.1]) (xs:=[.tmp 37]) fx b9 J J J J J ⟨(D J),aM⟩)<|cL<|bM h fun l2 q_l2 h=>dl b9 J J J J fx J J (D J) (D J) q_l2 fun l3 c2=>cL<|ed c0 J ax J (D J) (Kp (D J))<|aX<|dW V hN J ?_;exact bj (aV (ih (i+1) bad1 l2 l3 c2 ⟨dQ V,h⟩) (bo J))

def UY tag{R}(h:wP tag=some R):dJ aY 237 [bC tag] (gI R):=by
 exact eX Tryz.func237 J<|a8<|bA<|br<|aB J<|bW J<|aS J<|bz J (du J)<|bz J (fun H=>iJ (bL J H) hI)<|bz J (ua J)<|jm J J J J (fun H=>lQ J)<|jm J J J J (fun H=>g9 (bL J H) hI)<|bz J (fun H=>pS (bL J H) (fun K=>(bL J (Ab H K))))<|jW J<|bq J<|so h▸aN J J

def UZ kinds n l{R}(h:jV kinds n l=some R):dJ aY 236 [tD bD n,pi l,df po kinds] (tT [bC R.1,bC R.2]):=by
 refine eX Tryz.func236 J<|a8<|eZ J<|cM<|cM<|br<|a8<|cM<|br<|bm<|aS J<|cw fx J<|s (bQ hI)<|br<|aA<|bt (k:=12) J fun hN=>bN ?_;refine aV (yj (tV:=fun ls i own=>(l.drop i=ls)/\mM kinds n ls own=some R) (Of:=fun _ i own=>[]) (Gf:=fun _ i own=>[(2,df po kinds),(3,df bD n),(7,bC own),(12,pi l),(13,nz l),(14,bC (i:Int))]) (fun i own h=>?_) (fun e tl ih i own h=>?_) l 0 (0:Int) ⟨J,h⟩) (bo J)
 ·obtain⟨V,h⟩:=h
  refine fm V J<|aG<|aB J<|aZ J<|a8<|cM<|br ?_;refine aT<|aA<|a8<|bG mn gu b9 J<|bW J<|aZ J<|jz h J (fun h=>?_) (fun h=>?_)
  ·exact a8<|rP wp pV J<|bG qP ox b9 J<|hE J<|gQ<|ei<|so h▸fH J J J
  ·refine a8<|bG mn gu b9 J<|bW J<|aZ J<|jz h J (fun h=>?_) (fun h=>?_)
   ·exact a8<|fi c0 J<|bG uy oC b9 J<|bM h fun e1 q_e1 h=>fQ fx b9 J q_e1<|hE J<|gQ<|ei<|so h▸fH J J J
   ·refine a8<|bG mn gu b9 J<|iw h aaT (UY _) (ea J) fun r h=>aZ J<|jz h J (fun h=>?_) (fun h=>?_)
    ·refine aw<|cM<|cM<|aX<|aF<|aG<|bm<|aS J<|bW J<|aS J<|bz J (du J)<|bz J (Cx J)<|bz J (ua J)<|jm J J J J (fun H=>lQ J)<|jm J J J J (fun H=>lQ J)<|jm J J J J (fun H=>kD (bL J H) (bL J H))<|bz J (fun H=>pS (bL J H) (fun K=>(bL J (Ab H K))))<|jW J<|cZ h J (fun h=>?_) (fun h=>?_)
     ·exact a8<|cM<|gQ<|av<|so h▸fH J J J
     ·exact jg<|aB J<|hE J<|gQ<|so h▸fH J J J
    ·refine a8<|bG mn gu b9 J<|bW J<|aS J<|bz J (cj mn gu J J)<|bz J (ce b9 J J)<|bz J (mw J)<|jW J<|aS J<|bz J (cj mn gu J J)<|bz J (ce b9 J J)<|bz J (mw J)<|jW J<|aZ J<|jz h J (fun h=>?_) (fun h=>?_)
     ·refine aw<|cM<|aX<|aF<|aG<|bm<|aS J<|bW J<|aS J<|bz J (du J)<|bz J (Cx J)<|bz J (ua J)<|jm J J J J (fun H=>lQ J)<|jm J J J J (fun H=>lQ J)<|jm J J J J (fun H=>kD (bL J H) (bL J H))<|bz J (fun H=>pS (bL J H) (fun K=>(bL J (Ab H K))))<|jW J<|cZ h J (fun h=>?_) (fun h=>?_)
      ·exact a8<|cM<|gQ<|av<|so h▸fH J J J
      ·exact jg<|aB J<|hE J<|gQ<|so h▸fH J J J
     ·refine bE<|aF<|aG<|bm<|aS J<|bW J<|aS J<|bz J (du J)<|bz J (Cx J)<|bz J (ua J)<|jm J J J J (fun H=>lQ J)<|jm J J J J (fun H=>lQ J)<|jm J J J J (fun H=>kD (bL J H) (bL J H))<|bz J (fun H=>pS (bL J H) (fun K=>(bL J (Ab H K))))<|jW J<|cZ h J (fun h=>?_) (fun h=>?_)
      ·exact a8<|cM<|gQ<|av<|so h▸fH J J J
      ·exact jg<|aB J<|hE J<|gQ<|so h▸fH J J J
 ·obtain⟨V,h⟩:=h
  refine fj V J<|aT<|aA<|a8<|fQ fx b9 J (eF V)<|aZ J<|aA<|aB J<|bW J ?_;refine aS J<|bz J (du J)<|bz J (du J)<|bz J (fun H=>d9 (bL J H) (bL J H))<|jW J<|aZ J<|jz h J (fun h=>?_) (fun h=>?_)
  ·refine bE<|aF<|dW V hN J ?_;exact bj (aV (ih (i+1) own ⟨dQ V,h⟩) (bo J))
  ·refine aB J<|bW J<|aZ J<|jz h J (fun h=>?_) (fun h=>?_)
   ·refine aw<|aS J<|hE J<|aX<|aF<|dW V hN J ?_;exact bj (aV (ih (i+1) e ⟨dQ V,h⟩) (bo J))
   ·refine aw<|cM<|aX<|aF<|dW V hN J ?_;exact bj (aV (ih (i+1) C0 ⟨dQ V,h⟩) (bo J))

def Dt e kinds{R}(h:nv e kinds=some R):dJ aY 206 [tD cU e,pi kinds] (tT [bC R.1,bC R.2]):=by
 refine eX Tryz.func206 J<|a8<|eZ J<|eZ J<|cM<|cM<|br<|bm<|fi kY J<|iw h Wn (Ot _) (ea J) fun r h=>aZ J<|aB J<|nW J<|br ?_;refine jz h J (fun h=>?_) (fun h=>?_)
 ·exact aB J<|cM<|bq J<|av<|so h▸fH J J J
 ·refine jg<|bm<|fi c0 J<|cw fx J<|s (bQ hI)<|br<|aA<|bt (k:=16) J fun hN=>bN ?_;refine aV (fv (tV:=fun ls i=>(kinds.drop i=ls)/\qQ e kinds ls=some R) (Of:=fun _ i=>[]) (Gf:=fun _ i=>[(2,df cU e),(3,df po kinds),(16,pi kinds),(17,nz kinds),(18,bC (i:Int))]) (fun i h=>?_) (fun e1 tl ih i h=>?_) kinds 0 ⟨J,h⟩) (bo J)
  ·obtain⟨V,h⟩:=h
   refine fm V J<|aG<|bm<|fi kY J<|u6 h aaW (SI _) (ea J) fun r1 h l c=>s (ja fx (.head _) (D J))<|s (bQ hI)<|br<|aA ?_;refine Bx (.head _) fun hN1=>bN ?_;refine aV (fv (tV:=fun ls1 i1=>(r1.drop i1=ls1)/\m3 e kinds ls1=some R) (Of:=fun _ i1=>[dk bP 3 l c r1]) (Gf:=fun _ i1=>[(2,df cU e),(3,df po kinds),(30,rL l c r1),(31,nz r1),(32,bC (i1:Int))]) (fun i1 h=>?_) (fun e2 tl1 ih1 i1 h=>?_) r1 0 ⟨J,h⟩) (bo J)
   ·obtain⟨hx1,h⟩:=h
    refine fm hx1 J<|aG<|a8<|fi kY J<|s ((show cr _ _ _ _ ((lF aY TM TK (fun(x:ap×(List Int))=>(jV kinds) x.1 x.2)))from xE (cts:=[df po kinds]) (caps:=[.tmp 3]) aaU ⟨(D J),aM⟩ (fun x y h=>UZ _ _ _ h)))<|iw h aaV (U0 _ _) (ea J) fun r2 h=>ek J J<|ek J J<|hE J<|hE J<|aX ?_;exact aG<|qU<|ba<|so h▸fH J J J
   ·obtain⟨hx1,h⟩:=h
    refine fj hx1 J<|aT<|aA<|a8<|s (iC fx b9 (.head _) (D J) (D J) (eF hx1))<|s (nc (r:=bP) (i:=(i1:Int)) (foff:=0) b9 J J bp J (.head _) (eF hx1) (D J))<|aZ J<|aB J<|fi c0 J<|cw fx J ?_;refine s (iJ (D J) (D J))<|cZ h J (fun h=>?_) (fun h=>?_)
    ·exact a8<|cM<|gQ<|ei<|av<|ei<|ba<|so h▸fH J J J
    ·refine bE<|dW hx1 hN1 J ?_;exact bj (aV (ih1 (i1+1) ⟨dQ hx1,h⟩) (bo J))
  ·obtain⟨V,h⟩:=h
   refine fj V J<|aT<|aA<|a8<|fQ fx b9 J (eF V)<|aZ J<|aB J<|s (iZ (D J) hI)<|aS J ?_;refine bz J (du J)<|bz J (fun H=>ge (bL J H) hI)<|jW J<|cZ h J (fun h=>?_) (fun h=>?_)
   ·exact a8<|cM<|gQ<|ei<|av<|ei<|so h▸fH J J J
   ·refine bE<|dW V hN J ?_;exact bj (aV (ih (i+1) ⟨dQ V,h⟩) (bo J))

def Ou e kinds{R}(h:kf e kinds=some R):dJ aY 205 [tD cU e,pi kinds] (gI R):=by
 refine eX Tryz.func205 J<|a8<|eZ J<|bA<|br<|a8<|fi kY J<|aS J<|iw h OC (Dt _ _) (ea J) fun r h=>aS J<|ek J J<|ek J J<|hE J<|aZ J<|aB J<|bW J ?_;exact aS J<|ai J (du J)<|ai J (mw J)<|ai J (ua J)<|dF J J J J (fun H=>lQ J)<|dF J J J J (fun H=>d9 (bL J H) hI)<|ai J (fun H=>np (bL J H) (fun K=>(bL J (Ab H (vT K)))))<|c8 J<|bq J<|so h▸aN J J

def Ys(b:Nat)(ix:OI) l{R}(h:gZ l=some R):bk aY 165 [Z (M b 0)] (eG b l ix) (fun _:OI=>gI R.1) (fun j=>eG b R.2 j):=by
 refine bk.of Tryz.func165 J J J fun w0 S0=>?_;refine(show CG _ _ _ [Q (rH bu [(1,au (ix.h 0).1 (ix.h 0).2 l.kinds.length),(2,au (ix.h 1).1 (ix.h 1).2 l.open_.length)]) 168 b l,tip po 69 (ix.h 0).1 (ix.h 0).2 l.kinds,dk bP 3 (ix.h 1).1 (ix.h 1).2 l.open_] _ from ?_);refine a8<|bA<|br<|aT<|bM h fun r q_r h=>?_
 refine se 13 (ts:=[Z (M b 0),Z (M b 0),Z (M b 0),Z (M b 15),pi l.a_,Z (M b 0),Z (M b 0),Z (M b 16),pi l.b,d8 (po) ([l.a_,l.b]),pi r,Z (M b 0),Z (M b 17)]) mixed J J J
  ⟨iy J J,
  ⟨iy J J,
  ⟨gk 4 1 J J (aC (D J)),
  ⟨gk 5 2 J J (oK 15 jI J J J),
  ⟨gk 6 3 J J (aE (r:=rH bu [(1,au (ix.h 0).1 (ix.h 0).2 l.kinds.length),(2,au (ix.h 1).1 (ix.h 1).2 l.open_.length)]) (x:=l) c0 J J (eD o9) (.head _) (D J)),
  ⟨iy J J,
  ⟨gk 8 5 J J (aC (D J)),
  ⟨gk 9 6 J J (oK 16 Bf J J J),
  ⟨gk 10 7 J J (aE (r:=rH bu [(1,au (ix.h 0).1 (ix.h 0).2 l.kinds.length),(2,au (ix.h 1).1 (ix.h 1).2 l.open_.length)]) (x:=l) c0 J J (eD GW) (.head _) (D J)),
  ⟨kx 7 4 11 8 J J J (bc (r:=zu) (ys:=[l.a_,l.b]) (xs:=[.tmp 7,.tmp 11]) CX c0 J J J J J ⟨(D J),(D J),aM⟩),
  ⟨gk 12 9 J J (db abc (U8 _ q_r) ⟨(D J),aM⟩),
  ⟨gk 3 0 J J (aC (D J)),
  ⟨gk 14 11 J J (oK 17 gc J J J),
  aM⟩⟩⟩⟩⟩⟩⟩⟩⟩⟩⟩⟩⟩ ?_
 refine eW (dj c0 J (n7 (hs' :=[(1,au (ix.h 0).1 (ix.h 0).2 l.kinds.length),(2,au (ix.h 1).1 (ix.h 1).2 l.open_.length)]) sR ⟨.inr ⟨J,J⟩,.inr ⟨J,J⟩,aM⟩ J) J (D J) (D J)) fun i=>?_;refine(show RG _ _ _ _ [_,_,_] _ from ?_);refine br<|aT<|bM h fun r1 q_r1 h=>?_
 refine kM (ts:=[_,_,_,_,_,_,_,_,_,_,_]) mixed J J
  ⟨iy J J,
  ⟨gk 16 0 J J (aC (D J)),
  ⟨gk 17 1 J J (oK 3 hU J J J),
  ⟨gk 18 2 J J (oK 9 uS J J J),
  ⟨gk 19 3 J J (aE (r:=rH bu [(1,au (ix.h 0).1 (ix.h 0).2 l.kinds.length),(2,au (ix.h 1).1 (ix.h 1).2 l.open_.length)]) (x:=({l with result:=r}:al)) kY J J (eD (eh fO oA)) (.head _) (D J)),
  ⟨iy J J,
  ⟨gk 21 5 J J (aC (D J)),
  ⟨gk 22 6 J J (oK 17 gc J J J),
  ⟨gk 23 7 J J (aE (r:=rH bu [(1,au (ix.h 0).1 (ix.h 0).2 l.kinds.length),(2,au (ix.h 1).1 (ix.h 1).2 l.open_.length)]) (x:=({l with result:=r}:al)) c0 J J (eD B4) (.head _) (D J)),
  ⟨kx 20 4 24 8 J J J (db Wr (Ou _ _ q_r1) ⟨(D J),(D J),aM⟩),
  ⟨gk 25 9 J J (Jo J),
  aM⟩⟩⟩⟩⟩⟩⟩⟩⟩⟩⟩ ?_
 exact aG<|qU<|aH<|aH<|aH<|so h▸bF J ix J J (fun _ _ h=>h)

def Yr(b:Nat)(ix:OI) l{R}(h:fK l=some R):bk aY 166 [Z (M b 0)] (eG b l ix) (fun _:OI=>gI R.1) (fun j=>eG b R.2 j):=by
 refine bk.of Tryz.func166 J J J fun w0 S0=>?_;refine(show CG _ _ _ [Q (rH bu [(1,au (ix.h 0).1 (ix.h 0).2 l.kinds.length),(2,au (ix.h 1).1 (ix.h 1).2 l.open_.length)]) 168 b l,tip po 69 (ix.h 0).1 (ix.h 0).2 l.kinds,dk bP 3 (ix.h 1).1 (ix.h 1).2 l.open_] _ from ?_);refine a8<|bA<|br<|aB J<|aS J<|s (aC (D J))<|aW 15 jI J<|s (aE (r:=rH bu [(1,au (ix.h 0).1 (ix.h 0).2 l.kinds.length),(2,au (ix.h 1).1 (ix.h 1).2 l.open_.length)]) (x:=l) c0 J J (eD o9) (.head _) (D J))<|s (aC (D J))<|aW 17 gc J<|eW (dj c0 J (n7 (hs' :=[(1,au (ix.h 0).1 (ix.h 0).2 l.kinds.length),(2,au (ix.h 1).1 (ix.h 1).2 l.open_.length)]) sR ⟨.inr ⟨J,J⟩,.inr ⟨J,J⟩,aM⟩ J) J (D J) (D J)) fun i=>?_;refine(show RG _ _ _ _ [_,_,_] _ from ?_);refine br<|aT<|bM h fun r q_r h=>?_
 refine kM (ts:=[_,_,_,_,_,_,_,_,_,_,_]) mixed J J
  ⟨iy J J,
  ⟨gk 10 0 J J (aC (D J)),
  ⟨gk 11 1 J J (oK 3 hU J J J),
  ⟨gk 12 2 J J (oK 9 uS J J J),
  ⟨gk 13 3 J J (aE (r:=rH bu [(1,au (ix.h 0).1 (ix.h 0).2 l.kinds.length),(2,au (ix.h 1).1 (ix.h 1).2 l.open_.length)]) (x:=({l with result:=l.a_}:al)) kY J J (eD (eh fO oA)) (.head _) (D J)),
  ⟨iy J J,
  ⟨gk 15 5 J J (aC (D J)),
  ⟨gk 16 6 J J (oK 15 jI J J J),
  ⟨gk 17 7 J J (aE (r:=rH bu [(1,au (ix.h 0).1 (ix.h 0).2 l.kinds.length),(2,au (ix.h 1).1 (ix.h 1).2 l.open_.length)]) (x:=({l with result:=l.a_}:al)) c0 J J (eD o9) (.head _) (D J)),
  ⟨kx 14 4 18 8 J J J (db Wr (Ou _ _ q_r) ⟨(D J),(D J),aM⟩),
  ⟨gk 19 9 J J (Jo J),
  aM⟩⟩⟩⟩⟩⟩⟩⟩⟩⟩⟩ ?_
 exact aG<|qU<|aH<|aH<|aH<|so h▸bF J ix J J (fun _ _ h=>h)

end Go.Proofs.YtdohlidddcgfjaaGreat

