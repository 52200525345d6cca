import Derived.Test.YtdohlidddcgfjaaGreatFgT
import Derived.Test.YtdohlidddcgfjaaGreatFgP2
set_option linter.all false
namespace Go.Proofs.YtdohlidddcgfjaaGreat
open Go Tryz EffOK
set_option maxRecDepth 100000
def Wv e{R}(h:yT e=some R):jI bt 234 [tD bT e] false cj 3 R:=by
 refine jI.of func234 J J J fun w0 S0=>O<|eH J<|cn false cj 3<|X (cg vk)<|bC<|aN<|eb hY J<|ej h aaB (Se _) (co J) fun r h=>mV J<|bV h J (fun h=>?_) (fun h=>?_)
 ·exact O<|cn false cj 3<|X (cg vk)<|bF<|ae<|so h▸gu J J
 ·refine fy<|O<|cn false cj 3<|X (cg vk)<|bC<|aN<|aU ia fD pO J<|bX mo J<|X (cB hI)<|bC<|ak<|bJ (k:=10) J fun hN=>bK<|fT<|oG ?_;refine aM (nX (aH:=fun ls i out l c=>(e.i'.drop i=ls)/\pJ ls out=some R) (Of:=fun _ i out l c=>[d5 cj 3 l c out]) (Gf:=fun _ i out l c=>[(3,oI l c out),(10,ek (bG) e.i'),(11,mR e.i'),(12,bI (i:Int))]) (fun i out l c h=>?_) (fun e1 tl ih i out l c h=>?_) e.i' 0 y6 none 0 ⟨J,h⟩) (aX J)
  ·obtain⟨K,h⟩:=h;refine gk K J<|an<|aw J<|bR h fun srt q_srt h=>?_;refine Xr (n:=out.length) (ys:=srt) Jr ?_ ad8 ?_ ?_ ?_ ?_ ?_
   ·rfl
   ·exact q_srt
   ·exact(D J)
   ·rfl
   ·rfl
   intro hl;refine OP hl 3 J<|OP hl 25 J<|bC<|aw J<|bR h fun r1 I' h=>OS [d5 cj 3 l c srt] _ J ad7 (ace l c _ I') ⟨(D J),aV⟩ J fun i1=>?_;refine(show RG _ _ _ _ [_] ((28,oI (i1.h 0).1 (i1.h 0).2 r1)::_)from ?_);exact ba J<|so h▸gu J J
  ·obtain⟨K,h⟩:=h;refine gj K J<|aS<|ak<|O<|eE mo fF J (fh K)<|bD fF md J fun b=>be fF aq J<|bj 5 J<|bC<|O<|qX jj eY J ?_;refine eb bH J<|bl J<|bV h J (fun h=>?_) (fun h=>?_)
   ·refine ai<|Z J<|aU pF j8 bH J<|X (aT (r:=cj) (ys:=[e1.o_]) (xs:=[.tmp 21]) eh bH J J J J J ⟨(D J),aV⟩)<|bR h fun n' X' h=>bA bH J J J J eh J J (D J) (D J) X' fun l2 c2=>dM J<|aJ<|eN K hN J ?_;exact aY (aM (ih (i+1) n' l2 c2 ⟨ei K,h⟩) (aX J))
   ·refine aW<|eN K hN J ?_;exact aY (aM (ih (i+1) out l c ⟨ei K,h⟩) (aX J))
def Ow bx{R}(h:fN bx=some R):jI bt 128 [lk bx] false cj 3 R:=by
 refine jI.of func128 J J J fun w0 S0=>O<|cn false cj 3<|X (cg vk)<|bC<|aN<|Z J<|OR eh (D J) J fun isnil hisnil=>bC<|uG (D J) (fun hc=>?_) (fun hc=>?_)
 ·have K:=hisnil hc;have h:some y6=some R:=by simpa [fN,hU,K] using h
  exact O<|cn false cj 3<|X (cg vk)<|bF<|ae<|so h▸gu J J
 ·exact fy<|O<|iU (r:=cj) (ys:=y6) (xs:=[]) eh bH J J J J J trivial J fun l c=>Z J<|bR h fun x q_x h=>bA bH J J J J eh J J (D J) (D J) q_x fun l1 c1=>ba J<|so h▸gu J J
def acI{l:Option Nat}{c:Nat}{xs bx:List Int}{lo:Int}{R}(hs:dr xs lo (xs.length:Int)=some bx)(h:fN bx=some R):bU bt 128 [Q (qw 1 l c lo.toNat bx.length)] [d5 cj 3 l c xs] (fun i:OI=>oI (i.h 0).1 (i.h 0).2 R) (fun i=>[d5 cj 3 (i.h 0).1 (i.h 0).2 R,d5 cj 3 l c xs]):=by
 refine bU.of func128 J J J fun w0 S0=>O<|X (cg vk)<|bC<|aN<|Z J<|Uy (r:=cj) eh (.head _) hs (D J) J fun isnil hisnil=>bC<|uG (D J) (fun hc=>?_) (fun hc=>?_)
 ·have K:=hisnil hc;have h:some y6=some R:=by simpa [fN,hU,K] using h
  exact O<|cn false cj 3<|X (cg vk)<|bF<|ae<|so h▸ci J (oi none 0) J J (fun _ _ h=>h)
 ·exact fy<|O<|iU (r:=cj) (ys:=y6) (xs:=[]) eh bH J J J J J trivial J fun l1 c1=>Z J<|bR h fun x q_x h=>Rb bH J J J J eh J J (D J) (.tail _ (.head _)) hs (D J) q_x fun l2 c2=>ba J<|so h▸ci J (oi l2 c2) J J (fun _ _ h=>h)
def acd(b:Nat)(l:Option Nat)(c:Nat) stack k{R}(h:s7 stack k=some R):bU bt 253 [bI k,Q (M b 0)] [s rV 69 b (aI l c stack.length),d5 cj 3 l c stack] (fun i:OI=>lk R.1) (fun i=>[s rV 69 b (aI (i.h 0).1 (i.h 0).2 R.2.length),d5 cj 3 (i.h 0).1 (i.h 0).2 R.2]):=by
 refine bU.of func253 J J J fun w0 S0=>O<|fb cj<|bC<|O<|X (sY cV (.head _) (D J))<|X (sY cV (.head _) (D J))<|X (jg eh (.tail _ (.head _)) (D J))<|Z J<|X (ec (D J) (D J))<|bR h fun y M_ h=>X (tL eh bH J (.tail _ (.head _)) (D J) (D J) M_)<|uD (.tail _ (.head _)) M_ fun hv=>bf<|bR h fun r q_ h=>OS [d5 cj 3 l c stack] _ J Xg (acI M_ q_) ⟨(D J),aV⟩ J fun i=>?_;refine(show RG _ _ _ _ [_,_,_] _ from ?_);refine aK J<|O<|X (sY cV (.tail _ (.tail _ (.head _))) (D J))<|X (sY cV (.tail _ (.tail _ (.head _))) (D J))<|X (jg eh (.tail _ (.head _)) (D J))<|Z J<|X (ec (D J) (D J))<|bR h fun y1 S_ h=>X (rp eh bH J (.tail _ (.head _)) (D J) (D J) S_)<|bf<|IA S_<|cd<|eD cV J aq J (D J) (Fb (D J))<|bC<|aw J<|aK J ?_;exact qH<|aP<|dE<|bS 3 J<|bS 11 J<|bS 4 J<|bS 18 J<|fa 3 J<|aF<|ap<|ap<|so h▸ci J (oi l c) J J (fun _ _ h=>h)
def Zc e do1{R}(h:s3 e do1=some R):dk bt 235 [tD bT e,(nL bt XK XI (fun(x:bw×(List Int))=>do1 x.1 x.2))] (tT [bI R.1,bI R.2]):=by
 refine dX func235 J<|O<|eH J<|bP<|bP<|bC<|O0<|O<|cn false cj 3<|bD (x:=aI none 0 0) cV (fun _=>Lo) J fun b=>bC<|O<|bP<|bC<|O<|X (yM (cts:=[Q (M b 0)]) (caps:=[.tmp 6]) ⟨(D J),aV⟩)<|dM J ?_;refine bC<|O<|bP<|bC<|aS<|O3<|an<|aN<|aU ia fD pO J<|bX mo J<|X (cB hI)<|bC ?_;refine KH (aH:=fun bad stack l c=>oY bad stack=some R) (Of:=fun bad stack l c=>[s rV 69 b (aI l c stack.length),d5 cj 3 l c stack]) (Gf:=fun bad stack l c=>[(6,Q (M b 0)),(7,bI 0),(9,bI bad)]) (fun bad stack l c h=>?_) (fun hx=>?_)
 ·skip;refine an<|aN<|Z J<|mV J<|bV h J (fun h=>?_) (fun h=>?_)
  ·exact aw J<|Z J<|dM J<|ba J<|ae<|y5<|aF<|aF<|so h▸cM J J J
  ·exact fy<|O<|X (sY cV (.head _) (D J))<|bR h fun e1 Z' h=>X (fP eh bH (.tail _ (.head _)) (D J) hI Z')<|X (kJ (r:=cj) (i:=0) (foff:=0) bH J J bm J (.tail _ (.head _)) Z' (D J))<|dM J<|ea<|y5<|aF<|aF<|so h▸cM J J J
 ·skip;refine bJ (k:=16) J fun hN=>bK ?_;refine aM (Bu (aH:=fun ls i bad1 stack1 l1 c1=>(e.i'.drop i=ls)/\jH do1 ls bad1 stack1=some R) (Of:=fun _ i bad1 stack1 l1 c1=>[s rV 69 b (aI l1 c1 stack1.length),d5 cj 3 l1 c1 stack1]) (Gf:=fun _ i bad1 stack1 l1 c1=>[(1,(nL bt XK XI (fun(x:bw×(List Int))=>do1 x.1 x.2))),(6,Q (M b 0)),(7,bI 0),(8,tC 253 [Q (M b 0)]),(9,bI bad1),(16,ek (bG) e.i'),(17,mR e.i'),(18,bI (i:Int))]) (fun i bad1 stack1 l1 c1 h=>?_) (fun e2 tl ih i bad1 stack1 l1 c1 h=>?_) e.i' 0 0 y6 none 0 ⟨J,h⟩) (aX J)
  ·obtain⟨K,h⟩:=h;refine gk K J ?_;exact bE (hx bad1 stack1 l1 c1 h) (aX J)
  ·obtain⟨K,h⟩:=h;refine gj K J<|aS<|ak<|O<|eE mo fF J (fh K)<|bD fF md J fun b1=>be fF aq J<|bj 11 J<|bC<|aS<|bR h fun r q_ h=>bR h fun r1 I' h=>?_;refine bR h fun r2 Y' h=>?_;refine jK 12 [tc ((nL bt XK XI (fun(x:bw×(List Int))=>do1 x.1 x.2))),tc (tD bG e2),tc (tC 253 [Q (M b 0)]),tc (da cj e2.Tag),tc (bI e2.Tag),tc (bI r),tc (lk r1.1),tc (tT [bI r2.1,bI r2.2]),tc (tT [bI r2.1,bI r2.2]),tc (bI r2.1),tc (bI r2.2),tc (bI r2.1)] [false,false,false,false,false,false,true,false,false,false,false,false] [fun _=>[s rV 69 b (aI l1 c1 stack1.length),d5 cj 3 l1 c1 stack1],fun sg=>[s rV 69 b (aI ((sg 6).h 0).1 ((sg 6).h 0).2 r1.2.length),d5 cj 3 ((sg 6).h 0).1 ((sg 6).h 0).2 r1.2]] J mixed J J J J J
    ⟨⟨[⟨1,fun _=>(nL bt aa1 aaZ (fun(x:bw×(List Int))=>do1 x.1 x.2)),none⟩],_,0,1,J,⟨(fun _=>J),aV⟩,J,J,J,J,J,fun _ sg _ _=>af J (ki J)⟩,
    ⟨⟨[⟨11,fun _=>da bG e2,none⟩],_,0,1,J,⟨(fun _=>J),aV⟩,J,J,J,J,J,fun _ sg _ _=>af J (CM fF J J)⟩,
    ⟨⟨[⟨8,fun _=>tC 253 [Q (M b 0)],none⟩],_,0,0,J,⟨(fun _=>J),aV⟩,J,J,J,J,J,fun _ sg _ _=>af J (ki J)⟩,
    ⟨⟨[⟨11,fun _=>da bG e2,none⟩],_,0,0,J,⟨(fun _=>J),aV⟩,J,J,J,J,J,fun _ sg _ _=>af J (sP jj eY J J)⟩,
    ⟨⟨[⟨26,fun _=>da cj e2.Tag,some 3⟩],_,0,0,J,⟨(fun _=>J),aV⟩,J,J,J,J,J,fun _ sg _ _=>af J (CM bH J J)⟩,
    ⟨⟨[⟨27,fun _=>tD cj e2.Tag,some 4⟩],_,0,0,J,⟨(fun _=>J),aV⟩,J,J,J,J,J,fun _ sg _ _=>af J (cC aaz (Sd _ q_) ⟨(D J),aV⟩)⟩,
    ⟨⟨[⟨25,fun _=>tC 253 [Q (M b 0)],some 2⟩,⟨28,fun _=>tD cj r,some 5⟩],_,J,⟨(fun _=>J),(fun _=>J),aV⟩,J,J,J,fun sg=>cG J (fr1 (fr1 (wD (xs:=[.tmp 28]) (ts:=[tD cj r]) (cts:=[Q (M b 0)]) [s rV 69 b (aI l1 c1 stack1.length),d5 cj 3 l1 c1 stack1] _ J ad6 (acd b l1 c1 _ _ I') (D J) ⟨(D J),aV⟩ (fun _=>J))))⟩,
    ⟨⟨[⟨23,fun _=>(nL bt aa1 aaZ (fun(x:bw×(List Int))=>do1 x.1 x.2)),some 0⟩,⟨24,fun _=>tD bG e2,some 1⟩,⟨29,fun _=>tD yj r1.1,some 6⟩],_,1,1,J,⟨(fun _=>J),(fun _=>J),(fun _=>J),aV⟩,J,J,J,J,J,fun _ sg _ _=>af J (nP (args:=aa1) (res:=aaZ) (f:=(fun(x:bw×(List Int))=>do1 x.1 x.2)) (x:=((e2,r1.1):bw×(List Int))) (D J) Y' ⟨(D J),(D J),aV⟩)⟩,
    ⟨⟨[⟨30,fun _=>tT [tD cj r2.1,tD cj r2.2],some 7⟩],_,1,1,J,⟨(fun _=>J),aV⟩,J,J,J,J,J,fun _ sg _ _=>af J (ki J)⟩,
    ⟨⟨[⟨22,fun _=>tT [tD cj r2.1,tD cj r2.2],some 8⟩],_,1,1,J,⟨(fun _=>J),aV⟩,J,J,J,J,J,fun _ sg _ _=>af J (GW J J)⟩,
    ⟨⟨[⟨22,fun _=>tT [tD cj r2.1,tD cj r2.2],some 8⟩],_,1,1,J,⟨(fun _=>J),aV⟩,J,J,J,J,J,fun _ sg _ _=>af J (GW J J)⟩,
    ⟨⟨[⟨31,fun _=>tD cj r2.1,some 9⟩],_,1,1,J,⟨(fun _=>J),aV⟩,J,J,J,J,J,fun _ sg _ _=>af J (CO J)⟩,
    aV⟩⟩⟩⟩⟩⟩⟩⟩⟩⟩⟩⟩ (fun sg=>?_)
   refine(show RG _ _ _ _ [_,_] _ from ?_);refine aK J<|aN<|Z J<|mV J<|bV h J (fun h=>?_) (fun h=>?_)
   ·refine aw J<|aK J<|cL<|am<|cN J<|am<|am<|bL ?_;exact bE (hx r2.2 r1.2 ((sg 6).h 0).1 ((sg 6).h 0).2 h) (aX J)
   ·refine fy<|ai<|X (sY cV (.head _) (D J))<|Z J<|X (aT (r:=cj) (ys:=[r2.1]) (xs:=[.tmp 37]) eh bH J J J J J ⟨(D J),aV⟩)<|bf<|bR h fun l2 q_l2 h=>bA bH J J J J eh J J (D J) (D J) q_l2 fun l3 c2=>bf<|eD cV J aq J (D J) (Fb (D J))<|aJ<|eN K hN J ?_;exact aY (aM (ih (i+1) bad1 l2 l3 c2 ⟨ei K,h⟩) (aX J))
def Za tag{R}(h:Aj tag=some R):dk bt 237 [bI tag] (fU R):=by
 exact dX func237 J<|O<|bo<|bC<|aw J<|bl J<|Z J<|aB J (ca J)<|aB J (fun Y=>d9 (bg J Y) hI)<|aB J (ov J)<|d7 J J J J (fun Y=>ki J)<|d7 J J J J (fun Y=>ft (bg J Y) hI)<|aB J (fun Y=>j3 (bg J Y) (fun V=>(bg J (ub Y V))))<|dG J<|ba J<|so h▸aC J J
def Zb g' n l{R}(h:lE g' n l=some R):dk bt 236 [tD bG n,lk l,da oH g'] (tT [bI R.1,bI R.2]):=by
 refine dX func236 J<|O<|eH J<|bP<|bP<|bC<|O<|bP<|bC<|aN<|Z J<|bX eh J<|X (cB hI)<|bC<|ak<|bJ (k:=12) J fun hN=>bK ?_;refine aM (uE (aH:=fun ls i own=>(l.drop i=ls)/\o0 g' n ls own=some R) (Of:=fun _ i own=>[]) (Gf:=fun _ i own=>[(2,da oH g'),(3,da bG n),(7,bI own),(12,lk l),(13,mR l),(14,bI (i:Int))]) (fun i own h=>?_) (fun e tl ih i own h=>?_) l 0 0 ⟨J,h⟩) (aX J)
 ·obtain⟨K,h⟩:=h;refine gk K J<|an<|aw J<|aK J<|O<|bP<|bC ?_;refine aS<|ak<|O<|aU jj eY bH J<|bl J<|aK J<|fz h J (fun h=>?_) (fun h=>?_)
  ·exact O<|qX uA oo J<|aU oC kS bH J<|dM J<|ea<|cF<|so h▸cM J J J
  ·refine O<|aU jj eY bH J<|bl J<|aK J<|fz h J (fun h=>?_) (fun h=>?_)
   ·exact O<|eb cV J<|aU pF j8 bH J<|bR h fun e1 Z' h=>eE eh bH J Z'<|dM J<|ea<|cF<|so h▸cM J J J
   ·refine O<|aU jj eY bH J<|ej h aej (Za _) (co J) fun r h=>aK J<|fz h J (fun h=>?_) (fun h=>?_)
    ·refine ai<|bP<|bP<|aJ<|ah<|an<|aN<|Z J<|bl J<|Z J<|aB J (ca J)<|aB J (ud J)<|aB J (ov J)<|d7 J J J J (fun Y=>ki J)<|d7 J J J J (fun Y=>ki J)<|d7 J J J J (fun Y=>dc (bg J Y) (bg J Y))<|aB J (fun Y=>j3 (bg J Y) (fun V=>(bg J (ub Y V))))<|dG J<|bV h J (fun h=>?_) (fun h=>?_)
     ·exact O<|bP<|ea<|ae<|so h▸cM J J J
     ·exact fy<|aw J<|dM J<|ea<|so h▸cM J J J
    ·refine O<|aU jj eY bH J<|bl J<|Z J<|aB J (bu jj eY J J)<|aB J (bp bH J J)<|aB J (iq J)<|dG J<|Z J<|aB J (bu jj eY J J)<|aB J (bp bH J J)<|aB J (iq J)<|dG J<|aK J<|fz h J (fun h=>?_) (fun h=>?_)
     ·refine ai<|bP<|aJ<|ah<|an<|aN<|Z J<|bl J<|Z J<|aB J (ca J)<|aB J (ud J)<|aB J (ov J)<|d7 J J J J (fun Y=>ki J)<|d7 J J J J (fun Y=>ki J)<|d7 J J J J (fun Y=>dc (bg J Y) (bg J Y))<|aB J (fun Y=>j3 (bg J Y) (fun V=>(bg J (ub Y V))))<|dG J<|bV h J (fun h=>?_) (fun h=>?_)
      ·exact O<|bP<|ea<|ae<|so h▸cM J J J
      ·exact fy<|aw J<|dM J<|ea<|so h▸cM J J J
     ·refine aW<|ah<|an<|aN<|Z J<|bl J<|Z J<|aB J (ca J)<|aB J (ud J)<|aB J (ov J)<|d7 J J J J (fun Y=>ki J)<|d7 J J J J (fun Y=>ki J)<|d7 J J J J (fun Y=>dc (bg J Y) (bg J Y))<|aB J (fun Y=>j3 (bg J Y) (fun V=>(bg J (ub Y V))))<|dG J<|bV h J (fun h=>?_) (fun h=>?_)
      ·exact O<|bP<|ea<|ae<|so h▸cM J J J
      ·exact fy<|aw J<|dM J<|ea<|so h▸cM J J J
 ·obtain⟨K,h⟩:=h;refine gj K J<|aS<|ak<|O<|eE eh bH J (fh K)<|aK J<|ak<|aw J<|bl J ?_;refine Z J<|aB J (ca J)<|aB J (ca J)<|aB J (fun Y=>dW (bg J Y) (bg J Y))<|dG J<|aK J<|fz h J (fun h=>?_) (fun h=>?_)
  ·refine aW<|ah<|eN K hN J ?_;exact aY (aM (ih (i+1) own ⟨ei K,h⟩) (aX J))
  ·refine aw J<|bl J<|aK J<|fz h J (fun h=>?_) (fun h=>?_)
   ·refine ai<|Z J<|dM J<|aJ<|ah<|eN K hN J ?_;exact aY (aM (ih (i+1) e ⟨ei K,h⟩) (aX J))
   ·refine ai<|bP<|aJ<|ah<|eN K hN J ?_;exact aY (aM (ih (i+1) DA ⟨ei K,h⟩) (aX J))
def GI e g'{R}(h:qr e g'=some R):dk bt 206 [tD bT e,lk g'] (tT [bI R.1,bI R.2]):=by
 refine dX func206 J<|O<|eH J<|eH J<|bP<|bP<|bC<|aN<|eb hY J<|ej h aaB (Se _) (co J) fun r h=>aK J<|aw J<|mV J<|bC ?_;refine fz h J (fun h=>?_) (fun h=>?_)
 ·exact aw J<|bP<|ba J<|ae<|so h▸cM J J J
 ·refine fy<|aN<|eb cV J<|bX eh J<|X (cB hI)<|bC<|ak<|bJ (k:=16) J fun hN=>bK ?_;refine aM (f0 (aH:=fun ls i=>(g'.drop i=ls)/\uB e g' ls=some R) (Of:=fun _ i=>[]) (Gf:=fun _ i=>[(2,da bT e),(3,da oH g'),(16,lk g'),(17,mR g'),(18,bI (i:Int))]) (fun i h=>?_) (fun e1 tl ih i h=>?_) g' 0 ⟨J,h⟩) (aX J)
  ·obtain⟨K,h⟩:=h;refine gk K J<|an<|aN<|eb hY J<|lp h aem (Wv _) (co J) fun r1 h l c=>X (jg eh (.head _) (D J))<|X (cB hI)<|bC<|ak ?_;refine EJ (.head _) fun hN1=>bK ?_;refine aM (f0 (aH:=fun ls1 i1=>(r1.drop i1=ls1)/\pH e g' ls1=some R) (Of:=fun _ i1=>[d5 cj 3 l c r1]) (Gf:=fun _ i1=>[(2,da bT e),(3,da oH g'),(30,oI l c r1),(31,mR r1),(32,bI (i1:Int))]) (fun i1 h=>?_) (fun e2 tl1 ih1 i1 h=>?_) r1 0 ⟨J,h⟩) (aX J)
   ·obtain⟨l_,h⟩:=h;refine gk l_ J<|an<|O<|eb hY J<|X ((show dw _ _ _ _ ((nL bt XK XI (fun(x:bw×(List Int))=>(lE g') x.1 x.2)))from A3 (cts:=[da oH g']) (caps:=[.tmp 3]) aek ⟨(D J),aV⟩ (fun x y h=>Zb _ _ _ h)))<|ej h ael (Zc _ _) (co J) fun r2 h=>dJ J J<|dJ J J<|dM J<|dM J<|aJ ?_;exact an<|qH<|aF<|so h▸cM J J J
   ·obtain⟨l_,h⟩:=h;refine gj l_ J<|aS<|ak<|O<|X (fP eh bH (.head _) (D J) (D J) (fh l_))<|X (kJ (r:=cj) (i:=(i1:Int)) (foff:=0) bH J J bm J (.head _) (fh l_) (D J))<|aK J<|aw J<|eb cV J<|bX eh J ?_;refine X (d9 (D J) (D J))<|bV h J (fun h=>?_) (fun h=>?_)
    ·exact O<|bP<|ea<|cF<|ae<|cF<|aF<|so h▸cM J J J
    ·refine aW<|eN l_ hN1 J ?_;exact aY (aM (ih1 (i1+1) ⟨ei l_,h⟩) (aX J))
  ·obtain⟨K,h⟩:=h;refine gj K J<|aS<|ak<|O<|eE eh bH J (fh K)<|aK J<|aw J<|X (eC (D J) hI)<|Z J ?_;refine aB J (ca J)<|aB J (fun Y=>d8 (bg J Y) hI)<|dG J<|bV h J (fun h=>?_) (fun h=>?_)
   ·exact O<|bP<|ea<|cF<|ae<|cF<|so h▸cM J J J
   ·refine aW<|eN K hN J ?_;exact aY (aM (ih (i+1) ⟨ei K,h⟩) (aX J))
def Si e g'{R}(h:lV e g'=some R):dk bt 205 [tD bT e,lk g'] (fU R):=by
 refine dX func205 J<|O<|eH J<|bo<|bC<|O<|eb hY J<|Z J<|ej h Sw (GI _ _) (co J) fun r h=>Z J<|dJ J J<|dJ J J<|dM J<|aK J<|aw J<|bl J ?_;exact Z J<|ac J (ca J)<|ac J (iq J)<|ac J (ov J)<|cO J J J J (fun Y=>ki J)<|cO J J J J (fun Y=>dW (bg J Y) hI)<|ac J (fun Y=>ke (bg J Y) (fun V=>(bg J (ub Y (sL V)))))<|cm J<|ba J<|so h▸aC J J
def acB(b:Nat)(ix:OI) l{R}(h:jo l=some R):bU bt 165 [Q (M b 0)] (gx b l ix) (fun _:OI=>fU R.1) (fun j=>gx b R.2 j):=by
 refine bU.of func165 J J J fun w0 S0=>?_;refine(show CG _ _ _ [s (rH ce [(1,aI (ix.h 0).1 (ix.h 0).2 l.g'.length),(2,aI (ix.h 1).1 (ix.h 1).2 l.m'.length)]) 168 b l,lP oH 69 (ix.h 0).1 (ix.h 0).2 l.g',d5 cj 3 (ix.h 1).1 (ix.h 1).2 l.m'] _ from ?_);refine O<|bo<|bC<|aS<|bR h fun r q_ h=>?_;refine rK 13 (ts:=[Q (M b 0),Q (M b 0),Q (M b 0),Q (M b 15),lk l.a_,Q (M b 0),Q (M b 0),Q (M b 16),lk l.b,ek (oH) ([l.a_,l.b]),lk r,Q (M b 0),Q (M b 17)]) mixed J J J
  ⟨fc J J,
  ⟨fc J J,
  ⟨eS 4 1 J J (aL (D J)),
  ⟨eS 5 2 J J (pL 15 li J J J),
  ⟨eS 6 3 J J (aA (r:=rH ce [(1,aI (ix.h 0).1 (ix.h 0).2 l.g'.length),(2,aI (ix.h 1).1 (ix.h 1).2 l.m'.length)]) (x:=l) cV J J (eF sf) (.head _) (D J)),
  ⟨fc J J,
  ⟨eS 8 5 J J (aL (D J)),
  ⟨eS 9 6 J J (pL 16 Es J J J),
  ⟨eS 10 7 J J (aA (r:=rH ce [(1,aI (ix.h 0).1 (ix.h 0).2 l.g'.length),(2,aI (ix.h 1).1 (ix.h 1).2 l.m'.length)]) (x:=l) cV J J (eF Ko) (.head _) (D J)),
  ⟨fR 7 4 11 8 J J J (aT (r:=yj) (ys:=[l.a_,l.b]) (xs:=[.tmp 7,.tmp 11]) wF cV J J J J J ⟨(D J),(D J),aV⟩),
  ⟨eS 12 9 J J (cC aeD (Zl _ q_) ⟨(D J),aV⟩),
  ⟨eS 3 0 J J (aL (D J)),
  ⟨eS 14 11 J J (pL 17 iE J J J),
  aV⟩⟩⟩⟩⟩⟩⟩⟩⟩⟩⟩⟩⟩ ?_
 refine f8 (cY cV J (lG (hs' :=[(1,aI (ix.h 0).1 (ix.h 0).2 l.g'.length),(2,aI (ix.h 1).1 (ix.h 1).2 l.m'.length)]) wz ⟨.inr ⟨J,J⟩,.inr ⟨J,J⟩,aV⟩ J) J (D J) (D J)) fun i=>?_;refine(show RG _ _ _ _ [_,_,_] _ from ?_);refine bC<|aS<|bR h fun r1 I' h=>?_;refine ga (ts:=[_,_,_,_,_,_,_,_,_,_,_]) mixed J J
  ⟨fc J J,
  ⟨eS 16 0 J J (aL (D J)),
  ⟨eS 17 1 J J (pL 3 js J J J),
  ⟨eS 18 2 J J (pL 9 sN J J J),
  ⟨eS 19 3 J J (aA (r:=rH ce [(1,aI (ix.h 0).1 (ix.h 0).2 l.g'.length),(2,aI (ix.h 1).1 (ix.h 1).2 l.m'.length)]) (x:=({l with j':=r}:aE)) hY J J (eF (fY ij lX)) (.head _) (D J)),
  ⟨fc J J,
  ⟨eS 21 5 J J (aL (D J)),
  ⟨eS 22 6 J J (pL 17 iE J J J),
  ⟨eS 23 7 J J (aA (r:=rH ce [(1,aI (ix.h 0).1 (ix.h 0).2 l.g'.length),(2,aI (ix.h 1).1 (ix.h 1).2 l.m'.length)]) (x:=({l with j':=r}:aE)) cV J J (eF Fg) (.head _) (D J)),
  ⟨fR 20 4 24 8 J J J (cC aaI (Si _ _ I') ⟨(D J),(D J),aV⟩),
  ⟨eS 25 9 J J (CO J),
  aV⟩⟩⟩⟩⟩⟩⟩⟩⟩⟩⟩ ?_
 exact an<|qH<|aP<|aP<|aP<|so h▸ci J ix J J (fun _ _ h=>h)
def acA(b:Nat)(ix:OI) l{R}(h:ic l=some R):bU bt 166 [Q (M b 0)] (gx b l ix) (fun _:OI=>fU R.1) (fun j=>gx b R.2 j):=by
 refine bU.of func166 J J J fun w0 S0=>?_;refine(show CG _ _ _ [s (rH ce [(1,aI (ix.h 0).1 (ix.h 0).2 l.g'.length),(2,aI (ix.h 1).1 (ix.h 1).2 l.m'.length)]) 168 b l,lP oH 69 (ix.h 0).1 (ix.h 0).2 l.g',d5 cj 3 (ix.h 1).1 (ix.h 1).2 l.m'] _ from ?_);refine O<|bo<|bC<|aw J<|Z J<|X (aL (D J))<|aR 15 li J<|X (aA (r:=rH ce [(1,aI (ix.h 0).1 (ix.h 0).2 l.g'.length),(2,aI (ix.h 1).1 (ix.h 1).2 l.m'.length)]) (x:=l) cV J J (eF sf) (.head _) (D J))<|X (aL (D J))<|aR 17 iE J<|f8 (cY cV J (lG (hs' :=[(1,aI (ix.h 0).1 (ix.h 0).2 l.g'.length),(2,aI (ix.h 1).1 (ix.h 1).2 l.m'.length)]) wz ⟨.inr ⟨J,J⟩,.inr ⟨J,J⟩,aV⟩ J) J (D J) (D J)) fun i=>?_;refine(show RG _ _ _ _ [_,_,_] _ from ?_);refine bC<|aS<|bR h fun r q_ h=>?_;refine ga (ts:=[_,_,_,_,_,_,_,_,_,_,_]) mixed J J
  ⟨fc J J,
  ⟨eS 10 0 J J (aL (D J)),
  ⟨eS 11 1 J J (pL 3 js J J J),
  ⟨eS 12 2 J J (pL 9 sN J J J),
  ⟨eS 13 3 J J (aA (r:=rH ce [(1,aI (ix.h 0).1 (ix.h 0).2 l.g'.length),(2,aI (ix.h 1).1 (ix.h 1).2 l.m'.length)]) (x:=({l with j':=l.a_}:aE)) hY J J (eF (fY ij lX)) (.head _) (D J)),
  ⟨fc J J,
  ⟨eS 15 5 J J (aL (D J)),
  ⟨eS 16 6 J J (pL 15 li J J J),
  ⟨eS 17 7 J J (aA (r:=rH ce [(1,aI (ix.h 0).1 (ix.h 0).2 l.g'.length),(2,aI (ix.h 1).1 (ix.h 1).2 l.m'.length)]) (x:=({l with j':=l.a_}:aE)) cV J J (eF sf) (.head _) (D J)),
  ⟨fR 14 4 18 8 J J J (cC aaI (Si _ _ q_) ⟨(D J),(D J),aV⟩),
  ⟨eS 19 9 J J (CO J),
  aV⟩⟩⟩⟩⟩⟩⟩⟩⟩⟩⟩ ?_
 exact an<|qH<|aP<|aP<|aP<|so h▸ci J ix J J (fun _ _ h=>h)
