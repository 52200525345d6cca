/- cm of this claim: P20. -/
import Derived.Test.YthbdkceckjihgaaGreatDoorBdT
import Derived.Test.YthbdkceckjihgaaGreatDoorBdP19
import Derived.Test.YthbdkceckjihgaaGreatDoorBdMS
set_option linter.all false
namespace Go.Proofs.YthbdkceckjihgaaGreatDoor
open Go
set_option maxRecDepth 100000

def RQ s f{R}(h:j6 s f=some R):de aQ 113 [qq s,(gn aQ Qg xY (fun(x:Int)=>f x))] (aW R):=by
 refine ec Tryz.func113 I<|bl<|cv<|bX<|bv<|bo I<|cR f8 I<|af (bL hI)<|bX<|aq<|aY (k:=6) I fun hN=>bO ?_;refine aO (fU (aA:=fun ls i=>(s.drop i=ls)/\eQ f ls i=some R) (Of:=fun _ i=>[]) (Gf:=fun _ i=>[(0,qq s),(1,(gn aQ Qg xY (fun(x:Int)=>f x))),(7,kO s),(8,aW (i:Int))]) (fun i h=>?_) (fun e tl ih i h=>?_) s 0 ⟨I,h⟩) (bu I)
 ·obtain⟨D,h⟩:=h
  exact ea D I<|aJ<|bl<|fN<|so h▸aL I I
 ·obtain⟨D,h⟩:=h
  refine d9 D I<|aN<|aq<|aI I<|bw I<|aI I<|bo I<|bo I<|re f8 da I (ei D) ?_;refine dk da I<|cL h fun r q_r h=>af (gN (args:=(fun(x:Int)=>[K Q x])) (res:=G0) (f:=(fun(x:Int)=>f x)) (x:=((e):Int)) (M I) q_r ⟨(M I),J⟩)<|dl h I (fun h=>?_) (fun h=>?_)
  ·exact aI I<|a8 I<|cQ<|ai<|cQ<|so h▸aL I I
  ·refine bT<|dQ D hN I ?_;exact bf (aO (ih (i+1) ⟨dJ D,h⟩) (bu I))

end Go.Proofs.YthbdkceckjihgaaGreatDoor

