/- cH of this claim: P15. -/
import Derived.Test.YthbdkceckjihgaaGreatDoorBaT
import Derived.Test.YthbdkceckjihgaaGreatDoorBaP14
set_option linter.all false
namespace Go.Proofs.YthbdkceckjihgaaGreatDoor
open Go
set_option maxRecDepth 100000

def JX tag{R}(h:mX tag=some R):cw aH 125 [aO tag] (ia R):=by
 exact cX Tryz.func125 I<|aU<|bQ<|bG<|aG I<|eN I<|a8 I<|aK I (cO I)<|aK I (fun K=>e9 (bI I K) hI)<|aK I (m4 I)<|cd I I I I (fun K=>fh I)<|cd I I I I (fun K=>jg (bI I K) hI)<|aK I (fun K=>f9 (bI I K) (fun D=>(bI I (ku K D))))<|gU I<|aR I<|so h▸aA I I

end Go.Proofs.YthbdkceckjihgaaGreatDoor

