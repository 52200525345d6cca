/- cR of this claim: U3. -/
import Derived.Test.YtnmjbolollcokaaGreatDoorRcU2
set_option linter.all false
namespace Go.Proofs.YtnmjbolollcokaaGreatDoor
open Go

def xW(p:cC)(frag:Int):Prop:=1≤p.Frags.length∧p.Frags.length≤30∧0≤frag∧frag<(p.Frags.length:Int)
def KG(p:cC)(n:Int):Prop:=1≤p.Frags.length∧p.Frags.length≤30∧1≤n∧n≤8
instance(p:cC)(frag:Int):Decidable (xW p frag):=by unfold xW;infer_instance
instance(p:cC)(n:Int):Decidable (KG p n):=by unfold KG;infer_instance
theorem Ex{p:cC}{frag n:Int}(h:xW p frag)(h2:1≤n∧n≤8):po p frag n=some 0:=by
 unfold xW at h
 unfold po
 rw [bg]
 simp only [u3,oV]
 omega
theorem JA{p:cC}{frag:Int}(h:xW p frag):qd p frag=some (O3 p frag,0):=by
 unfold qd
 rw [Ex h (by omega),be,bg (by simp),Li]
 rfl
theorem JE{p:cC}{frag:Int}{n:Nat}(h:xW p frag)(h2:1≤n∧n≤8){f:bk}(hf:cK p.Frags frag=some f):nP p frag (n:Int)=some (uh f n,0):=by
 unfold nP
 rw [Ex h (by omega),be,bg (by simp),hf,be,MM f h2.2]
 rfl
end Go.Proofs.YtnmjbolollcokaaGreatDoor

