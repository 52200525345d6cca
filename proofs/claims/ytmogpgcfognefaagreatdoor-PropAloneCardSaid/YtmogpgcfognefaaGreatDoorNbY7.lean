/- cF of this claim: Y7. -/
import Derived.Test.YtmogpgcfognefaaGreatDoorNbY6
import Derived.KernelRfl
set_option linter.all false
namespace Go.Proofs.YtmogpgcfognefaaGreatDoor
open Go

theorem zV:q4=some true:=by kernel_rfl
section
variable{c:bz}{q:eM}{KS:List (List (List Int))}
theorem Cq{p:Option bH}{i a e:Int}(h:kM q c=some (p,i,a,e)):lQ q c=some (i,a,e):=by
 unfold lQ
 rw [h];rfl
theorem HH(hs:qt c)(hP:rp c q KS)(hb:kM q c=some (some ⟨q,c,KS⟩,0,0,0)){i:Nat}{f:cU}(hf:q.Frags[i]? =some f): ∃ps K,KS[i]? =some K∧vC c f K∧lP q c (i:Int)=some (ps,0)∧ps.length=f.Nodes.length∧ ∀k,k<f.Nodes.length→Gd f K ps k:=by
 obtain⟨ps,K,h1,h2,h3,h4,h5⟩:=w9 hs hP hf
 refine⟨ps,K,h1,h2,?_,h4,h5⟩
 have hi:=(lJ.1 hf).1
 unfold lP
 rw [hb,ce,dh (by simp),dh (by simp;omega),h3]
 rfl
end
end Go.Proofs.YtmogpgcfognefaaGreatDoor

