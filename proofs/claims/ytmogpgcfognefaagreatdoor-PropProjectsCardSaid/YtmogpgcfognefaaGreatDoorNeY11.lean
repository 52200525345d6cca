/- co of this claim: Y11. -/
import Derived.Test.YtmogpgcfognefaaGreatDoorNeY5
import Derived.Test.YtmogpgcfognefaaGreatDoorNeQ2
set_option linter.all false
namespace Go.Proofs.YtmogpgcfognefaaGreatDoor
open Go

theorem I9{l:al}: ∀(tl:List bf) (R:List Int),(∀e∈tl,e.Nodes.length≤5000)→R.length+tl.length≤10000→ ∃ok R',fh tl {l with result:=R}=some (ok,{l with result:=R' })∧ok=((tl.all fun e=>(rD e l.a_).2==0)&&decide (0<R.length+tl.length))∧(ok=true→R' =R++tl.map fun e=>(rD e l.a_).1)
 |[],R,_,_=>⟨_,R,rfl,by simp,fun _=>by simp⟩
 |e::tl,R,he,hl=>by
  simp only [nG]at hl
  unfold fh
  show∃ok R',(mE e l.a_).bind _=_∧_
  rw [qj _ _ (by have:=he e (lV ..);omega),cq]
  by_cases h0:(rD e l.a_).2=0
  ·rw [dd (by simp [h0])]
   show∃ok R',(kE R [(rD e l.a_).1]).bind _=_∧_
   rw [dM (by simp;omega),cq]
   obtain⟨ok,R',h1,h2,h3⟩:=I9 (l:=l) tl (R++[(rD e l.a_).1]) (fun x hx=>he x (kG _ hx)) (by simp;omega)
   refine⟨ok,R',h1,?_,fun ho=>by rw [h3 ho];simp⟩
   rw [h2]
   have e1:decide (0<(R++[(rD e l.a_).1]).length+tl.length)=true:=by simp;omega
   have e2:decide (0<R.length+(e::tl).length)=true:=by simp;omega
   rw [e1,e2]
   simp [h0]
  ·rw [dy (by simpa using h0)]
   exact⟨false,R,rfl,by simp [h0],fun h=>by cases h⟩
end Go.Proofs.YtmogpgcfognefaaGreatDoor


