/- bT of this claim: L5. -/
import Derived.Test.YtdohlidddcgfjaaGreatFdQ2
set_option linter.all false
namespace Go.Proofs.YtdohlidddcgfjaaGreat
open Go

def FN(op:Int):Bool:=decide (1<=op)&&decide (op<=8)
def nm{op:Int}(h:FN op=true):op=1\/op=2\/op=3\/op=4\/op=5\/op=6\/op=7\/op=8:=by
 simp [FN]at h;omega
def BV(n:aa):Bool:=(oT n).getD false
def oS(n:aa):oT n=some (BV n):=by
 unfold BV oT
 repeat' split
 all_goals rfl
def XA{α:Type}(l:List α):((l.length:Int)==0)=l.isEmpty:=by cases l<;>simp<;>omega
def Xz{α:Type}(l:List α):decide ((0:Int)<(l.length:Int))= !l.isEmpty:=by cases l<;>simp<;>omega
def Eo(op:Int):rW op=some (if op=1 then 0 else if op=2\/op=7 then 2 else if FN op then 1 else -1):=by
 unfold rW qE lb
 by_cases h:FN op=true
 ·rcases nm h with rfl|rfl|rfl|rfl|rfl|rfl|rfl|rfl<;>rfl
 ·have h' : ¬(1<=op/\op<=8):=fun hh=>h (by simp [FN];omega)
  have Y: ¬op=1:=by omega
  have X: ¬op=2:=by omega
  have d: ¬op=3:=by omega
  have h4: ¬op=4:=by omega
  have h5: ¬op=5:=by omega
  have h6: ¬op=6:=by omega
  have h7: ¬op=7:=by omega
  have h8: ¬op=8:=by omega
  simp [Y,X,d,h4,h5,h6,h7,h8,h]
structure Ci(l:ie)(j:Nat)(f:Int)(ks:List Int)(ae:Nat):Prop where
 pos:1<=ae
 le:ae<=j+1
 fst:f=(j:Int)+1-(ae:Int)
 size: ∀fu,j+1<fu->dG fu l (j:Int)=some (ae:Int)
 len:ks.length<=16
 kinds: ∀fu,j+1<fu->gY fu l (j:Int)=some (ks,true)
structure QA(l:ie)(i:Nat)(first:List Int)(kinds:List (List Int)):Prop where
 fl:first.length=i
 kl:kinds.length=i
 node: ∀j,j<i-> ∃f ks ae,first[j]? =some f/\kinds[j]? =some ks/\Ci l j f ks ae
def QA.push{l:ie}{i:Nat}{first:List Int}{kinds:List (List Int)}(h:QA l i first kinds){f:Int}{ks:List Int}{ae:Nat}(hn:Ci l i f ks ae):QA l (i+1) (first++[f]) (kinds++[ks]):=by
 refine⟨by simp [h.fl],by simp [h.kl],fun j hj=>?_⟩
 by_cases hji:j=i
 ·subst hji
  refine⟨f,ks,ae,?_,?_,hn⟩
  ·rw [wW (by rw [h.fl];exact eg _),h.fl,wH];rfl
  ·rw [wW (by rw [h.kl];exact eg _),h.kl,wH];rfl
 ·obtain⟨f',ks',s',Y,X,d⟩:=h.node j (by omega)
  exact⟨f',ks',s',by rw [Al (by rw [h.fl];omega)];exact Y,by rw [Al (by rw [h.kl];omega)];exact X,d⟩
def VQ(n:aa)(i:Nat):Prop:=
 (n.Op=1->n.A= -1/\n.B= -1)/\(n.Op≠1->0<i/\0<=n.A/\n.A<i)/\(n.Op=2\/n.Op=7->n.B=(i:Int)-1)/\(n.Op≠1->n.Op≠2->n.Op≠7->n.B= -1)
end Go.Proofs.YtdohlidddcgfjaaGreat

