/- bS of this claim: L5. -/
import Derived.Test.YtdohlidddcgfjaaGreatFfQ2
set_option linter.all false
namespace Go.Proofs.YtdohlidddcgfjaaGreat
open Go

def F9(op:Int):Bool:=decide (1<=op)&&decide (op<=8)
def nA{op:Int}(h:F9 op=true):op=1\/op=2\/op=3\/op=4\/op=5\/op=6\/op=7\/op=8:=by
 simp [F9]at h;omega
def Cf(n:aa):Bool:=(pf n).getD false
def pe(n:aa):pf n=some (Cf n):=by
 unfold Cf pf
 repeat' split
 all_goals rfl
def Yq{α:Type}(l:List α):((l.length:Int)==0)=l.isEmpty:=by cases l<;>simp<;>omega
def Yp{α:Type}(l:List α):decide ((0:Int)<(l.length:Int))= !l.isEmpty:=by cases l<;>simp<;>omega
def EL(op:Int):sk op=some (if op=1 then 0 else if op=2\/op=7 then 2 else if F9 op then 1 else -1):=by
 unfold sk qT lj
 by_cases h:F9 op=true
 ·rcases nA h with rfl|rfl|rfl|rfl|rfl|rfl|rfl|rfl<;>rfl
 ·have h' : ¬(1<=op/\op<=8):=fun hh=>h (by simp [F9];omega)
  have Y: ¬op=1:=by omega
  have X: ¬op=2:=by omega
  have d: ¬op=3:=by omega
  have h4: ¬op=4:=by omega
  have h5: ¬op=5:=by omega
  have h6: ¬op=6:=by omega
  have h7: ¬op=7:=by omega
  have h8: ¬op=8:=by omega
  simp [Y,X,d,h4,h5,h6,h7,h8,h]
structure CB(l:io)(j:Nat)(f:Int)(ks:List Int)(ae:Nat):Prop where
 pos:1<=ae
 le:ae<=j+1
 fst:f=(j:Int)+1-(ae:Int)
 size: ∀fu,j+1<fu->dM fu l (j:Int)=some (ae:Int)
 len:ks.length<=16
 kinds: ∀fu,j+1<fu->hT fu l (j:Int)=some (ks,true)
structure Rb(l:io)(i:Nat)(first:List Int)(kinds:List (List Int)):Prop where
 fl:first.length=i
 kl:kinds.length=i
 node: ∀j,j<i-> ∃f ks ae,first[j]? =some f/\kinds[j]? =some ks/\CB l j f ks ae
def Rb.push{l:io}{i:Nat}{first:List Int}{kinds:List (List Int)}(h:Rb l i first kinds){f:Int}{ks:List Int}{ae:Nat}(hn:CB l i f ks ae):Rb l (i+1) (first++[f]) (kinds++[ks]):=by
 refine⟨by simp [h.fl],by simp [h.kl],fun j hj=>?_⟩
 by_cases hji:j=i
 ·subst hji
  refine⟨f,ks,ae,?_,?_,hn⟩
  ·rw [xf (by rw [h.fl];exact eo _),h.fl,wY];rfl
  ·rw [xf (by rw [h.kl];exact eo _),h.kl,wY];rfl
 ·obtain⟨f',ks',s',Y,X,d⟩:=h.node j (by omega)
  exact⟨f',ks',s',by rw [zJ (by rw [h.fl];omega)];exact Y,by rw [zJ (by rw [h.kl];omega)];exact X,d⟩
def WE(n:aa)(i:Nat):Prop:=
 (n.Op=1->n.A= -1/\n.B= -1)/\(n.Op≠1->0<i/\0<=n.A/\n.A<i)/\(n.Op=2\/n.Op=7->n.B=(i:Int)-1)/\(n.Op≠1->n.Op≠2->n.Op≠7->n.B= -1)
end Go.Proofs.YtdohlidddcgfjaaGreat

