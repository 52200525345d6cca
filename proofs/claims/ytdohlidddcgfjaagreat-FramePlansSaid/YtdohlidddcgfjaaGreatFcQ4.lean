/- cE of this claim: L5. -/
import Derived.Test.YtdohlidddcgfjaaGreatFcQ2
set_option linter.all false
namespace Go.Proofs.YtdohlidddcgfjaaGreat
open Go

def F0(op:Int):Bool:=decide (1<=op)&&decide (op<=8)
def oP{op:Int}(h:F0 op=true):op=1\/op=2\/op=3\/op=4\/op=5\/op=6\/op=7\/op=8:=by
 simp [F0]at h;omega
def Cg(n:tV):Bool:=(oJ n).getD false
def qh(n:tV):oJ n=some (Cg n):=by
 unfold Cg oJ
 repeat' split
 all_goals rfl
def WW{α:Type}(l:List α):((l.length:Int)==0)=l.isEmpty:=by cases l<;>simp<;>omega
def WV{α:Type}(l:List α):decide ((0:Int)<(l.length:Int))= !l.isEmpty:=by cases l<;>simp<;>omega
def Et(op:Int):rh op=some (if op=1 then 0 else if op=2\/op=7 then 2 else if F0 op then 1 else -1):=by
 unfold rh pL kq
 by_cases h:F0 op=true
 ·rcases oP h with rfl|rfl|rfl|rfl|rfl|rfl|rfl|rfl<;>rfl
 ·have h' : ¬(1<=op/\op<=8):=fun hh=>h (by simp [F0];omega)
  have X: ¬op=1:=by omega
  have K: ¬op=2:=by omega
  have h3: ¬op=3:=by omega
  have h4: ¬op=4:=by omega
  have h5: ¬op=5:=by omega
  have h6: ¬op=6:=by omega
  have h7: ¬op=7:=by omega
  have h8: ¬op=8:=by omega
  simp [X,K,h3,h4,h5,h6,h7,h8,h]
structure CE(l:dZ)(j:Nat)(f:Int)(ks:List Int)(ac:Nat):Prop where
 pos:1<=ac
 le:ac<=j+1
 fst:f=(j:Int)+1-(ac:Int)
 size: ∀fu,j+1<fu->d9 fu l (j:Int)=some (ac:Int)
 len:ks.length<=16
 kinds: ∀fu,j+1<fu->gr fu l (j:Int)=some (ks,true)
structure PK(l:dZ)(i:Nat)(first:List Int)(kinds:List (List Int)):Prop where
 fl:first.length=i
 kl:kinds.length=i
 node: ∀j,j<i-> ∃f ks ac,first[j]? =some f/\kinds[j]? =some ks/\CE l j f ks ac
def PK.push{l:dZ}{i:Nat}{first:List Int}{kinds:List (List Int)}(h:PK l i first kinds){f:Int}{ks:List Int}{ac:Nat}(hn:CE l i f ks ac):PK l (i+1) (first++[f]) (kinds++[ks]):=by
 refine⟨by simp [h.fl],by simp [h.kl],fun j hj=>?_⟩
 by_cases hji:j=i
 ·subst hji
  refine⟨f,ks,ac,?_,?_,hn⟩
  ·rw [xC (by rw [h.fl];exact eJ _),h.fl,xo];rfl
  ·rw [xC (by rw [h.kl];exact eJ _),h.kl,xo];rfl
 ·obtain⟨f',ks',s',X,K,h3⟩:=h.node j (by omega)
  exact⟨f',ks',s',by rw [AP (by rw [h.fl];omega)];exact X,by rw [AP (by rw [h.kl];omega)];exact K,h3⟩
def Vn(n:tV)(i:Nat):Prop:=
 (n.Op=1->n.A= -1/\n.B= -1)/\(n.Op≠1->0<i/\0<=n.A/\n.A<i)/\(n.Op=2\/n.Op=7->n.B=(i:Int)-1)/\(n.Op≠1->n.Op≠2->n.Op≠7->n.B= -1)
end Go.Proofs.YtdohlidddcgfjaaGreat

