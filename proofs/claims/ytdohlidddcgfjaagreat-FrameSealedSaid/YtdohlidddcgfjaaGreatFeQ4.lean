/- bO of this claim: L5. -/
import Derived.Test.YtdohlidddcgfjaaGreatFeQ2
set_option linter.all false
namespace Go.Proofs.YtdohlidddcgfjaaGreat
open Go

def E6(op:Int):Bool:=decide (1<=op)&&decide (op<=8)
def qm{op:Int}(h:E6 op=true):op=1\/op=2\/op=3\/op=4\/op=5\/op=6\/op=7\/op=8:=by
 simp [E6]at h;omega
def Ee(n:aa):Bool:=(pc n).getD false
def pL(n:aa):pc n=some (Ee n):=by
 unfold Ee pc
 repeat' split
 all_goals rfl
def UK{α:Type}(l:List α):((l.length:Int)==0)=l.isEmpty:=by cases l<;>simp<;>omega
def UJ{α:Type}(l:List α):decide ((0:Int)<(l.length:Int))= !l.isEmpty:=by cases l<;>simp<;>omega
def CN(op:Int):qV op=some (if op=1 then 0 else if op=2\/op=7 then 2 else if E6 op then 1 else -1):=by
 unfold qV pK km
 by_cases h:E6 op=true
 ·rcases qm h with rfl|rfl|rfl|rfl|rfl|rfl|rfl|rfl<;>rfl
 ·have h' : ¬(1<=op/\op<=8):=fun hh=>h (by simp [E6];omega)
  have Y: ¬op=1:=by omega
  have H: ¬op=2:=by omega
  have s: ¬op=3:=by omega
  have h4: ¬op=4:=by omega
  have h5: ¬op=5:=by omega
  have h6: ¬op=6:=by omega
  have h7: ¬op=7:=by omega
  have h8: ¬op=8:=by omega
  simp [Y,H,s,h4,h5,h6,h7,h8,h]
structure AQ(l:gO)(j:Nat)(f:Int)(ks:List Int)(h3:Nat):Prop where
 pos:1<=h3
 le:h3<=j+1
 fst:f=(j:Int)+1-(h3:Int)
 size: ∀fu,j+1<fu->dy fu l (j:Int)=some (h3:Int)
 len:ks.length<=16
 kinds: ∀fu,j+1<fu->gw fu l (j:Int)=some (ks,true)
structure Oe(l:gO)(i:Nat)(first:List Int)(kinds:List (List Int)):Prop where
 fl:first.length=i
 kl:kinds.length=i
 node: ∀j,j<i-> ∃f ks h3,first[j]? =some f/\kinds[j]? =some ks/\AQ l j f ks h3
def Oe.push{l:gO}{i:Nat}{first:List Int}{kinds:List (List Int)}(h:Oe l i first kinds){f:Int}{ks:List Int}{h3:Nat}(hn:AQ l i f ks h3):Oe l (i+1) (first++[f]) (kinds++[ks]):=by
 refine⟨by simp [h.fl],by simp [h.kl],fun j hj=>?_⟩
 by_cases hji:j=i
 ·subst hji
  refine⟨f,ks,h3,?_,?_,hn⟩
  ·rw [vz (by rw [h.fl];exact dY _),h.fl,vn];rfl
  ·rw [vz (by rw [h.kl];exact dY _),h.kl,vn];rfl
 ·obtain⟨f',ks',s',Y,H,s⟩:=h.node j (by omega)
  exact⟨f',ks',s',by rw [yS (by rw [h.fl];omega)];exact Y,by rw [yS (by rw [h.kl];omega)];exact H,s⟩
def S7(n:aa)(i:Nat):Prop:=
 (n.Op=1->n.A= -1/\n.B= -1)/\(n.Op≠1->0<i/\0<=n.A/\n.A<i)/\(n.Op=2\/n.Op=7->n.B=(i:Int)-1)/\(n.Op≠1->n.Op≠2->n.Op≠7->n.B= -1)
end Go.Proofs.YtdohlidddcgfjaaGreat

