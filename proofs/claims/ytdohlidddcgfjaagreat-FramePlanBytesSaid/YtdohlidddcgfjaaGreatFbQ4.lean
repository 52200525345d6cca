/- bR of this claim: L5. -/
import Derived.Test.YtdohlidddcgfjaaGreatFbQ2
set_option linter.all false
namespace Go.Proofs.YtdohlidddcgfjaaGreat
open Go

def Du(op:Int):Bool:=decide (1<=op)&&decide (op<=8)
def ph{op:Int}(h:Du op=true):op=1\/op=2\/op=3\/op=4\/op=5\/op=6\/op=7\/op=8:=by
 simp [Du]at h;omega
def CD(n:aa):Bool:=(n9 n).getD false
def oM(n:aa):n9 n=some (CD n):=by
 unfold CD n9
 repeat' split
 all_goals rfl
def Rv{α:Type}(l:List α):((l.length:Int)==0)=l.isEmpty:=by cases l<;>simp<;>omega
def Ru{α:Type}(l:List α):decide ((0:Int)<(l.length:Int))= !l.isEmpty:=by cases l<;>simp<;>omega
def Bb(op:Int):pP op=some (if op=1 then 0 else if op=2\/op=7 then 2 else if Du op then 1 else -1):=by
 unfold pP oL jI
 by_cases h:Du op=true
 ·rcases ph h with rfl|rfl|rfl|rfl|rfl|rfl|rfl|rfl<;>rfl
 ·have h' : ¬(1<=op/\op<=8):=fun hh=>h (by simp [Du];omega)
  have Y: ¬op=1:=by omega
  have H: ¬op=2:=by omega
  have Q: ¬op=3:=by omega
  have h4: ¬op=4:=by omega
  have h5: ¬op=5:=by omega
  have h6: ¬op=6:=by omega
  have h7: ¬op=7:=by omega
  have h8: ¬op=8:=by omega
  simp [Y,H,Q,h4,h5,h6,h7,h8,h]
structure zp(l:ge)(j:Nat)(f:Int)(ks:List Int)(ae:Nat):Prop where
 pos:1<=ae
 le:ae<=j+1
 fst:f=(j:Int)+1-(ae:Int)
 size: ∀fu,j+1<fu->da fu l (j:Int)=some (ae:Int)
 len:ks.length<=16
 kinds: ∀fu,j+1<fu->fU fu l (j:Int)=some (ks,true)
structure Lz(l:ge)(i:Nat)(first:List Int)(kinds:List (List Int)):Prop where
 fl:first.length=i
 kl:kinds.length=i
 node: ∀j,j<i-> ∃f ks ae,first[j]? =some f/\kinds[j]? =some ks/\zp l j f ks ae
def Lz.push{l:ge}{i:Nat}{first:List Int}{kinds:List (List Int)}(h:Lz l i first kinds){f:Int}{ks:List Int}{ae:Nat}(hn:zp l i f ks ae):Lz l (i+1) (first++[f]) (kinds++[ks]):=by
 refine⟨by simp [h.fl],by simp [h.kl],fun j hj=>?_⟩
 by_cases hji:j=i
 ·subst hji
  refine⟨f,ks,ae,?_,?_,hn⟩
  ·rw [uo (by rw [h.fl];exact jW _),h.fl,uc];rfl
  ·rw [uo (by rw [h.kl];exact jW _),h.kl,uc];rfl
 ·obtain⟨f',ks',s',Y,H,Q⟩:=h.node j (by omega)
  exact⟨f',ks',s',by rw [xv (by rw [h.fl];omega)];exact Y,by rw [xv (by rw [h.kl];omega)];exact H,Q⟩
def PW(n:aa)(i:Nat):Prop:=
 (n.Op=1->n.A= -1/\n.B= -1)/\(n.Op≠1->0<i/\0<=n.A/\n.A<i)/\(n.Op=2\/n.Op=7->n.B=(i:Int)-1)/\(n.Op≠1->n.Op≠2->n.Op≠7->n.B= -1)
end Go.Proofs.YtdohlidddcgfjaaGreat

