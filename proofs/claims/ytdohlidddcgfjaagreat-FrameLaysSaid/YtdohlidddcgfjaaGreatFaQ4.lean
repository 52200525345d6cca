/- cT of this claim: L5. -/
import Derived.Test.YtdohlidddcgfjaaGreatFaQ2
set_option linter.all false
namespace Go.Proofs.YtdohlidddcgfjaaGreat
open Go

def Da(op:Int):Bool:=decide (1≤op)&&decide (op≤8)
theorem qe{op:Int}(h:Da op=true):op=1∨op=2∨op=3∨op=4∨op=5∨op=6∨op=7∨op=8:=by
 simp [Da]at h;omega
def Cy(n:ap):Bool:=(n8 n).getD false
theorem pB(n:ap):n8 n=some (Cy n):=by
 unfold Cy n8
 repeat' split
 all_goals rfl
theorem QB{α:Type}(l:List α):((l.length:Int)==0)=l.isEmpty:=by cases l<;>simp<;>omega
theorem QA{α:Type}(l:List α):decide ((0:Int)<(l.length:Int))= !l.isEmpty:=by cases l<;>simp<;>omega
theorem Bj(op:Int):pd op=some (if op=1 then 0 else if op=2∨op=7 then 2 else if Da op then 1 else -1):=by
 unfold pd nC iZ
 by_cases h:Da op=true
 ·rcases qe h with rfl|rfl|rfl|rfl|rfl|rfl|rfl|rfl<;>rfl
 ·have h' : ¬(1≤op∧op≤8):=fun hh=>h (by simp [Da];omega)
  have h1: ¬op=1:=by omega
  have h2: ¬op=2:=by omega
  have h3: ¬op=3:=by omega
  have h4: ¬op=4:=by omega
  have h5: ¬op=5:=by omega
  have h6: ¬op=6:=by omega
  have h7: ¬op=7:=by omega
  have h8: ¬op=8:=by omega
  simp [h1,h2,h3,h4,h5,h6,h7,h8,h]
structure zx(l:dh)(j:Nat)(f:Int)(ks:List Int)(s:Nat):Prop where
 pos:1≤s
 le:s≤j+1
 fst:f=(j:Int)+1-(s:Int)
 size: ∀fu,j+1<fu→dC fu l (j:Int)=some (s:Int)
 len:ks.length≤16
 kinds: ∀fu,j+1<fu→fz fu l (j:Int)=some (ks,true)
structure KH(l:dh)(i:Nat)(first:List Int)(kinds:List (List Int)):Prop where
 fl:first.length=i
 kl:kinds.length=i
 node: ∀j,j<i→ ∃f ks s,first[j]? =some f∧kinds[j]? =some ks∧zx l j f ks s
theorem KH.push{l:dh}{i:Nat}{first:List Int}{kinds:List (List Int)}(h:KH l i first kinds){f:Int}{ks:List Int}{s:Nat}(hn:zx l i f ks s):KH l (i+1) (first++[f]) (kinds++[ks]):=by
 refine⟨by simp [h.fl],by simp [h.kl],fun j hj=>?_⟩
 by_cases hji:j=i
 ·subst hji
  refine⟨f,ks,s,?_,?_,hn⟩
  ·rw [ve (by rw [h.fl];exact eE _),h.fl,vg];rfl
  ·rw [ve (by rw [h.kl];exact eE _),h.kl,vg];rfl
 ·obtain⟨f',ks',s',h1,h2,h3⟩:=h.node j (by omega)
  exact⟨f',ks',s',by rw [Af (by rw [h.fl];omega)];exact h1,by rw [Af (by rw [h.kl];omega)];exact h2,h3⟩
def Pm(n:ap)(i:Nat):Prop:=
 (n.Op=1→n.A= -1∧n.B= -1)∧(n.Op≠1→0<i∧0≤n.A∧n.A<i)∧(n.Op=2∨n.Op=7→n.B=(i:Int)-1)∧(n.Op≠1→n.Op≠2→n.Op≠7→n.B= -1)
end Go.Proofs.YtdohlidddcgfjaaGreat

