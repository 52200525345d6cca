import Derived.Test.YtdohlidddcgfjaaGreatFgQ2
set_option linter.all false
namespace Go.Proofs.YtdohlidddcgfjaaGreat
open Go
def Je(op:Int):Bool:=decide (1<=op)&&decide (op<=8)
def tK{op:Int}(h:Je op=true):op=1\/op=2\/op=3\/op=4\/op=5\/op=6\/op=7\/op=8:=by
 simp [Je]at h;omega
def E5(n:al):Bool:=(qg n).getD false
def rP(n:al):qg n=some (E5 n):=by
 unfold E5 qg;repeat' split
 all_goals rfl
def abt{α:Type}(l:List α):((l.length:Int)==0)=l.isEmpty:=by cases l<;>simp<;>omega
def abs{α:Type}(l:List α):decide ((0:Int)<(l.length:Int))= !l.isEmpty:=by cases l<;>simp<;>omega
def Hy(op:Int):tH op=some (if op=1 then 0 else if op=2\/op=7 then 2 else if Je op then 1 else -1):=by
 unfold tH ri lw;by_cases h:Je op=true
 ·rcases tK h with rfl|rfl|rfl|rfl|rfl|rfl|rfl|rfl<;>rfl
 ·have h' : ¬(1<=op/\op<=8):=fun hh=>h (by simp [Je];omega);have H: ¬op=1:=by omega
  have W: ¬op=2:=by omega
  have h3: ¬op=3:=by omega
  have h4: ¬op=4:=by omega
  have h5: ¬op=5:=by omega
  have h6: ¬op=6:=by omega
  have h7: ¬op=7:=by omega
  have h8: ¬op=8:=by omega
  simp [H,W,h3,h4,h5,h6,h7,h8,h]
structure Fq(l:fx)(j:Nat)(f:Int)(ks:List Int)(bx:Nat):Prop where
 pos:1<=bx
 le:bx<=j+1
 fst:f=(j:Int)+1-(bx:Int)
 size: ∀fu,j+1<fu->fg fu l (j:Int)=some (bx:Int)
 len:ks.length<=16
 g': ∀fu,j+1<fu->ib fu l (j:Int)=some (ks,true)
structure UD(l:fx)(i:Nat)(first:List Int)(g':List (List Int)):Prop where
 fl:first.length=i
 kl:g'.length=i
 node: ∀j,j<i-> ∃f ks bx,first[j]? =some f/\g'[j]? =some ks/\Fq l j f ks bx
def UD.push{l:fx}{i:Nat}{first:List Int}{g':List (List Int)}(h:UD l i first g'){f:Int}{ks:List Int}{bx:Nat}(hn:Fq l i f ks bx):UD l (i+1) (first++[f]) (g'++[ks]):=by
 refine⟨by simp [h.fl],by simp [h.kl],fun j hj=>?_⟩;by_cases hji:j=i
 ·subst hji;refine⟨f,ks,bx,?_,?_,hn⟩
  ·rw [Ap (by rw [h.fl];exact kE _),h.fl,Aa];rfl
  ·rw [Ap (by rw [h.kl];exact kE _),h.kl,Aa];rfl
 ·obtain⟨f',ks',s',H,W,h3⟩:=h.node j (by omega);exact⟨f',ks',s',by rw [Ds (by rw [h.fl];omega)];exact H,by rw [Ds (by rw [h.kl];omega)];exact W,h3⟩
def aag(n:al)(i:Nat):Prop:=
 (n.Op=1->n.A= -1/\n.B= -1)/\(n.Op≠1->0<i/\0<=n.A/\n.A<i)/\(n.Op=2\/n.Op=7->n.B=(i:Int)-1)/\(n.Op≠1->n.Op≠2->n.Op≠7->n.B= -1)
