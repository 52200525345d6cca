/- cd of this claim: Y6. -/
import Derived.Test.YtmogpgcfognefaaGreatDoorNcY5
set_option linter.all false
namespace Go.Proofs.YtmogpgcfognefaaGreatDoor
open Go

theorem p6{α:Type}(l:List α)(m:Nat)(M:Int)(hM:M=(m:Int))(hm:m≤1000): ∃y,cG l 0 (min (l.length:Int) M)=some y∧y.length≤m∧mC ([]:List α) y=some y∧ ∀x∈y,x∈l:=by
 subst hM
 refine⟨l.take (min l.length m),?_,by simp;omega,?_,fun x hx=>List.mem_of_mem_take hx⟩
 ·rw [iV 0 (min l.length m) (show(0:Int)=((0:Nat):Int)from rfl) (by omega) (by omega) (by omega),pu]
 ·rw [fh (by simp;omega),rh]
theorem FZ(l:List bj): ∃y,iR l 5=some y∧y.length≤5:=by
 obtain⟨y,h1,h2,h3,_⟩:=p6 l 5 5 rfl (by decide)
 exact⟨y,by unfold iR;rw [h1,ce,h3];rfl,h2⟩
theorem LO(l:List aU): ∃y,gn l 5=some y∧y.length≤5:=by
 obtain⟨y,h1,h2,h3,_⟩:=p6 l 5 5 rfl (by decide)
 exact⟨y,by unfold gn;rw [h1,ce,h3];rfl,h2⟩
theorem LN(l:List Int){m:Nat}(hm:m≤1000): ∃y,jU l (m:Int)=some y∧y.length≤m:=by
 obtain⟨y,h1,h2,h3,_⟩:=p6 l m m rfl hm
 exact⟨y,by unfold jU;rw [h1,ce,h3];rfl,h2⟩
theorem Ig{α:Type}{l:List α}{i j:Nat}{x y:α}(h:(l.set i x)[j]? =some y):(j=i∧y=x)∨(j≠i∧l[j]? =some y):=by
 by_cases hj:j=i
 ·subst hj
  rw [List.getElem?_set_self']at h
  cases hl:l[j]? with
  |none=>rw [hl]at h;cases h
  |some z=>rw [hl]at h;exact .inl ⟨rfl,(kD h).symm⟩
 ·rw [List.getElem?_set_ne (fun e=>hj e.symm)]at h
  exact .inr ⟨hj,h⟩
theorem vY: ∀(tl:List bj) (i:Nat) (out:aT),i+tl.length=out.Tables.length→(∀(j:Nat) (t:bj),j<i→out.Tables[j]? =some t→t.Keys.length≤5∧t.Columns.length≤5)→ ∃c,hY tl i out=some c∧mq c∧ ∀t∈c.Tables,t.Columns.length≤5
 |[],i,out,hl,hk=>by
  have key: ∀t∈out.Tables,t.Keys.length≤5∧t.Columns.length≤5:=fun t ht=>by
   obtain⟨j,hj⟩:=List.getElem?_of_mem ht
   have:=(lT.1 hj).1
   exact hk j t (by simp at hl;omega) hj
  exact⟨out,rfl,fun t ht=>by have:=(key t ht).1;omega,fun t ht=>(key t ht).2⟩
 |e::tl,i,out,hl,hk=>by
  simp only [lm]at hl
  have hi:i<out.Tables.length:=by omega
  unfold hY
  rw [dy,nK hi,ce,ce]
  obtain⟨r1,a1,a4⟩:=LO (out.Tables[i]).Columns
  obtain⟨r2,a2,a3⟩:=LN (out.Tables[i]).Keys (m:=5) (by decide)
  have a2' :jU (out.Tables[i]).Keys (5:Int)=some r2:=a2
  rw [a1,ce,a2',ce]
  simp only [ce,AZ]
  rw [dy,List.getElem?_set_self hi,ce]
  refine vY tl (i+1) _ (by simp;omega) (fun j t hj ht=>?_)
  rcases Ig ht with⟨_,rfl⟩|⟨hne,ht⟩
  ·exact⟨a3,a4⟩
  ·rcases Ig ht with⟨h,_⟩|⟨_,ht⟩
   ·exact absurd h hne
   ·exact hk j t (by omega) ht
theorem Ie(c:aT): ∃c',lL c=some c' ∧mq c' ∧ ∀t∈c'.Tables,t.Columns.length≤5:=by
 unfold lL
 obtain⟨r,h1,h2⟩:=FZ c.Tables
 rw [h1,ce]
 exact vY r 0 ⟨r⟩ (pt _) (fun j t hj=>by omega)
structure Cut5(n:aZ):Prop where
 kinds:n.Kinds.length≤17
 keys:n.Keys.length≤6
 aggs:n.Aggs.length≤14
 items:n.Items.length≤17
 order:n.Order.length≤5
end Go.Proofs.YtmogpgcfognefaaGreatDoor

