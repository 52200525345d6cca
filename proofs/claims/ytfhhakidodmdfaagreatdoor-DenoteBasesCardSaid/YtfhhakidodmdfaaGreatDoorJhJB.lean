/- cX of this claim: JB. -/
import Derived.Test.YtfhhakidodmdfaaGreatDoorJhQ1
import Derived.KernelRfl
set_option linter.all false
namespace Go.Proofs.YtfhhakidodmdfaaGreatDoor
open Go

set_option maxRecDepth 100000 in
theorem CW:rJ=some true:=by kernel_rfl
theorem rz(nx:Option Bool)(v:Bool)(hn:nx=some v): ∀r:EZ,∃w,hX nx r=some w∧(w=false→v=false∧ ∀x∈r,x.S.length≤200)
 |[]=>⟨v,hn,fun h=>⟨h,by simp⟩⟩
 |e::t=>by
  unfold hX
  by_cases h:200<e.S.length
  ·exact⟨true,by rw [c9 (by rw [gU];omega)],fun h=>by cases h⟩
  ·obtain⟨w,h1,h2⟩:=rz nx v hn t
   refine⟨w,by rw [cZ (by rw [gU];omega)];exact h1,fun hw=>⟨(h2 hw).1,?_⟩⟩
   intro x hx
   rcases gc.1 hx with q|q
   ·rw [q];omega
   ·exact(h2 hw).2 x q
theorem rA: ∀l:List EZ,∃w,fb l=some w∧(w=false→ ∀r∈l,r.length≤30)
 |[]=>⟨false,rfl,fun _=>by simp⟩
 |e::t=>by
  unfold fb
  by_cases h:30<e.length
  ·exact⟨true,by rw [c9 (by rw [gU];omega)],fun h=>by cases h⟩
  ·obtain⟨v,h1,h2⟩:=rA t
   obtain⟨w,h3,h4⟩:=rz (fb t) v h1 e
   refine⟨w,by rw [cZ (by rw [gU];omega)];exact h3,fun hw=>?_⟩
   intro x hx
   rcases gc.1 hx with q|q
   ·rw [q];omega
   ·exact h2 (h4 hw).1 x q
theorem BT(l:List EZ)(m:Nat): ∃w,ll l (m:Int)=some w∧(w=false→l.length≤m∧ ∀r∈l,r.length≤30):=by
 unfold ll
 by_cases h:m<l.length
 ·exact⟨true,by rw [c9 (by rw [gU];omega)],fun h=>by cases h⟩
 ·obtain⟨w,h1,h2⟩:=rA l
  exact⟨w,by rw [cZ (by rw [gU];omega)];exact h1,fun hw=>⟨by omega,h2 hw⟩⟩
def MG(b:eU):Prop:=b.Tables.length≤10∧ ∀t∈b.Tables,t.length≤30∧ ∀r∈t,r.length≤30
theorem rC: ∀l:List (List EZ),∃w,hY l=some w∧(w=false→ ∀t∈l,t.length≤30∧ ∀r∈t,r.length≤30)
 |[]=>⟨false,rfl,fun _=>by simp⟩
 |e::t=>by
  unfold hY
  obtain⟨w,h1,h2⟩:=BT e 30
  rw [show((30:Nat):Int)=30 from rfl]at h1
  rw [h1,im]
  cases w with
  |true=>exact⟨true,rfl,fun h=>by cases h⟩
  |false=>
   obtain⟨v,h3,h4⟩:=rC t
   refine⟨v,by rw [cZ (by decide)];exact h3,fun hv=>?_⟩
   intro x hx
   rcases gc.1 hx with q|q
   ·rw [q];exact h2 rfl
   ·exact h4 hv x q
theorem BU(b:eU): ∃w,lm b=some w∧(w=false→MG b):=by
 unfold lm
 by_cases h:10<b.Tables.length
 ·exact⟨true,by rw [c9 (by rw [gU];omega)],fun h=>by cases h⟩
 ·obtain⟨w,h1,h2⟩:=rC b.Tables
  exact⟨w,by rw [cZ (by rw [gU];omega)];exact h1,fun hw=>⟨by omega,h2 hw⟩⟩
theorem pF(nx:Option Bool)(v:Bool)(hn:nx=some v): ∀r:List bC,∃w,f9 nx r=some w∧(w=false→v=false∧ ∀x∈r,x.Name.length≤60)
 |[]=>⟨v,hn,fun h=>⟨h,by simp⟩⟩
 |e::t=>by
  unfold f9
  by_cases h:60<e.Name.length
  ·exact⟨true,by rw [c9 (by rw [gU];omega)],fun h=>by cases h⟩
  ·obtain⟨w,h1,h2⟩:=pF nx v hn t
   refine⟨w,by rw [cZ (by rw [gU];omega)];exact h1,fun hw=>⟨(h2 hw).1,?_⟩⟩
   intro x hx
   rcases gc.1 hx with q|q
   ·rw [q];omega
   ·exact(h2 hw).2 x q
theorem pG: ∀l:List bw,∃w,ev l=some w∧(w=false→ ∀t∈l,t.Columns.length≤10∧t.Keys.length≤10∧t.Name.length≤60∧ ∀x∈t.Columns,x.Name.length≤60)
 |[]=>⟨false,rfl,fun _=>by simp⟩
 |e::t=>by
  unfold ev
  by_cases h:(((decide ((10:Int)<(e.Columns.length:Int)))||(decide ((10:Int)<(e.Keys.length:Int))))||(decide ((60:Int)<(e.Name.length:Int))))=true
  ·exact⟨true,by rw [c9 h],fun h=>by cases h⟩
  ·obtain⟨v,h1,h2⟩:=pG t
   obtain⟨w,h3,h4⟩:=pF (ev t) v h1 e.Columns
   refine⟨w,by rw [cZ h];exact h3,fun hw=>?_⟩
   simp only [Ac,gU,not_or,Int.not_lt]at h
   intro x hx
   rcases gc.1 hx with q|q
   ·rw [q];exact⟨by omega,by omega,by omega,(h4 hw).2⟩
   ·exact h2 (h4 hw).1 x q
theorem yQ(c:cY): ∃w,j7 c=some w∧(w=false→vM c):=by
 unfold j7
 by_cases h:10<c.Tables.length
 ·exact⟨true,by rw [c9 (by rw [gU];omega)],fun h=>by cases h⟩
 ·obtain⟨w,h1,h2⟩:=pG c.Tables
  refine⟨w,by rw [cZ (by rw [gU];omega)];exact h1,fun hw=>?_⟩
  intro t ht
  have:=(h2 hw t ht).2.1
  omega
theorem DY(c:cY)(b:eU):jA c b=some true:=by
 unfold jA
 rw [CW,im,cZ (by decide)]
 obtain⟨w,h1,h2⟩:=yQ c
 obtain⟨v,h3,h4⟩:=BU b
 rw [h1,im,h3]
 cases w with
 |true=>rfl
 |false=>
  cases v with
  |true=>rfl
  |false=>
   have hc:=h2 rfl
   simp only [Bool.not_false,nI,im,Bl,s3]
   rw [Bi hc,ru hc,Bd hc]
   simp only [im]
   unfold HF
   cases uW c with
   |false=>rfl
   |true=>cases BN c b<;>rfl
end Go.Proofs.YtfhhakidodmdfaaGreatDoor

