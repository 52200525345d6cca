/- cP of this claim: L5, L6, L7, L8, L9, L10, L11, L12, L13, L14, J5, J6, J7, J8, J9, J10, J11, Q1, Q2, Q3. -/
import Derived.Test.YtfhhakidodmdfaaGreatDoorJgQ2
import Derived.Test.YtfhhakidodmdfaaGreatDoorJgQ1
import Derived.Laws.RangeAny
import Derived.Shelf.Strings.CaseAny
set_option linter.all false
namespace Go.Proofs.YtfhhakidodmdfaaGreatDoor
open Go

def F2(op:Int):Bool:=decide (1≤op)&&decide (op≤8)
theorem qM{op:Int}(h:F2 op=true):op=1∨op=2∨op=3∨op=4∨op=5∨op=6∨op=7∨op=8:=by
 simp [F2]at h;omega
def Ce(n:aj):Bool:=(vi n).getD false
variable{n:aj}
theorem sv(n:aj):vi n=some (Ce n):=by
 unfold Ce vi
 repeat' split
 all_goals rfl
variable{l:bc}{α:Type}
theorem acm(l:List α):((l.length:Int)==0)=l.isEmpty:=by cases l<;>simp<;>omega
theorem Yb(l:List α):decide ((0:Int)<(l.length:Int))= !l.isEmpty:=by cases l<;>simp<;>omega
variable{r:cu}
theorem Rk(n:aj)(h:F2 n.Op=true):((tE n).bind fun r=>(tB r).bind fun r1=>some r1)=some (Ce n):=by
 obtain⟨op,A,B,Ws,kinds,left,cond,keys,aggs,items,order,limit⟩:=n
 unfold Ce vi tE tB
 simp only [acm,Yb]
 rcases qM h with h|h|h|h|h|h|h|h<;>simp only at h<;>subst h<;>simp<;>(try (by_cases t:Ws=0<;>simp [t]))<;>(try (by_cases lm:limit=0<;>simp [lm]))<;>(try (cases left<;>simp))<;>(try (by_cases e1:kinds=[]<;>simp [e1]))<;>(try (by_cases e2:cond.Nodes=[]<;>simp [e2]))<;>(try (by_cases e3:keys=[]<;>simp [e3]))<;>(try (by_cases e4:aggs=[]<;>simp [e4]))<;>(try (by_cases e5:items=[]<;>simp [e5]))<;>(try (by_cases e6:order=[]<;>simp [e6]))
variable{e:bG}{k:List Int}
theorem Rz{β:Type}(f1 f2 f3 f4 f5 f6 f7 f8:β)(k:Int):pw (dj (dj (dj (dj (dj (dj (dj (dj ([]:List (Int×β)) 1 f1) 2 f2) 3 f3) 4 f4) 5 f5) 6 f6) 7 f7) 8 f8) k=
  if k=1 then some f1 else if k=2 then some f2 else if k=3 then some f3 else if k=4 then some f4 else if k=5 then some f5 else if k=6 then some f6 else if k=7 then some f7 else if k=8 then some f8 else none:=by
 have e:dj (dj (dj (dj (dj (dj (dj (dj ([]:List (Int×β)) 1 f1) 2 f2) 3 f3) 4 f4) 5 f5) 6 f6) 7 f7) 8 f8=[(1,f1),(2,f2),(3,f3),(4,f4),(5,f5),(6,f6),(7,f7),(8,f8)]:=rfl
 rw [e]
 simp only [pw,eq_comm (b:=k)]
theorem E9(op:Int):uv op=some (if op=1 then 0 else if op=2∨op=7 then 2 else 1):=by
 unfold uv qf
 by_cases h1:op=1
 ·simp [h1]
 by_cases h2:op=2
 ·simp [h2]
 by_cases h7:op=7
 ·simp [h7]
 simp [h1,h2,h7]
theorem lT(op:Int):xC op=some (if op=1 then 0 else if op=2∨op=7 then 2 else if F2 op then 1 else -1):=by
 unfold xC tm lS
 by_cases h:F2 op=true
 ·rcases qM h with rfl|rfl|rfl|rfl|rfl|rfl|rfl|rfl<;>rfl
 ·have h' : ¬(1≤op∧op≤8):=fun hh=>h (by simp [F2];omega)
  have h1: ¬op=1:=by omega
  have h2: ¬op=2:=by omega
  have h3: ¬op=3:=by omega
  have h4: ¬op=4:=by omega
  have h5: ¬op=5:=by omega
  have h6: ¬op=6:=by omega
  have h7: ¬op=7:=by omega
  have h8: ¬op=8:=by omega
  simp [h1,h2,h3,h4,h5,h6,h7,h8,h]
structure ND(l:bc)(j:Nat)(f:Int)(ks:List Int)(s:Nat):Prop where
 pos:1≤s
 le:s≤j+1
 fst:f=(j:Int)+1-(s:Int)
 size: ∀fu,j+1<fu→bX fu l (j:Int)=some (s:Int)
 len:ks.length≤16
 kinds: ∀fu,j+1<fu→ck fu l (j:Int)=some (ks,true)
structure LR(l:bc)(i:Nat)(first:List Int)(kinds:List (List Int)):Prop where
 fl:first.length=i
 kl:kinds.length=i
 node: ∀j,j<i→ ∃f ks s,first[j]? =some f∧kinds[j]? =some ks∧ND l j f ks s
variable{first:List Int}{i j:Nat}{ks:Nat→List Int}
theorem LR.push{kinds:List (List Int)}(h:LR l i first kinds){f:Int}{ks:List Int}{s:Nat}(hn:ND l i f ks s):LR l (i+1) (first++[f]) (kinds++[ks]):=by
 refine⟨by simp [h.fl],by simp [h.kl],fun j hj=>?_⟩
 by_cases hji:j=i
 ·subst hji
  refine⟨f,ks,s,?_,?_,hn⟩
  ·rw [si (by rw [h.fl];exact dy _),h.fl,zL];rfl
  ·rw [si (by rw [h.kl];exact dy _),h.kl,zL];rfl
 ·obtain⟨f',ks',s',h1,h2,h3⟩:=h.node j (by omega)
  exact⟨f',ks',s',by rw [xi (by rw [h.fl];omega)];exact h1,by rw [xi (by rw [h.kl];omega)];exact h2,h3⟩
def Pj(n:aj)(i:Nat):Prop:=
 (n.Op=1→n.A= -1∧n.B= -1)∧(n.Op≠1→0<i∧0≤n.A∧n.A<i)∧(n.Op=2∨n.Op=7→n.B=(i:Int)-1)∧(n.Op≠1→n.Op≠2→n.Op≠7→n.B= -1)
variable{p:Nat}
theorem vd(l:bc){fu:Nat}(hf:0<fu){p:Int}(h:p<0):bX fu l p=some 0:=by
 obtain⟨fu,rfl⟩: ∃k,fu=k+1:=⟨fu-1,by omega⟩
 unfold bX
 rw [aY (by simp [h])]
theorem Nu{kinds:List (List Int)}(hI:LR l i first kinds)(hn:cN l.Nodes (i:Int)=some n)(hi:i<l.Nodes.length)(hl:l.Nodes.length≤1000)(hop:F2 n.Op=true):
  ∃f ok,jP ⟨l,kinds,first⟩ (i:Int)=some (f,ok)∧((ok=true∧ ∃s:Nat,1≤s∧s≤i+1∧f=(i:Int)+1-(s:Int)∧(∀fu,i+1<fu→bX fu l (i:Int)=some (s:Int))∧Pj n i)∨(ok=false∧ ∀fu,i+1<fu→bX fu l (i:Int)=some 0)):=by
 have hstep: ∀fu,i+1<fu→ ∃fu',fu=fu' +1∧i<fu' :=fun fu h=>⟨fu-1,by omega,by omega⟩
 unfold jP
 simp only [hn,bf,E9]
 by_cases h1:n.Op=1
 ·-- nothing below
  simp only [h1,ep]
  rw [aY (by decide)]
  refine⟨_,_,rfl,?_⟩
  by_cases hAB:n.A= -1∧n.B= -1
  ·refine .inl ⟨by simp [hAB],1,dy _,by omega,by omega,fun fu hf=>?_,⟨fun _=>hAB,fun h=>absurd h1 h,fun h=>by omega,fun h=>absurd h1 h⟩⟩
   obtain⟨fu',rfl,_⟩:=hstep fu hf
   unfold bX
   rw [aL (by simp;omega),hn]
   simp only [bf,lT,h1,ep]
   rw [aY (by decide),aY (by simp [hAB])];rfl
  ·have hb:(n.A== -1&&n.B== -1)=false:=by rw [rR];intro h;apply hAB;simpa using h
   refine .inr ⟨hb,fun fu hf=>?_⟩
   obtain⟨fu',rfl,_⟩:=hstep fu hf
   unfold bX
   rw [aL (by simp;omega),hn]
   simp only [bf,lT,h1,ep]
   rw [aY (by decide),aL (by rw [hb];decide)]
 ·by_cases h27:n.Op=2∨n.Op=7
  ·-- two below
   simp only [h1,h27,ep,d7]
   rw [aL (by decide),aL (by decide)]
   have hsz: ∀fu,i<fu→bX (fu+1) l (i:Int)=if n.B=(i:Int)-1 then((bX fu) l n.B).bind (fun r2=>if((decide ((0:Int)<r2))&&(n.A==(IntKind.i64.wrap (n.B-r2))))then(((bX fu) l n.A).bind fun r3=>if(decide ((0:Int)<r3))then(some (IntKind.i64.wrap ((IntKind.i64.wrap (r3+r2))+(1:Int))))else(some (0:Int)))else(some (0:Int)))else some 0:=by
    intro fu hfu
    conv=>lhs;unfold bX
    rw [aL (by simp;omega),hn]
    simp only [bf,lT,h1,h27,ep,d7]
    rw [aL (by decide),aL (by decide),aY (by decide),cq (n:=(i:Int)-1) (by omega) (by omega)]
    by_cases hB:n.B=(i:Int)-1
    ·rw [aY (by simp [hB]),aY hB]
    ·rw [aL (by simpa using hB),aL hB]
   by_cases hB:n.B=(i:Int)-1∧0<i
   ·have hcond:(!((n.B !=IntKind.i64.wrap ((i:Int)-1))||((i:Int)==0)))=true:=by
     rw [cq (by omega) (by omega)]
     have: ¬((i:Int)=0):=by omega
     simp [hB.1,this];omega
    rw [aY hcond]
    obtain⟨fB,kB,sB,g1,g2,g3⟩:=hI.node (i-1) (by omega)
    have hBi:n.B=((i-1:Nat):Int):=by omega
    have hidx:cN first n.B=some fB:=by rw [hBi,bW];exact g1
    rw [hidx]
    have hfB:=g3.fst
    have hsB:=g3.pos
    have hsB2:=g3.le
    simp only [bf]
    rw [cq (n:=fB-1) (by omega) (by omega)]
    by_cases hA:n.A=fB-1∧0≤n.A
    ·rw [aL (by simp [hA.1];omega)]
     obtain⟨fA,kA,sA,q1,q2,q3⟩:=hI.node n.A.toNat (by omega)
     have hidA:cN first n.A=some fA:=by
      rw [show n.A=((n.A.toNat:Nat):Int)from by omega,bW];exact q1
     rw [hidA]
     have hfA:=q3.fst
     have hsA:=q3.pos
     have hsA2:=q3.le
     refine⟨fA,true,rfl,.inl ⟨rfl,sA+sB+1,by omega,by omega,by omega,fun fu hf=>?_,⟨fun h=>absurd h h1,fun _=>⟨hB.2,hA.2,by omega⟩,fun _=>hB.1,fun _ h2 h7=>by rcases h27 with h|h;exact absurd h h2;exact absurd h h7⟩⟩⟩
     obtain⟨fu',rfl,hf'⟩:=hstep fu hf
     rw [hsz fu' hf',aY hB.1]
     have e1:=g3.size fu' (by omega)
     rw [←hBi]at e1
     rw [e1]
     simp only [bf]
     rw [cq (n:=n.B-(sB:Int)) (by omega) (by omega),aY (by simp;omega)]
     have e2:=q3.size fu' (by omega)
     rw [show((n.A.toNat:Nat):Int)=n.A from by omega]at e2
     rw [e2]
     simp only [bf]
     rw [aY (by simp;omega),cq (n:=(sA:Int)+(sB:Int)) (by omega) (by omega),cq (by omega) (by omega)]
     congr 1
    ·have hb:(n.A !=fB-1||decide (n.A<0))=true:=by
      simp only [pW,qD,kX]
      by_cases h:n.A=fB-1
      ·exact .inr (by omega)
      ·exact .inl h
     rw [aY hb]
     refine⟨0,false,rfl,.inr ⟨rfl,fun fu hf=>?_⟩⟩
     obtain⟨fu',rfl,hf'⟩:=hstep fu hf
     rw [hsz fu' hf',aY hB.1]
     have e1:=g3.size fu' (by omega)
     rw [←hBi]at e1
     rw [e1]
     simp only [bf]
     rw [cq (n:=n.B-(sB:Int)) (by omega) (by omega)]
     by_cases h:n.A=fB-1
     ·rw [aY (by simp;omega),vd l (by omega) (by omega)]
      rfl
     ·rw [aL (by simp;omega)]
   ·have hcond:(!((n.B !=IntKind.i64.wrap ((i:Int)-1))||((i:Int)==0)))=false:=by
     rw [cq (by omega) (by omega)]
     by_cases h:n.B=(i:Int)-1
     ·have:i=0:=by omega
      simp [this]
     ·simp [h]
    rw [hcond]
    simp only [fL,d7,bf,Bool.true_or,ep]
    refine⟨0,false,rfl,.inr ⟨rfl,fun fu hf=>?_⟩⟩
    obtain⟨fu',rfl,hf'⟩:=hstep fu hf
    rw [hsz fu' hf']
    by_cases h:n.B=(i:Int)-1
    ·rw [aY h]
     rw [vd l (by omega) (by omega)]
     rfl
    ·rw [aL h]
  ·-- one below
   simp only [h1,h27,d7]
   rw [aL (by decide),aY (by decide)]
   have hsz: ∀fu,i<fu→bX (fu+1) l (i:Int)=if n.A=(i:Int)-1∧n.B= -1 then((bX fu) l n.A).bind (fun r1=>if(decide ((0:Int)<r1))then(some (IntKind.i64.wrap (r1+(1:Int))))else(some (0:Int)))else some 0:=by
    intro fu hfu
    conv=>lhs;unfold bX
    rw [aL (by simp;omega),hn]
    simp only [bf,lT,h1,h27,hop,ep,d7]
    rw [aL (by decide),aY (by decide),cq (n:=(i:Int)-1) (by omega) (by omega)]
    by_cases hB:n.A=(i:Int)-1∧n.B= -1
    ·rw [aY (by simp [hB]),aY hB]
    ·rw [aL (by simpa using hB),aL hB]
   rw [cq (by omega) (by omega)]
   by_cases hA:(n.A=(i:Int)-1∧n.B= -1)∧0<i
   ·rw [aL (by simp [hA.1];omega)]
    obtain⟨fA,kA,sA,g1,g2,g3⟩:=hI.node (i-1) (by omega)
    have hAi:n.A=((i-1:Nat):Int):=by omega
    have hidx:cN first n.A=some fA:=by rw [hAi,bW];exact g1
    rw [hidx]
    have hfA:=g3.fst
    have hsA:=g3.pos
    have hsA2:=g3.le
    refine⟨fA,true,rfl,.inl ⟨rfl,sA+1,by omega,by omega,by omega,fun fu hf=>?_,⟨fun h=>absurd h h1,fun _=>⟨hA.2,by omega,by omega⟩,fun h=>absurd h h27,fun _ _ _=>hA.1.2⟩⟩⟩
    obtain⟨fu',rfl,hf'⟩:=hstep fu hf
    rw [hsz fu' hf',aY hA.1]
    have e1:=g3.size fu' (by omega)
    rw [←hAi]at e1
    rw [e1]
    simp only [bf]
    rw [aY (by simp;omega),cq (by omega) (by omega)]
    rfl
   ·have hb:(n.A !=(i:Int)-1||n.B != -1||(i:Int)==0)=true:=by
     simp only [pW,qD,sY]
     by_cases h:n.A=(i:Int)-1
     ·by_cases h' :n.B= -1
      ·exact .inr (by omega)
      ·exact .inl (.inr h')
     ·exact .inl (.inl h)
    rw [aY hb]
    refine⟨0,false,rfl,.inr ⟨rfl,fun fu hf=>?_⟩⟩
    obtain⟨fu',rfl,hf'⟩:=hstep fu hf
    rw [hsz fu' hf']
    by_cases h:n.A=(i:Int)-1∧n.B= -1
    ·rw [aY h,vd l (by omega) (by omega)]
     rfl
    ·rw [aL h]
theorem MR{kinds:List (List Int)}(hI:LR l i first kinds)(hn:cN l.Nodes (i:Int)=some n)(hl:l.Nodes.length≤1000)(hi:i<l.Nodes.length){s:Nat}(hs:1≤s)(hsz: ∀fu,i+1<fu→bX fu l (i:Int)=some (s:Int))(hp:Pj n i)(ho:Ce n=true)(hop:F2 n.Op=true):
  ∃a b,(n.Op≠1→cN kinds n.A=some a)∧(n.Op=2∨n.Op=7→cN kinds n.B=some b)∧a.length≤16∧b.length≤16∧ ∀fu,i+1<fu→ck fu l (i:Int)=gK l (i:Int) n a b:=by
 obtain⟨p1,p2,p3,p4⟩:=hp
 have hsz0:kE l (i:Int)=some (s:Int):=hsz iz (xh (xn _) (mO (by omega)))
 have hu: ∀fu,ck (fu+1) l (i:Int)=if(decide ((0:Int)≤n.A))then(((ck fu) l n.A).bind fun r4=>if(!r4.2)then(some ([],false))else(eg (ck fu) l (i:Int) n r4.1))else(eg (ck fu) l (i:Int) n ([])):=by
  intro fu
  conv=>lhs;unfold ck
  rw [hsz0,hn]
  simp only [bf,sv,ho]
  have: ¬(s=0):=by omega
  simp [this]
 by_cases h1:n.Op=1
 ·obtain⟨hA,hB⟩:=p1 h1
  refine⟨[],[],fun h=>absurd h1 h,fun h=>by omega,by simp,by simp,fun fu hf=>?_⟩
  obtain⟨fu,rfl⟩: ∃k,fu=k+1:=⟨fu-1,by omega⟩
  rw [hu,aL (by simp [hA])]
  unfold eg
  rw [aL (by simp [hB])]
 ·obtain⟨hi0,hA0,hAi⟩:=p2 h1
  obtain⟨fA,kA,sA,g1,g2,g3⟩:=hI.node n.A.toNat (by omega)
  have eA:((n.A.toNat:Nat):Int)=n.A:=by omega
  have hkA:cN kinds n.A=some kA:=by rw [←eA,bW];exact g2
  by_cases h27:n.Op=2∨n.Op=7
  ·have hB:=p3 h27
   obtain⟨fB,kB,sB,q1,q2,q3⟩:=hI.node (i-1) (by omega)
   have eB:((i-1:Nat):Int)=n.B:=by omega
   have hkB:cN kinds n.B=some kB:=by rw [←eB,bW];exact q2
   refine⟨kA,kB,fun _=>hkA,fun _=>hkB,g3.len,q3.len,fun fu hf=>?_⟩
   obtain⟨fu,rfl⟩: ∃k,fu=k+1:=⟨fu-1,by omega⟩
   rw [hu,aY (by simpa using hA0)]
   have e1:=g3.kinds fu (by omega)
   rw [eA]at e1
   rw [e1]
   simp only [bf,mw,fL,d7]
   unfold eg
   rw [aY (by simp;omega)]
   have e2:=q3.kinds fu (by omega)
   rw [eB]at e2
   rw [e2]
   simp only [bf,mw,fL,d7]
  ·have hB:=p4 h1 (fun h=>h27 (.inl h)) (fun h=>h27 (.inr h))
   refine⟨kA,[],fun _=>hkA,fun h=>absurd h h27,g3.len,by simp,fun fu hf=>?_⟩
   obtain⟨fu,rfl⟩: ∃k,fu=k+1:=⟨fu-1,by omega⟩
   rw [hu,aY (by simpa using hA0)]
   have e1:=g3.kinds fu (by omega)
   rw [eA]at e1
   rw [e1]
   simp only [bf,mw,fL,d7]
   unfold eg
   rw [aL (by simp [hB])]
theorem Fc(hn:cN l.Nodes (i:Int)=some n)(hl:i<1000)(h:(∀fu,i+1<fu→bX fu l (i:Int)=some 0)∨((∃s:Int,∀fu,i+1<fu→bX fu l (i:Int)=some s)∧Ce n=false)):rt l (i:Int)=some ([],false):=by
 have hF:i+1<iz:=xh (xn _) (mO (by omega))
 have e:iz=(iz-1)+1:=by omega
 unfold rt
 rw [e]
 unfold ck kE
 rcases h with h|⟨⟨s,h⟩,ho⟩
 ·rw [h _ hF];simp
 ·rw [h _ hF,hn]
  simp only [bf,sv,ho]
  by_cases hs:s=0<;>simp [hs]

def kQ(l:bc):Prop:= ∀n∈l.Nodes,ic n
abbrev aca:=aE→aj→Option (((List Int)×Bool)×aE)
def C3:List (Int×aca):=(dj (dj (dj (dj (dj (dj (dj (dj ([]:List (Int×(aE→aj→Option (((List Int)×Bool)×aE)))) (1:Int) (fun(mc:aE) (mx:aj)=>(fR mc mx).map fun mr=>(mr,mc))) (2:Int) (fun(mc:aE) (mx:aj)=>(gN mc mx).map fun mr=>(mr,mc))) (3:Int) (fun(mc:aE) (mx:aj)=>(fS mc mx).map fun mr=>(mr,mc))) (4:Int) (fun(mc:aE) (mx:aj)=>(gy mc mx).map fun mr=>(mr,mc))) (5:Int) (fun(mc:aE) (mx:aj)=>(fq mc mx).map fun mr=>(mr,mc))) (6:Int) (fun(mc:aE) (mx:aj)=>(eV mc mx).map fun mr=>(mr,mc))) (7:Int) (fun(mc:aE) (mx:aj)=>(gw mc mx).map fun mr=>(mr,mc))) (8:Int) (fun(mc:aE) (mx:aj)=>(gx mc mx).map fun mr=>(mr,mc)))
theorem RA(op:Int):(pw C3 op).isSome=F2 op:=by
 unfold C3
 rw [Rz]
 by_cases h:F2 op=true
 ·rw [h]
  rcases qM h with rfl|rfl|rfl|rfl|rfl|rfl|rfl|rfl<;>rfl
 ·rw [rR.2 h]
  have h' : ¬(1≤op∧op≤8):=fun hh=>h (by simp [F2];omega)
  have h1: ¬op=1:=by omega
  have h2: ¬op=2:=by omega
  have h3: ¬op=3:=by omega
  have h4: ¬op=4:=by omega
  have h5: ¬op=5:=by omega
  have h6: ¬op=6:=by omega
  have h7: ¬op=7:=by omega
  have h8: ¬op=8:=by omega
  simp [h1,h2,h3,h4,h5,h6,h7,h8]
theorem PR(c:aE)(n:aj)(a b:List Int)(hn:ic n)(hop:F2 n.Op=true)(ha:n.Op≠1→cN c.kinds n.A=some a)(hb:n.Op=2∨n.Op=7→cN c.kinds n.B=some b)(hal:a.length≤16)(hbl:b.length≤16):
  ∃k o k',((pw C3 n.Op).getD (fun _ _=>none)) c n=some ((k,o&&(if n.Op=8 then(c.kinds.length:Int)==IntKind.i64.wrap ((c.Logic.Nodes.length:Int)-(1:Int))else true)),c)∧bt n a b=some (k',o)∧(o=true→k=k'):=by
 have go: ∀(m:Option (List Int×Bool)) (last:Bool),BN m (bt n a b) last→((pw C3 n.Op).getD (fun _ _=>none)) c n=m.map (fun mr=>(mr,c))→(if n.Op=8 then(c.kinds.length:Int)==IntKind.i64.wrap ((c.Logic.Nodes.length:Int)-(1:Int))else true)=last→ ∃k o k',((pw C3 n.Op).getD (fun _ _=>none)) c n=some ((k,o&&(if n.Op=8 then(c.kinds.length:Int)==IntKind.i64.wrap ((c.Logic.Nodes.length:Int)-(1:Int))else true)),c)∧bt n a b=some (k',o)∧(o=true→k=k'):=by
  intro m last ⟨k,o,k',h1,h2,h3⟩ he hl
  exact⟨k,o,k',by rw [he,h1,hl];rfl,h2,h3⟩
 unfold C3 at go ⊢
 rw [Rz]at go ⊢
 rcases qM hop with h|h|h|h|h|h|h|h
 ·exact go _ _ (GX c n a b hn h) (by simp [h]) (by simp [h])
 ·exact go _ _ (PX c n a b hn h (ha (by omega)) (hb (.inl h)) hal hbl) (by simp [h]) (by simp [h])
 ·exact go _ _ (KY c n a b hn h (ha (by omega))) (by simp [h]) (by simp [h])
 ·exact go _ _ (MS c n a b hn h (ha (by omega))) (by simp [h]) (by simp [h])
 ·exact go _ _ (Ip c n a b hn h (ha (by omega))) (by simp [h]) (by simp [h])
 ·exact go _ _ (Gu c n a b h (ha (by omega))) (by simp [h]) (by simp [h])
 ·exact go _ _ (L0 c n a b h (ha (by omega)) (hb (.inr h)) hal) (by simp [h]) (by simp [h])
 ·exact go _ _ (MD c n a b hn h (ha (by omega))) (by simp [h]) (by simp [h])
variable{x:Int}
theorem PP{Sg:Type}(yld:(Int×Bool)→Sg→Option (Bool×Sg)){kinds:List (List Int)}(hI:LR l i first kinds){tl:List aj}(hd:l.Nodes.drop i=n::tl)(hS:kQ l)(hl:l.Nodes.length≤60)(st:Sg):
  ∃first' kinds' ok,bE yld (n::tl) i st ⟨l,kinds,first⟩=((yld ((i:Int),ok) st).bind fun r2=>if((!r2.1)||(!ok))then some (r2.2,⟨l,kinds',first'⟩)else bE yld tl (i+1) r2.2 ⟨l,kinds',first'⟩)∧(∃x,rt l (i:Int)=some (x,ok))∧(ok=true→LR l (i+1) first' kinds'):=by
 obtain⟨hn,hi,_⟩:=kM hd
 have hfl:=hI.fl
 have hkl:=hI.kl
 have hSn:ic n:=hS n (by
  rw [bW]at hn
  exact rU hn)
 have hF:i+1<iz:=xh (xn _) (mO (by omega))
 have hu:bE yld (n::tl) i st ⟨l,kinds,first⟩=(if(pw C3 n.Op).isSome then((tE n).bind fun r=>(tB r).bind fun r1=>some r1)else some false).bind fun t=>if t then((jP ⟨l,kinds,first⟩ (i:Int)).bind fun r4=>(app first ([r4.1])).bind fun l7=>d4 yld (bE yld tl) i n st r4.2 ⟨l,kinds,l7⟩)else(d4 yld (bE yld tl) i n st t ⟨l,kinds,first⟩):=rfl
 rw [hu,RA]
 have hk2: ∀(ok1:Bool) (k:List Int) (f' :List Int),gk yld (bE yld tl) i st ok1 k ⟨l,kinds,f'⟩=((yld ((i:Int),ok1&&decide (k.length≤16)) st).bind fun r2=>if((!r2.1)||(!(ok1&&decide (k.length≤16))))then some (r2.2,⟨l,kinds++[k],f'⟩)else bE yld tl (i+1) r2.2 ⟨l,kinds++[k],f'⟩):=by
  intro ok1 k f'
  unfold gk
  rw [co (by simp;omega)]
  have:decide ((k.length:Int)≤16)=decide (k.length≤16):=by rw [AC];simp;omega
  simp only [bf,this]
 have hk1: ∀(f' :List Int),d4 yld (bE yld tl) i n st false ⟨l,kinds,f'⟩=((yld ((i:Int),false) st).bind fun r2=>if((!r2.1)||(!false))then some (r2.2,⟨l,kinds++[[]],f'⟩)else bE yld tl (i+1) r2.2 ⟨l,kinds++[[]],f'⟩):=by
  intro f'
  unfold d4
  rw [aL (by decide),hk2]
  rfl
 by_cases hop:F2 n.Op=true
 ·rw [aY hop,Rk n hop]
  simp only [bf]
  obtain⟨f,ok,hb1,hb2⟩:=Nu hI hn hi (by omega) hop
  cases ho:Ce n with
  |false=>
   simp only [fL,d7]
   rw [hk1]
   refine⟨first,kinds++[[]],false,rfl,⟨[],Fc hn (by omega) (.inr ⟨?_,ho⟩)⟩,by simp⟩
   rcases hb2 with⟨_,s,_,_,_,h,_⟩|⟨_,h⟩
   ·exact⟨s,h⟩
   ·exact⟨0,h⟩
  |true=>
   simp only [ep]
   rw [hb1]
   simp only [bf]
   rw [co (by simp;omega)]
   simp only [bf]
   rcases hb2 with⟨hok,s,hs,hs2,hf,hsz,hp⟩|⟨hok,h⟩
   ·subst hok
    obtain⟨a,b,ha,hb,hal,hbl,hK⟩:=MR hI hn (by omega) hi hs hsz hp ho hop
    obtain⟨k,o,k',m1,m2,m3⟩:=PR ⟨l,kinds,first++[f]⟩ n a b hSn hop ha hb hal hbl
    have hk1' :d4 yld (bE yld tl) i n st true ⟨l,kinds,first++[f]⟩=((((pw C3 n.Op).getD (fun _ _=>none)) ⟨l,kinds,first++[f]⟩ n).bind fun r3=>gk yld (bE yld tl) i st r3.1.2 r3.1.1 r3.2):=rfl
    rw [hk1',m1]
    simp only [bf]
    rw [hk2]
    have hlast:((kinds.length:Int)==IntKind.i64.wrap ((l.Nodes.length:Int)-1))=((i:Int)==IntKind.i64.wrap ((l.Nodes.length:Int)-1)):=by rw [hkl]
    have hKk: ∀fu,i+1<fu→ ∃x,ck fu l (i:Int)=some (x,(o&&(if n.Op=8 then(kinds.length:Int)==IntKind.i64.wrap ((l.Nodes.length:Int)-(1:Int))else true))&&decide (k.length≤16))∧(((o&&(if n.Op=8 then(kinds.length:Int)==IntKind.i64.wrap ((l.Nodes.length:Int)-(1:Int))else true))&&decide (k.length≤16))=true→x=k):=by
     intro fu hf
     rw [hK fu hf]
     unfold gK
     rw [m2]
     simp only [bf]
     rw [hlast]
     cases o with
     |false=>
      simp only [D0]
      split
      ·exact⟨_,rfl,by simp⟩
      ·exact⟨_,rfl,by simp⟩
     |true=>
      have:=m3 rfl
      subst this
      simp only [uM]
      by_cases h8:n.Op=8
      ·by_cases hL:(i:Int)=IntKind.i64.wrap ((l.Nodes.length:Int)-1)
       ·by_cases h16:k.length≤16
        ·rw [aL (by simp [←hL];omega)]
         exact⟨k,by simp [h8,hL,h16],fun _=>rfl⟩
        ·rw [aY (by simp;omega)]
         exact⟨[],by simp [h16],by simp [h16]⟩
       ·rw [aY (by simp [h8,hL])]
        exact⟨[],by simp [h8,hL],by simp [h8,hL]⟩
      ·by_cases h16:k.length≤16
       ·rw [aL (by simp [h8];omega)]
        exact⟨k,by simp [h8,h16],fun _=>rfl⟩
       ·rw [aY (by simp;omega)]
        exact⟨[],by simp [h16],by simp [h16]⟩
    refine⟨first++[f],kinds++[k],_,rfl,?_,fun hok=>?_⟩
    ·obtain⟨x,h1,_⟩:=hKk iz hF
     exact⟨x,h1⟩
    ·refine hI.push (s:=s) ⟨hs,hs2,hf,hsz,?_,fun fu hfu=>?_⟩
     ·simp at hok;exact hok.2
     ·obtain⟨x,h1,h2⟩:=hKk fu hfu
      rw [h1,h2 hok,hok]
   ·subst hok
    rw [hk1]
    exact⟨first++[f],kinds++[[]],false,rfl,⟨[],Fc hn (by omega) (.inl h)⟩,by simp⟩
 ·rw [aL hop]
  simp only [bf,fL,d7]
  rw [hk1]
  refine⟨first,kinds++[[]],false,rfl,⟨[],Fc hn (by omega) (.inl fun fu hf=>?_)⟩,by simp⟩
  obtain⟨fu,rfl⟩: ∃k,fu=k+1:=⟨fu-1,by omega⟩
  unfold bX
  rw [aL (by simp;omega),hn]
  simp only [bf,lT]
  have h1: ¬n.Op=1:=fun h=>hop (by rw [h];rfl)
  have h2: ¬n.Op=2:=fun h=>hop (by rw [h];rfl)
  have h7: ¬n.Op=7:=fun h=>hop (by rw [h];rfl)
  simp [h1,h2,h7,hop]
theorem Uh(hS:kQ l)(hl:l.Nodes.length≤60): ∀(tl:List aj) (i:Nat) (first:List Int) (kinds:List (List Int)),LR l i first kinds→l.Nodes.drop i=tl→i+tl.length=l.Nodes.length→
  ∃st ob,bE (wP (fun x s=>o3 x s.1 s.2.1 s.2.2)) tl i (none,(false,(0:Int),false)) ⟨l,kinds,first⟩=some (st,ob)∧ob.Logic=l∧
   ((st=(none,(false,(0:Int),false))∧LR l l.Nodes.length ob.first ob.kinds∧fa l tl i=fa l [] l.Nodes.length)∨(∃j:Nat,st=(some 0,(false,(j:Int),true))∧fa l tl i=some (j:Int))):=by
 intro tl
 induction tl with
 |nil=>
  intro i first kinds hI hd hi
  simp only [pQ,yZ]at hi
  subst hi
  exact⟨_,_,rfl,rfl,.inl ⟨rfl,hI,rfl⟩⟩
 |cons n tl ih=>
  intro i first kinds hI hd hi
  simp only [iN]at hi
  obtain⟨f',k',ok,h1,⟨x,h2⟩,h3⟩:=PP (wP (fun x s=>o3 x s.1 s.2.1 s.2.2)) hI hd hS hl (none,(false,(0:Int),false))
  rw [h1]
  have hW:fa l (n::tl) i=if(!ok)then some (i:Int)else fa l tl (i+1):=by
   conv=>lhs;unfold fa
   rw [h2];rfl
  rw [hW]
  cases ok with
  |false=>exact⟨_,_,rfl,rfl,.inr ⟨i,rfl,rfl⟩⟩
  |true=>
   obtain⟨st,ob,g1,g2,g3⟩:=ih (i+1) f' k' (h3 rfl) (kM hd).2.2 (by omega)
   refine⟨st,ob,?_,g2,?_⟩
   ·exact g1
   ·simpa using g3
theorem LR.nil(l:bc):LR l 0 [] []:=⟨rfl,rfl,fun j h=>absurd h (Nat.not_lt_zero _)⟩
structure Ta(l:bc)(ob:aE):Prop where
 logic:ob.Logic=l
 pos:1≤l.Nodes.length
 le:l.Nodes.length≤60
 inv:LR l l.Nodes.length ob.first ob.kinds
 whole:kE l ((l.Nodes.length:Int)-1)=some (l.Nodes.length:Int)
theorem Ui(hS:kQ l): ∃ob j ok,px l=some (ob,j,ok)∧rr l=some (if ok then -1 else j)∧(0≤j)∧(ok=true→Ta l ob∧j=(l.Nodes.length:Int)-1):=by
 unfold px rr
 by_cases h:l.Nodes.length<1∨60<l.Nodes.length
 ·rw [aY (by simp;omega),aY (by simp;omega)]
  exact⟨_,_,_,rfl,rfl,Int.le_refl _,by simp⟩
 ·rw [aL (by simp;omega),aL (by simp;omega)]
  unfold qg
  simp only [bf]
  unfold lI
  obtain⟨st,ob,h1,h2,h3⟩:=Uh hS (by omega) l.Nodes 0 [] [] (LR.nil l) rfl (by simp)
  have h1' :bE (wP (fun x s=>o3 x s.1 s.2.1 s.2.2)) (⟨l,[],[]⟩:aE).Logic.Nodes 0 (none,(false,(0:Int),false)) ⟨l,[],[]⟩=some (st,ob):=h1
  rw [h1']
  simp only [bf]
  rcases h3 with⟨rfl,hI,hW⟩|⟨j,rfl,hW⟩
  ·simp only [Option.isNone_none,ep]
   rw [cq (by omega) (by omega)]
   obtain⟨f,ks,s,g1,g2,g3⟩:=hI.node (l.Nodes.length-1) (by omega)
   have e:((l.Nodes.length-1:Nat):Int)=(l.Nodes.length:Int)-1:=by omega
   have hid:cN ob.first ((l.Nodes.length:Int)-1)=some f:=by rw [←e,bW];exact g1
   rw [hid]
   simp only [bf]
   have hsz:kE l ((l.Nodes.length:Int)-1)=some (s:Int):=by
    have:=g3.size iz (xh (xn _) (mO (by omega)))
    rw [e]at this;exact this
   have hf:=g3.fst
   refine⟨_,_,_,rfl,?_,by omega,fun hok=>?_⟩
   ·rw [hW]
    unfold fa
    rw [cq (by omega) (by omega),hsz]
    simp only [bf]
    by_cases hs:s=l.Nodes.length
    ·rw [aL (by simp [hs]),aY (by simp;omega)]
    ·rw [aY (by simp;omega),aL (by simp;omega)]
   ·have hs:s=l.Nodes.length:=by simp at hok;omega
    exact⟨⟨h2,by omega,by omega,hI,by rw [hsz,hs]⟩,rfl⟩
  ·simp only [Option.isNone_some,fL,d7]
   refine⟨ob,(j:Int),false,rfl,by rw [hW];rfl,by omega,by simp⟩

theorem vv{n:Nat}(h:n≤900000):n<iz:=xh (xn _) (mO (by omega))
def zq(d x:Int):Int:=if 0≤x then IntKind.i64.wrap (x+d)else x
def uh(d:Int)(n:aj):aj:={n with A:=zq d n.A,B:=zq d n.B}
theorem ic.sh(h:ic n)(d:Int):ic (uh d n):=⟨h.cond,h.kinds,h.keys,h.aggs,h.items,h.order,h.args,h.exprs⟩
theorem ic.at(h:ic n)(a b:Int):ic {n with A:=a,B:=b}:=⟨h.cond,h.kinds,h.keys,h.aggs,h.items,h.order,h.args,h.exprs⟩
theorem set_same{xs:List α}{e:α}(h:xs[i]? =some e):xs.set i e=xs:=by
 apply Jr
 intro j
 rw [List.getElem?_set]
 split
 ·rename_i hj;subst hj
  split
  ·exact h.symm
  ·rename_i h2;rw [D4 (by omega)]
 ·rfl
theorem sF(h:ic n):ne n=some n:=by
 have hK:=h.kinds
 have hk:=h.keys
 have hA:=h.aggs
 have hI:=h.items
 have hO:=h.order
 have hc:=h.cond
 have hcl: ∀{l:List bo},l.length≤5000→cn l=some l:=fun{l} hl=>by
  unfold cn;rw [co (by simp;omega)];rfl
 unfold ne
 rw [sH _ (by omega),sH _ (by omega)]
 simp only [bf]
 have e1:d3 n.Order=some n.Order:=by unfold d3;rw [co (by simp;omega)];rfl
 rw [e1]
 simp only [bf]
 rw [hcl hc]
 simp only [bf]
 have e2:eZ n.Aggs=some n.Aggs:=by unfold eZ;rw [co (by simp;omega)];rfl
 rw [e2]
 simp only [bf]
 have e3:ee n.Items=some n.Items:=by unfold ee;rw [co (by simp;omega)];rfl
 rw [e3]
 simp only [bf]
 have key2: ∀(tl:List bG) (i:Nat),n.Items.drop i=tl→(∀e∈tl,e.Nodes.length≤5000)→nc tl i n=some n:=by
  intro tl
  induction tl with
  |nil=>intro i _ _;rfl
  |cons x tl ih=>
   intro i hd hs
   obtain⟨h1,h2,h3⟩:=kM hd
   unfold nc
   rw [h1]
   simp only [bf]
   rw [hcl (hs x (kO ..))]
   simp only [bf,AE]
   rw [bW]at h1
   have e4:n.Items.set i ({x with Nodes:=x.Nodes}:bG)=n.Items:=set_same h1
   rw [e4]
   exact ih (i+1) h3 (fun e he=>hs e (kN _ he))
 have key1: ∀(tl:List gS) (i:Nat),n.Aggs.drop i=tl→(∀e∈tl,e.Arg.Nodes.length≤5000)→nd tl i n=some n:=by
  intro tl
  induction tl with
  |nil=>intro i _ _;exact key2 n.Items 0 rfl h.exprs
  |cons x tl ih=>
   intro i hd hs
   obtain⟨h1,h2,h3⟩:=kM hd
   unfold nd
   rw [h1]
   simp only [bf]
   rw [hcl (hs x (kO ..))]
   simp only [bf,AE]
   rw [bW]at h1
   have e4:n.Aggs.set i ({x with Arg:=({x.Arg with Nodes:=x.Arg.Nodes}:bG)}:gS)=n.Aggs:=set_same h1
   rw [e4]
   exact ih (i+1) h3 (fun e he=>hs e (kN _ he))
 exact key1 n.Aggs 0 rfl h.args
theorem rZ(h:ic n)(d:Int):oG n d=some (uh d n):=by
 unfold oG pg uh zq
 by_cases hA:0≤n.A<;>by_cases hB:0≤n.B
 ·rw [aY (by simpa using hA),aY (by simpa using hB),aY hA,aY hB]
  exact sF (h.at _ _)
 ·rw [aY (by simpa using hA),aL (by simpa using hB),aY hA,aL hB]
  exact sF (h.at _ _)
 ·rw [aL (by simpa using hA),aY (by simpa using hB),aL hA,aY hB]
  exact sF (h.at _ _)
 ·rw [aL (by simpa using hA),aL (by simpa using hB),aL hA,aL hB]
  exact sF (h.at _ _)
def iP(l:bc):Bool:=decide ((rr l).getD 0<0)
theorem rq(h:kQ l):C0 l=some (iP l)∧(∃j,mp l=some (if iP l then(0,0)else(j,230)))∧(∃ob j,px l=some (ob,j,iP l)∧(iP l=true→Ta l ob∧j=(l.Nodes.length:Int)-1)):=by
 obtain⟨ob,j,ok,h1,h2,h3,h4⟩:=Ui h
 have e:iP l=ok:=by
  unfold iP
  rw [h2]
  cases ok<;>simp<;>omega
 refine⟨?_,⟨j,?_⟩,ob,j,?_⟩
 ·unfold C0 iP
  rw [h2];rfl
 ·unfold mp
  rw [h1,e]
  cases ok<;>rfl
 ·rw [e]
  exact⟨h1,h4⟩
theorem AZ(hA:n.A≤100000)(hB:n.B≤100000):uh 0 n=n:=by
 have h: ∀x:Int,x≤100000→zq 0 x=x:=by
  intro x hx
  unfold zq
  by_cases h:0≤x
  ·rw [aY h,Int.add_zero,cq (by omega) (by omega)]
  ·rw [aL h]
 unfold uh
 rw [h _ hA,h _ hB]
theorem On{d:Int}{ns:List aj}(h: ∀n∈ns,ic n): ∀n∈ns.map (uh d),ic n:=by
 intro n hn
 obtain⟨m,hm,rfl⟩:=ui.1 hn
 exact(h m hm).sh d

structure Aw(l:bc)(sz:Nat→Nat)(ks:Nat→List Int)(j:Nat)(n:aj):Prop where
 node:cN l.Nodes (j:Int)=some n
 op:F2 n.Op=true
 own:Ce n=true
 lf:n.Op=1→n.A= -1∧n.B= -1∧sz j=1
 un:n.Op≠1→n.Op≠2→n.Op≠7→0<j∧n.A=(j:Int)-1∧n.B= -1∧sz j=sz (j-1)+1
 bi:n.Op=2∨n.Op=7→0<j∧n.B=(j:Int)-1∧sz (j-1)<j∧n.A=(j:Int)-1-(sz (j-1):Int)∧sz j=sz (j-1-sz (j-1))+sz (j-1)+1
 kinds:bt n (if n.A<0 then []else ks n.A.toNat) (if n.B<0 then []else ks n.B.toNat)=some (ks j,true)
 last:n.Op=8→j+1=l.Nodes.length
 len:(ks j).length≤16
 pos:1≤sz j
 le:sz j≤j+1
theorem GU(hn:cN l.Nodes (j:Int)=some n)(hj:j<l.Nodes.length)(hl:l.Nodes.length≤1000)(fu:Nat):bX (fu+1) l (j:Int)=
  if n.Op=1 then(if n.A= -1∧n.B= -1 then some 1 else some 0)
  else if n.Op=2∨n.Op=7 then(if n.B=(j:Int)-1 then((bX fu) l n.B).bind (fun r2=>if((decide ((0:Int)<r2))&&(n.A==(IntKind.i64.wrap (n.B-r2))))then(((bX fu) l n.A).bind fun r3=>if(decide ((0:Int)<r3))then(some (IntKind.i64.wrap ((IntKind.i64.wrap (r3+r2))+(1:Int))))else(some (0:Int)))else(some (0:Int)))else some 0)
  else if F2 n.Op=true then(if n.A=(j:Int)-1∧n.B= -1 then((bX fu) l n.A).bind (fun r1=>if(decide ((0:Int)<r1))then(some (IntKind.i64.wrap (r1+(1:Int))))else(some (0:Int)))else some 0)
  else some 0:=by
 conv=>lhs;unfold bX
 rw [aL (by simp;omega),hn]
 simp only [bf,lT]
 by_cases h1:n.Op=1
 ·simp only [h1,ep]
  rw [aY (by decide)]
  by_cases hAB:n.A= -1∧n.B= -1
  ·rw [aY hAB,aY (by simp [hAB])]
  ·rw [aL hAB,aL (by simpa using hAB)]
 by_cases h27:n.Op=2∨n.Op=7
 ·simp only [h1,h27,ep,d7]
  rw [aL (by decide),aL (by decide),aY (by decide),cq (n:=(j:Int)-1) (by omega) (by omega)]
  by_cases hB:n.B=(j:Int)-1
  ·rw [aY (by simp [hB]),aY hB]
  ·rw [aL (by simpa using hB),aL hB]
 by_cases hop:F2 n.Op=true
 ·simp only [h1,h27,hop,ep,d7]
  rw [aL (by decide),aY (by decide),cq (n:=(j:Int)-1) (by omega) (by omega)]
  by_cases hB:n.A=(j:Int)-1∧n.B= -1
  ·rw [aY (by simp [hB]),aY hB]
  ·rw [aL (by simpa using hB),aL hB]
 ·simp only [h1,h27,hop,d7]
  rw [aL (by decide),aL (by decide),aL (by decide)]
  rfl
theorem Bj{s:Int}(hn:cN l.Nodes (j:Int)=some n)(hs:kE l (j:Int)=some s)(hs0:s≠0)(ho:Ce n=true)(fu:Nat):ck (fu+1) l (j:Int)=if(decide ((0:Int)≤n.A))then(((ck fu) l n.A).bind fun r4=>if(!r4.2)then(some ([],false))else(eg (ck fu) l (j:Int) n r4.1))else(eg (ck fu) l (j:Int) n ([])):=by
 conv=>lhs;unfold ck
 rw [hs,hn]
 simp only [bf,sv,ho]
 have:(s==0)=false:=by simpa using hs0
 simp [this]
def xa(first:List Int)(j:Nat):Nat:=((j:Int)+1-(first[j]?).getD 0).toNat
def MQ(kinds:List (List Int))(j:Nat):List Int:=(kinds[j]?).getD []
theorem LR.at{kinds:List (List Int)}(h:LR l i first kinds)(hj:j<i):ND l j ((j:Int)+1-(xa first j:Int)) (MQ kinds j) (xa first j)∧first[j]? =some ((j:Int)+1-(xa first j:Int)):=by
 obtain⟨f,k,s,h1,h2,h3⟩:=h.node j hj
 have e1:MQ kinds j=k:=by unfold MQ;rw [h2];rfl
 have hf:=h3.fst
 have hp:=h3.pos
 have e2:xa first j=s:=by unfold xa;rw [h1];simp only [GB];omega
 rw [e1,e2,←hf]
 exact⟨h3,h1⟩
theorem K0{kinds:List (List Int)}(hI:LR l l.Nodes.length first kinds)(hl:l.Nodes.length≤60)(hj:j<l.Nodes.length): ∃n,Aw l (xa first) (MQ kinds) j n:=by
 obtain⟨N0,_⟩:=hI.at hj
 have hn:cN l.Nodes (j:Int)=some l.Nodes[j]:=by rw [bW,oO hj]
 obtain⟨n,hnn⟩: ∃n,n=l.Nodes[j]:=⟨_,rfl⟩
 rw [←hnn]at hn
 have hpos:=N0.pos
 have hsz:=N0.size (j+3) (by omega)
 rw [GU hn hj (by omega)]at hsz
 have hnone: ∀{x:Int},x=0→ ¬(some x=some (xa first j:Int)):=by
  intro x hx h
  injection h with h
  omega
 -- the places
 have P:F2 n.Op=true∧(n.Op=1→n.A= -1∧n.B= -1∧xa first j=1)∧(n.Op≠1→n.Op≠2→n.Op≠7→0<j∧n.A=(j:Int)-1∧n.B= -1∧xa first j=xa first (j-1)+1)∧(n.Op=2∨n.Op=7→0<j∧n.B=(j:Int)-1∧xa first (j-1)<j∧n.A=(j:Int)-1-(xa first (j-1):Int)∧xa first j=xa first (j-1-xa first (j-1))+xa first (j-1)+1):=by
  by_cases h1:n.Op=1
  ·rw [aY h1]at hsz
   by_cases hAB:n.A= -1∧n.B= -1
   ·rw [aY hAB]at hsz
    injection hsz with hsz
    exact⟨by rw [h1];rfl,fun _=>⟨hAB.1,hAB.2,by omega⟩,fun h=>absurd h1 h,fun h=>by omega⟩
   ·rw [aL hAB]at hsz;exact absurd hsz (hnone rfl)
  rw [aL h1]at hsz
  by_cases h27:n.Op=2∨n.Op=7
  ·rw [aY h27]at hsz
   by_cases hB:n.B=(j:Int)-1
   ·rw [aY hB]at hsz
    by_cases hj0:j=0
    ·rw [vd l (by omega) (by omega)]at hsz
     exact absurd hsz (hnone rfl)
    ·obtain⟨NB,_⟩:=hI.at (j:=j-1) (by omega)
     have eB:((j-1:Nat):Int)=n.B:=by omega
     have hszB:=NB.size (j+2) (by omega)
     have hpB:=NB.pos
     have hlB:=NB.le
     rw [eB]at hszB
     rw [hszB]at hsz
     simp only [bf]at hsz
     rw [cq (n:=n.B-_) (by omega) (by omega)]at hsz
     by_cases hA:n.A=n.B-(xa first (j-1):Int)
     ·rw [aY (by simp [hA];omega)]at hsz
      by_cases hA0:n.A<0
      ·rw [vd l (by omega) hA0]at hsz
       exact absurd hsz (hnone rfl)
      ·obtain⟨NA,_⟩:=hI.at (j:=j-1-xa first (j-1)) (by omega)
       have eA:((j-1-xa first (j-1):Nat):Int)=n.A:=by omega
       have hszA:=NA.size (j+2) (by omega)
       have hpA:=NA.pos
       have hlA:=NA.le
       rw [eA]at hszA
       rw [hszA]at hsz
       simp only [bf]at hsz
       rw [aY (by simp;omega),cq (n:=(xa first (j-1-xa first (j-1)):Int)+(xa first (j-1):Int)) (by omega) (by omega),cq (by omega) (by omega)]at hsz
       injection hsz with hsz
       refine⟨?_,fun h=>absurd h h1,fun _ h2 h7=>by rcases h27 with h|h;exact absurd h h2;exact absurd h h7,fun _=>⟨by omega,hB,by omega,by omega,by omega⟩⟩
       rcases h27 with h|h<;>rw [h]<;>rfl
     ·rw [aL (by simp;intro _;exact hA)]at hsz
      exact absurd hsz (hnone rfl)
   ·rw [aL hB]at hsz;exact absurd hsz (hnone rfl)
  rw [aL h27]at hsz
  by_cases hop:F2 n.Op=true
  ·rw [aY hop]at hsz
   by_cases hA:n.A=(j:Int)-1∧n.B= -1
   ·rw [aY hA]at hsz
    by_cases hj0:j=0
    ·rw [vd l (by omega) (by omega)]at hsz
     exact absurd hsz (hnone rfl)
    ·obtain⟨NA,_⟩:=hI.at (j:=j-1) (by omega)
     have eA:((j-1:Nat):Int)=n.A:=by omega
     have hszA:=NA.size (j+2) (by omega)
     have hpA:=NA.pos
     have hlA:=NA.le
     rw [eA]at hszA
     rw [hszA]at hsz
     simp only [bf]at hsz
     rw [aY (by simp;omega),cq (by omega) (by omega)]at hsz
     injection hsz with hsz
     exact⟨hop,fun h=>absurd h h1,fun _ _ _=>⟨by omega,hA.1,hA.2,by omega⟩,fun h=>absurd h h27⟩
   ·rw [aL hA]at hsz;exact absurd hsz (hnone rfl)
  ·rw [aL hop]at hsz;exact absurd hsz (hnone rfl)
 obtain⟨p0,p1,p2,p3⟩:=P
 -- what it has of its own, and its kinds
 have hk:=N0.kinds (j+3) (by omega)
 have hszR:kE l (j:Int)=some (xa first j:Int):=N0.size iz (vv (by omega))
 have ho:Ce n=true:=by
  cases ho:Ce n with
  |true=>rfl
  |false=>
   exfalso
   unfold ck at hk
   rw [hszR,hn]at hk
   simp only [bf,sv,ho]at hk
   have: ¬(xa first j=0):=by omega
   simp [this]at hk
 have hpl:n.A<(j:Int)∧n.B<(j:Int):=by
  by_cases h1:n.Op=1
  ·obtain⟨a,b,_⟩:=p1 h1;omega
  by_cases h27:n.Op=2∨n.Op=7
  ·obtain⟨a,b,c,d,_⟩:=p3 h27;omega
  ·obtain⟨a,b,c,_⟩:=p2 h1 (fun h=>h27 (.inl h)) (fun h=>h27 (.inr h));omega
 rw [Bj hn hszR (by omega) ho]at hk
 have hkA: ∀(p:Int),0≤p→p<(j:Int)→ck (j+2) l p=some (MQ kinds p.toNat,true):=by
  intro p hp0 hpj
  obtain⟨NA,_⟩:=hI.at (j:=p.toNat) (by omega)
  have:=NA.kinds (j+2) (by omega)
  rw [show((p.toNat:Nat):Int)=p from by omega]at this
  exact this
 have hk1: ∀a,eg (ck (j+2)) l (j:Int) n a=gK l (j:Int) n a (if n.B<0 then []else MQ kinds n.B.toNat):=by
  intro a
  unfold eg
  by_cases hB:0≤n.B
  ·rw [aY (by simpa using hB),hkA n.B hB hpl.2,aL (by omega)]
   rfl
  ·rw [aL (by simpa using hB),aY (by omega)]
 have hk2:gK l (j:Int) n (if n.A<0 then []else MQ kinds n.A.toNat) (if n.B<0 then []else MQ kinds n.B.toNat)=some (MQ kinds j,true):=by
  by_cases hA:0≤n.A
  ·rw [aY (by simpa using hA),hkA n.A hA hpl.1]at hk
   simp only [bf,mw,fL,d7]at hk
   rw [hk1]at hk
   rw [aL (show¬n.A<0 by omega)]
   exact hk
  ·rw [aL (by simpa using hA),hk1]at hk
   rw [aY (show n.A<0 by omega)]
   exact hk
 unfold gK at hk2
 cases hr:bt n (if n.A<0 then []else MQ kinds n.A.toNat) (if n.B<0 then []else MQ kinds n.B.toNat)with
 |none=>rw [hr]at hk2;cases hk2
 |some r=>
  rw [hr]at hk2
  simp only [bf]at hk2
  split at hk2
  ·simp at hk2
  ·rename_i hc
   injection hk2 with hk2
   injection hk2 with e1 e2
   refine⟨n,hn,p0,ho,p1,p2,p3,?_,fun h8=>?_,N0.len,N0.pos,N0.le⟩
   ·rw [hr,←e1,←e2]
   ·simp only [pW,mi,sY,qD,kX,not_or,not_and,Decidable.not_not]at hc
    have:=hc.1 h8
    rw [cq (by omega) (by omega)]at this
    omega
variable{sz:Nat→Nat}
theorem Qe{m:Nat}(hl:l.Nodes.length≤60)(hm:m≤l.Nodes.length)(h: ∀j,j<m→ ∃n,Aw l sz ks j n): ∀(j:Nat),j<m→(∀fu,j+1<fu→bX fu l (j:Int)=some (sz j:Int))∧ ∀fu,j+1<fu→ck fu l (j:Int)=some (ks j,true):=by
 intro j
 induction j using Nat.strongRecOn with
 |ind j ih=>
  intro hj
  obtain⟨n,F⟩:=h j hj
  have hpl:n.A<(j:Int)∧n.B<(j:Int):=by
   by_cases h1:n.Op=1
   ·obtain⟨a,b,_⟩:=F.lf h1;omega
   by_cases h27:n.Op=2∨n.Op=7
   ·obtain⟨a,b,c,d,_⟩:=F.bi h27;omega
   ·obtain⟨a,b,c,_⟩:=F.un h1 (fun h=>h27 (.inl h)) (fun h=>h27 (.inr h));omega
  have hS: ∀fu,j+1<fu→bX fu l (j:Int)=some (sz j:Int):=by
   intro fu hf
   obtain⟨fu,rfl⟩: ∃k,fu=k+1:=⟨fu-1,by omega⟩
   rw [GU F.node (by omega) (by omega)]
   by_cases h1:n.Op=1
   ·obtain⟨a,b,c⟩:=F.lf h1
    rw [aY h1,aY ⟨a,b⟩,c];rfl
   rw [aL h1]
   by_cases h27:n.Op=2∨n.Op=7
   ·obtain⟨a,b,c,d,e⟩:=F.bi h27
    obtain⟨nB,FB⟩:=h (j-1) (by omega)
    obtain⟨nA,FA⟩:=h (j-1-sz (j-1)) (by omega)
    have hB:=(ih (j-1) (by omega) (by omega)).1 fu (by omega)
    have hA:=(ih (j-1-sz (j-1)) (by omega) (by omega)).1 fu (by omega)
    rw [show((j-1:Nat):Int)=n.B from by omega]at hB
    rw [show((j-1-sz (j-1):Nat):Int)=n.A from by omega]at hA
    have q1:=FB.pos
    have q2:=FB.le
    have q3:=FA.pos
    have q4:=FA.le
    rw [aY h27,aY b,hB]
    simp only [bf]
    rw [cq (n:=n.B-_) (by omega) (by omega),aY (by simp;omega),hA]
    simp only [bf]
    rw [aY (by simp;omega),cq (n:=(sz (j-1-sz (j-1)):Int)+(sz (j-1):Int)) (by omega) (by omega),cq (by omega) (by omega),e]
    rfl
   ·obtain⟨a,b,c,d⟩:=F.un h1 (fun h=>h27 (.inl h)) (fun h=>h27 (.inr h))
    obtain⟨nA,FA⟩:=h (j-1) (by omega)
    have hA:=(ih (j-1) (by omega) (by omega)).1 fu (by omega)
    rw [show((j-1:Nat):Int)=n.A from by omega]at hA
    have q1:=FA.pos
    have q2:=FA.le
    rw [aL h27,aY F.op,aY ⟨b,c⟩,hA]
    simp only [bf]
    rw [aY (by simp;omega),cq (by omega) (by omega),d]
    rfl
  refine⟨hS,fun fu hf=>?_⟩
  obtain⟨fu,rfl⟩: ∃k,fu=k+1:=⟨fu-1,by omega⟩
  have hszR:kE l (j:Int)=some (sz j:Int):=hS iz (vv (by omega))
  have hp:=F.pos
  rw [Bj F.node hszR (by omega) F.own]
  have hkA: ∀(p:Int),0≤p→p<(j:Int)→ck fu l p=some (ks p.toNat,true):=by
   intro p hp0 hpj
   have:=(ih p.toNat (by omega) (by omega)).2 fu (by omega)
   rw [show((p.toNat:Nat):Int)=p from by omega]at this
   exact this
  have hk1: ∀a,eg (ck fu) l (j:Int) n a=gK l (j:Int) n a (if n.B<0 then []else ks n.B.toNat):=by
   intro a
   unfold eg
   by_cases hB:0≤n.B
   ·rw [aY (by simpa using hB),hkA n.B hB hpl.2,aL (by omega)]
    rfl
   ·rw [aL (by simpa using hB),aY (by omega)]
  have hk2:gK l (j:Int) n (if n.A<0 then []else ks n.A.toNat) (if n.B<0 then []else ks n.B.toNat)=some (ks j,true):=by
   unfold gK
   rw [F.kinds]
   simp only [bf]
   rw [aL]
   have hlen:=F.len
   simp only [pW,mi,sY,qD,kX,not_or,not_and,Decidable.not_not]
   refine⟨fun h8=>?_,by omega⟩
   have:=F.last h8
   rw [cq (by omega) (by omega)]
   omega
  by_cases hA:0≤n.A
  ·rw [aY (by simpa using hA),hkA n.A hA hpl.1]
   simp only [bf,mw,fL,d7]
   rw [hk1]
   rw [aL (show¬n.A<0 by omega)]at hk2
   exact hk2
  ·rw [aL (by simpa using hA),hk1]
   rw [aY (show n.A<0 by omega)]at hk2
   exact hk2
theorem KZ(hl:l.Nodes.length≤60)(hp:1≤l.Nodes.length)(h: ∀j,j<l.Nodes.length→ ∃n,Aw l sz ks j n)(hw:sz (l.Nodes.length-1)=l.Nodes.length):iP l=true:=by
 have H:=Qe hl (dy _) h
 unfold iP rr
 rw [aL (by simp;omega)]
 have key: ∀(tl:List aj) (i:Nat),l.Nodes.drop i=tl→i+tl.length=l.Nodes.length→fa l tl i=some (-1):=by
  intro tl
  induction tl with
  |nil=>
   intro i _ _
   unfold fa
   have:=(H (l.Nodes.length-1) (by omega)).1 iz (vv (by omega))
   rw [cq (by omega) (by omega),show(l.Nodes.length:Int)-1=((l.Nodes.length-1:Nat):Int)from by omega]
   unfold kE
   rw [this,hw]
   simp
  |cons n tl ih=>
   intro i hd hi
   simp only [iN]at hi
   obtain⟨_,h2,h3⟩:=kM hd
   unfold fa rt
   rw [(H i h2).2 iz (vv (by omega))]
   simp only [bf,mw,fL,d7]
   exact ih (i+1) h3 (by omega)
 rw [key l.Nodes 0 rfl (by simp)]
 rfl

structure acd(n:aj):Prop where
 cond:0<n.Cond.Nodes.length→j5 n.Cond.Nodes=true
 items: ∀e∈n.Items,0<e.Nodes.length→j5 e.Nodes=true
 args: ∀g∈n.Aggs,0<g.Arg.Nodes.length→j5 g.Arg.Nodes=true
def JD(e:bG):Bool:= !e.Nodes.isEmpty&&e.Nodes.any Za
def QQ(g:gS):Bool:=if g.Tag=3 then true else JD g.Arg
def HX(n:aj):Bool:=JD n.Cond||n.Items.any JD||n.Aggs.any QQ

def Ab(l:bc)(e p:Nat):bc:=⟨((l.Nodes.take (p+1)).drop e).map (uh (-(e:Int)))⟩
theorem wi{e:Nat}(hp:p<l.Nodes.length):(Ab l e p).Nodes.length=p+1-e:=by
 unfold Ab;simp;omega
theorem Ir(h:kQ l)(e p:Nat):kQ (Ab l e p):=
 On fun n hn=>h n (List.mem_of_mem_take (List.mem_of_mem_drop hn))
theorem Nz(hS:kQ l)(hl:l.Nodes.length≤60){e:Nat}(hp:p<l.Nodes.length)(he:e≤100): ∀(tl:List aj) (i fu:Nat) (out:bc),(l.Nodes.take (p+1)).drop i=tl→i+tl.length=p+1→tl.length<fu→out.Nodes.length≤i→nv l (p:Int) (e:Int) fu (i:Int) out=some (⟨out.Nodes++tl.map (uh (-(e:Int)))⟩,0):=by
 intro tl
 induction tl with
 |nil=>
  intro i fu out hd hi hf _
  obtain⟨fu,rfl⟩: ∃k,fu=k+1:=⟨fu-1,by omega⟩
  simp only [pQ,yZ]at hi
  rw [nv,aL (by simp;omega)]
  simp
 |cons x tl ih=>
  intro i fu out hd hi hf ho
  simp only [iN]at hi hf
  obtain⟨fu,rfl⟩: ∃k,fu=k+1:=⟨fu-1,by omega⟩
  obtain⟨h1,h2,h3⟩:=kM hd
  have h1' :cN l.Nodes (i:Int)=some x:=by
   rw [bW]at h1 ⊢
   rw [BZ (by omega)]at h1
   exact h1
  have hx:ic x:=hS x (by rw [bW]at h1';exact rU h1')
  rw [nv,aY (by simp;omega),h1']
  simp only [bf]
  rw [cq (n:=(0:Int)-(e:Int)) (by omega) (by omega),rZ hx]
  simp only [bf]
  rw [co (by simp;omega),cq (by omega) (by omega),show((i:Int)+1)=((i+1:Nat):Int)from by omega]
  simp only [bf]
  rw [ih (i+1) fu _ h3 (by omega) (by omega) (by simp;omega)]
  simp

theorem KO(n:aj)(d:Int): ∀(fu:Nat) (ok:Bool) (i:Int),dn (uh d n) fu ok i=dn n fu ok i:=by
 intro fu
 induction fu with
 |zero=>intros;rfl
 |succ fu ih=>intros;simp only [dn,ih];rfl
theorem KM(n:aj)(d:Int)(a:List Int): ∀(fu:Nat) (out:List Int) (ok:Bool) (i:Int),dL (uh d n) a fu out ok i=dL n a fu out ok i:=by
 intro fu
 induction fu with
 |zero=>intros;rfl
 |succ fu ih=>intros;simp only [dL,ih];rfl
theorem KN(n:aj)(d:Int)(a:List Int): ∀(fu:Nat) (out:List Int) (i:Int),dM (uh d n) a fu out i=dM n a fu out i:=by
 intro fu
 induction fu with
 |zero=>intros;rfl
 |succ fu ih=>intros;simp only [dM,ih,KM];rfl
theorem KL(n:aj)(d:Int)(a:List Int): ∀(fu:Nat) (out:List Int) (ok:Bool) (i:Int),dK (uh d n) a fu out ok i=dK n a fu out ok i:=by
 intro fu
 induction fu with
 |zero=>intros;rfl
 |succ fu ih=>intros;simp only [dK,ih];rfl
theorem KK(n:aj)(d:Int)(a:List Int): ∀(fu:Nat) (ok:Bool) (i:Int),dc (uh d n) a fu ok i=dc n a fu ok i:=by
 intro fu
 induction fu with
 |zero=>intros;rfl
 |succ fu ih=>intros;simp only [dc,ih];rfl
theorem KJ(n:aj)(d:Int)(a b:List Int):bt (uh d n) a b=bt n a b:=by
 unfold bt
 simp only [KO,KN,KL,KK]
 rfl
theorem TY(n:aj)(d:Int):Ce (uh d n)=Ce n:=rfl
section
abbrev F0(l:bc)(sz:Nat→Nat)(ks:Nat→List Int):Prop:= ∀j,j<l.Nodes.length→ ∃n,Aw l sz ks j n
theorem ZQ(H:F0 l sz ks): ∀(p:Nat),p<l.Nodes.length→ ∀q,p+1-sz p≤q→q≤p→p+1-sz p≤q+1-sz q:=by
 intro p
 induction p using Nat.strongRecOn with
 |ind p ih=>
  intro hp q h1 h2
  by_cases hq:q=p
  ·subst hq;exact dy _
  obtain⟨n,F⟩:=H p hp
  by_cases c1:n.Op=1
  ·obtain⟨_,_,e⟩:=F.lf c1
   omega
  by_cases c27:n.Op=2∨n.Op=7
  ·obtain⟨a,b,c,d,e⟩:=F.bi c27
   obtain⟨nA,FA⟩:=H (p-1-sz (p-1)) (by omega)
   have hpA:=FA.pos
   have hlA:=FA.le
   by_cases hB:p-1+1-sz (p-1)≤q
   ·have:=ih (p-1) (by omega) (by omega) q hB (by omega)
    omega
   ·have:=ih (p-1-sz (p-1)) (by omega) (by omega) q (by omega) (by omega)
    omega
  ·obtain⟨a,b,c,d⟩:=F.un c1 (fun h=>c27 (.inl h)) (fun h=>c27 (.inr h))
   have:=ih (p-1) (by omega) (by omega) q (by omega) (by omega)
   omega
theorem Yh(H:F0 l sz ks)(hp:p<l.Nodes.length)(h1:p+1-sz p≤i)(h2:i≤p)(F:Aw l sz ks i n):(n.A= -1∨((p+1-sz p:Nat):Int)≤n.A∧n.A<(i:Int))∧(n.B= -1∨((p+1-sz p:Nat):Int)≤n.B∧n.B<(i:Int)):=by
 have hn:=ZQ H p hp i h1 h2
 by_cases c1:n.Op=1
 ·obtain⟨a,b,_⟩:=F.lf c1
  exact⟨.inl a,.inl b⟩
 by_cases c27:n.Op=2∨n.Op=7
 ·obtain⟨a,b,c,d,e⟩:=F.bi c27
  obtain⟨nA,FA⟩:=H (i-1-sz (i-1)) (by omega)
  have hpA:=FA.pos
  have hlA:=FA.le
  exact⟨.inr (by omega),.inr (by omega)⟩
 ·obtain⟨a,b,c,d⟩:=F.un c1 (fun h=>c27 (.inl h)) (fun h=>c27 (.inr h))
  obtain⟨nA,FA⟩:=H (i-1) (by omega)
  have hpA:=FA.pos
  exact⟨.inr (by omega),.inl c⟩
theorem A1{d:Int}(h:x= -1):zq d x= -1:=by unfold zq;rw [aL (by omega),h]
theorem H7{e:Int}(h:0≤e)(h2:e≤x)(h3:x≤100000):zq (-e) x=x-e:=by
 unfold zq
 rw [aY (by omega),cq (by omega) (by omega)]
 omega
theorem EU(H:F0 l sz ks)(hl:l.Nodes.length≤60)(hp:p<l.Nodes.length)(hs:sz p≤p+1):F0 (Ab l (p+1-sz p) p) (fun j=>sz (p+1-sz p+j)) (fun j=>ks (p+1-sz p+j)):=by
 obtain⟨e,he⟩: ∃e,e=p+1-sz p:=⟨_,rfl⟩
 rw [←he]
 intro j hj
 rw [wi hp]at hj
 obtain⟨n,F⟩:=H (e+j) (by omega)
 have hin:=Yh H hp (i:=e+j) (by omega) (by omega) F
 have hnest:=ZQ H p hp (e+j) (by omega) (by omega)
 rw [←he]at hin hnest
 obtain⟨hA,hB⟩:=hin
 refine⟨uh (-(e:Int)) n,⟨?_,F.op,by rw [TY];exact F.own,fun c1=>?_,fun c1 c2 c7=>?_,fun c27=>?_,?_,fun c8=>?_,F.len,F.pos,?_⟩⟩
 ·have h1:=F.node
  rw [bW]at h1 ⊢
  unfold Ab
  simp only
  rw [AL,wU,BZ (by omega),h1]
  rfl
 ·obtain⟨a,b,c⟩:=F.lf c1
  exact⟨A1 a,A1 b,c⟩
 ·obtain⟨a,b,c,d⟩:=F.un c1 c2 c7
  obtain⟨nA,FA⟩:=H (e+j-1) (by omega)
  have hpA:=FA.pos
  have eA:zq (-(e:Int)) n.A=n.A-(e:Int):=H7 (by omega) (by omega) (by omega)
  refine⟨by omega,?_,A1 c,?_⟩
  ·show zq (-(e:Int)) n.A=_
   rw [eA];omega
  ·show sz (e+j)=sz (e+(j-1))+1
   rw [d,show e+j-1=e+(j-1)from by omega]
 ·obtain⟨a,b,c,d,g⟩:=F.bi c27
  obtain⟨nA,FA⟩:=H (e+j-1-sz (e+j-1)) (by omega)
  have hpA:=FA.pos
  have eA:zq (-(e:Int)) n.A=n.A-(e:Int):=H7 (by omega) (by omega) (by omega)
  have eB:zq (-(e:Int)) n.B=n.B-(e:Int):=H7 (by omega) (by omega) (by omega)
  have ej:e+(j-1)=e+j-1:=by omega
  refine⟨by omega,?_,?_,?_,?_⟩
  ·show zq (-(e:Int)) n.B=_
   rw [eB];omega
  ·show sz (e+(j-1))<j
   rw [ej];omega
  ·show zq (-(e:Int)) n.A=(j:Int)-1-(sz (e+(j-1)):Int)
   rw [eA,ej];omega
  ·show sz (e+j)=sz (e+(j-1-sz (e+(j-1))))+sz (e+(j-1))+1
   rw [ej,g,show e+(j-1-sz (e+j-1))=e+j-1-sz (e+j-1)from by omega]
 ·rw [KJ]
  have key: ∀x:Int,(x= -1∨(e:Int)≤x∧x<((e+j:Nat):Int))→(if zq (-(e:Int)) x<0 then([]:List Int)else ks (e+(zq (-(e:Int)) x).toNat))=if x<0 then []else ks x.toNat:=by
   intro x hx
   rcases hx with hx|hx
   ·rw [A1 hx,aY (by decide),aY (by omega)]
   ·rw [H7 (by omega) hx.1 (by omega),aL (by omega),aL (by omega)]
    congr 1
    omega
  have h1:=F.kinds
  rw [←key n.A hA,←key n.B hB]at h1
  exact h1
 ·have:=F.last c8
  rw [wi hp]
  omega
 ·show sz (e+j)≤j+1
  have:=F.le
  omega
theorem Mw(H:F0 l sz ks)(hl:l.Nodes.length≤60)(hp:p<l.Nodes.length)(hs:sz p≤p+1)(hs1:1≤sz p):iP (Ab l (p+1-sz p) p)=true:=by
 have hlen:=wi (l:=l) (e:=p+1-sz p) hp
 refine KZ (by rw [hlen];omega) (by rw [hlen];omega) (EU H hl hp hs) ?_
 rw [hlen]
 show sz (p+1-sz p+(p+1-(p+1-sz p)-1))=_
 rw [show p+1-sz p+(p+1-(p+1-sz p)-1)=p from by omega]
 omega
end
theorem MO(nx:Nat→aj→bc→bc→Option (bc×Int))(i:Nat)(n:aj)(x out:bc): ∀(tl:List aj) (out1:bc),(∀m∈tl,ic m)→out1.Nodes.length+tl.length≤100000→nu nx i n x out tl out1=(if((i:Int)==(0:Int))then nx (i+1) (aj.mk n.Op (IntKind.i64.wrap (((out1.Nodes++tl.map (uh (out.Nodes.length:Int))).length:Int)-(1:Int))) n.B n.Table n.Kinds n.Left n.Cond n.Keys n.Aggs n.Items n.Order n.Limit) x ⟨out1.Nodes++tl.map (uh (out.Nodes.length:Int))⟩else nx (i+1) (aj.mk n.Op n.A (IntKind.i64.wrap (((out1.Nodes++tl.map (uh (out.Nodes.length:Int))).length:Int)-(1:Int))) n.Table n.Kinds n.Left n.Cond n.Keys n.Aggs n.Items n.Order n.Limit) x ⟨out1.Nodes++tl.map (uh (out.Nodes.length:Int))⟩):=by
 intro tl
 induction tl with
 |nil=>intro out1 _ _;unfold nu;simp only [List.map_nil,rn]
 |cons m tl ih2=>
  intro out1 hm hl1
  simp only [iN]at hl1
  rw [nu,rZ (hm m (kO ..))]
  simp only [bf]
  rw [co (by simp;omega)]
  simp only [bf]
  rw [ih2 _ (fun z hz=>hm z (kN _ hz)) (by simp;omega)]
  simp only [AB,jG,vO,jY]
theorem Ha{x out a:bc}(ha:kQ a)(hr:iP a=true)(hl:a.Nodes.length≤1000)(ho:out.Nodes.length≤1000)(parts:List bc)(i:Nat):ij (a::parts) i n x out=(if((i:Int)==(0:Int))then ij parts (i+1) (aj.mk n.Op (IntKind.i64.wrap (((out.Nodes++a.Nodes.map (uh (out.Nodes.length:Int))).length:Int)-(1:Int))) n.B n.Table n.Kinds n.Left n.Cond n.Keys n.Aggs n.Items n.Order n.Limit) x ⟨out.Nodes++a.Nodes.map (uh (out.Nodes.length:Int))⟩else ij parts (i+1) (aj.mk n.Op n.A (IntKind.i64.wrap (((out.Nodes++a.Nodes.map (uh (out.Nodes.length:Int))).length:Int)-(1:Int))) n.Table n.Kinds n.Left n.Cond n.Keys n.Aggs n.Items n.Order n.Limit) x ⟨out.Nodes++a.Nodes.map (uh (out.Nodes.length:Int))⟩):=by
 conv=>lhs;unfold ij
 obtain⟨_,⟨j,h2⟩,_⟩:=rq ha
 rw [h2,hr]
 simp only [ep,bf]
 rw [aL (by decide),MO _ i n x out a.Nodes out ha (by omega)]

theorem acn{k:Int}(h:k4 k):(decide (0≤k)&&decide (k≤3))=true:=by simp;unfold k4 at h;omega
theorem yJ{a b:List Int}(ha:za a=true)(hb:za b=true):za (a++b)=true:=by unfold za at*;rw [D1,ha,hb];rfl
theorem DH{k:Int}(h:k4 k):za [k]=true:=by rw [Bk,acn h];rfl
theorem qr{xs ys zs:List α}(h:app xs ys=some zs):zs=xs++ys:=by
 unfold app at h
 split at h
 ·injection h with h;exact h.symm
 ·cases h
theorem KP(e:bG)(kinds:List Int):k4 (fF e kinds).1:=by
 unfold fF
 split
 ·split
  ·rename_i hk
   split
   ·cases ht:mA e.Nodes with
    |none=>exact .inl rfl
    |some t=>
     obtain⟨hw,_,_⟩:=j8 ht
     simp only [bf]
     cases hd:kd kinds t with
     |none=>exact .inl rfl
     |some k=>exact Oq (fun k=>yI hk) t hw hd
   ·exact .inl rfl
  ·exact .inl rfl
 ·exact .inl rfl
theorem Zb(g:gS)(kinds:List Int):k4 (BK g kinds).1:=by
 have hk:=KP g.Arg kinds
 unfold BK kT
 rw [ly]
 simp only [bf]
 repeat' split
 all_goals first|exact hk|simp [k4]
theorem RM{a:List Int}{i k:Int}(ha:za a=true)(h:cN a i=some k):k4 k:=by
 obtain⟨_,h2⟩:=lW h
 exact yI ha (rU h2)
theorem Yd(n:aj)(a:List Int): ∀(fu:Nat) (out:List Int) (ok:Bool) (i:Int) (k:List Int) (o:Bool),za out=true→dL n a fu out ok i=some (k,o)→za k=true:=by
 intro fu
 induction fu with
 |zero=>intro _ _ _ _ _ _ h;cases h
 |succ fu ih=>
  intro out ok i k o ho h
  rw [dL]at h
  split at h
  ·cases hx:cN n.Aggs i with
   |none=>rw [hx]at h;cases h
   |some g=>
    rw [hx]at h
    simp only [bf,pt]at h
    cases ha:app out [(BK g a).1]with
    |none=>rw [ha]at h;cases h
    |some z=>
     rw [ha]at h
     exact ih _ _ _ _ _ (by rw [qr ha];exact yJ ho (DH (Zb g a))) h
  ·injection h with h
   injection h with h _
   rw [←h];exact ho
theorem Ye(n:aj)(a:List Int)(hka:za a=true): ∀(fu:Nat) (out:List Int) (i:Int) (k:List Int) (o:Bool),za out=true→dM n a fu out i=some (k,o)→za k=true:=by
 intro fu
 induction fu with
 |zero=>intro _ _ _ _ _ h;cases h
 |succ fu ih=>
  intro out i k o ho h
  rw [dM]at h
  split at h
  ·cases hx:cN n.Keys i with
   |none=>rw [hx]at h;cases h
   |some g=>
    rw [hx]at h
    simp only [bf]at h
    split at h
    ·injection h with h;injection h with h _;rw [←h];rfl
    ·cases hy:cN a g with
     |none=>rw [hy]at h;cases h
     |some y=>
      rw [hy]at h
      simp only [bf]at h
      cases ha:app out [y]with
      |none=>rw [ha]at h;cases h
      |some z=>
       rw [ha]at h
       exact ih _ _ _ _ (by rw [qr ha];exact yJ ho (DH (RM hka hy))) h
  ·exact Yd n a _ _ _ _ _ _ ho h
theorem Yc(n:aj)(a:List Int): ∀(fu:Nat) (out:List Int) (ok:Bool) (i:Int) (k:List Int) (o:Bool),za out=true→dK n a fu out ok i=some (k,o)→za k=true:=by
 intro fu
 induction fu with
 |zero=>intro _ _ _ _ _ _ h;cases h
 |succ fu ih=>
  intro out ok i k o ho h
  rw [dK]at h
  split at h
  ·cases hx:cN n.Items i with
   |none=>rw [hx]at h;cases h
   |some g=>
    rw [hx]at h
    simp only [bf,ly]at h
    cases ha:app out [(fF g a).1]with
    |none=>rw [ha]at h;cases h
    |some z=>
     rw [ha]at h
     exact ih _ _ _ _ _ (by rw [qr ha];exact yJ ho (DH (KP g a))) h
  ·injection h with h
   injection h with h _
   rw [←h];exact ho
theorem ZS(n:aj)(a:List Int): ∀(fu:Nat) (ok:Bool) (i:Int) (k:List Int) (o:Bool),dc n a fu ok i=some (k,o)→k=a:=by
 intro fu
 induction fu with
 |zero=>intro _ _ _ _ h;cases h
 |succ fu ih=>
  intro ok i k o h
  rw [dc]at h
  split at h
  ·generalize (if ok=true then(cN n.Order i).bind fun e10=>some (decide ((0:Int)≤e10.Col))else some false)=z at h
   cases z with
   |none=>cases h
   |some z=>
    simp only [bf]at h
    generalize (if z=true then(cN n.Order i).bind fun e11=>some (decide (e11.Col<(a.length:Int)))else some false)=y at h
    cases y with
    |none=>cases h
    |some y=>exact ih _ _ _ _ h
  ·injection h with h
   injection h with h _
   exact h.symm
theorem ZU(n:aj): ∀(fu:Nat) (ok:Bool) (i:Int) (k:List Int) (o:Bool),dn n fu ok i=some (k,o)→k=n.Kinds:=by
 intro fu
 induction fu with
 |zero=>intro _ _ _ _ h;cases h
 |succ fu ih=>
  intro ok i k o h
  rw [dn]at h
  split at h
  ·generalize (if ok=true then(cN n.Kinds i).bind fun e10=>some (decide ((1:Int)≤e10))else some false)=z at h
   cases z with
   |none=>cases h
   |some z=>
    simp only [bf]at h
    generalize (if z=true then(cN n.Kinds i).bind fun e11=>some (decide (e11≤(3:Int)))else some false)=y at h
    cases y with
    |none=>cases h
    |some y=>exact ih _ _ _ _ h
  ·injection h with h
   injection h with h _
   exact h.symm
theorem ZT(b:List Int): ∀(tl:List Int) (i:Nat) (out:List Int) (ok:Bool) (k:List Int) (o:Bool),za tl=true→za b=true→za out=true→dm b tl i out ok=some (k,o)→za k=true∧k.length=out.length+tl.length:=by
 intro tl
 induction tl with
 |nil=>
  intro i out ok k o _ _ ho h
  rw [dm]at h
  injection h with h
  injection h with h _
  rw [←h];exact⟨ho,rfl⟩
 |cons x tl ih=>
  intro i out ok k o ht hb ho h
  rw [Bk,mi]at ht
  have step: ∀z:Int,k4 z→ip b (dm b tl) i out ok z=some (k,o)→za k=true∧k.length=out.length+(tl.length+1):=by
   intro z hz hk
   unfold ip at hk
   cases ha:app out [z]with
   |none=>rw [ha]at hk;cases hk
   |some w=>
    rw [ha]at hk
    simp only [bf]at hk
    generalize (if ok=true then(cN b (i:Int)).bind fun e7=>(if(!(e7==z))=true then(cN b (i:Int)).bind fun e8=>some (e8==(0:Int))else some true).bind fun t3=>some t3 else some false)=q at hk
    cases q with
    |none=>cases hk
    |some q=>
     have:=ih (i+1) w q k o ht.2 hb (by rw [qr ha];exact yJ ho (DH hz)) hk
     rw [qr ha]at this
     simp only [iI,iN,pQ]at this
     exact⟨this.1,by omega⟩
  rw [dm]at h
  split at h
  ·cases hx:cN b (i:Int)with
   |none=>rw [hx]at h;cases h
   |some y=>
    rw [hx]at h
    exact step y (RM hb hx) h
  ·exact step x (by have:=ht.1;simp at this;unfold k4;omega) h
theorem PW{a b:List Int}(hs:ic n)(hop:F2 n.Op=true)(ha:za a=true)(hb:za b=true)(h:bt n a b=some (k,true)):za k=true:=by
 have h0:=h
 unfold bt at h
 rcases qM hop with c|c|c|c|c|c|c|c
 ·rw [aY (by simp [c])]at h
  rw [ZU n _ _ _ _ _ h]
  obtain⟨k1,o,k',g1,g2,_⟩:=GX default n a b hs c
  rw [h0]at g2
  injection g2 with g2
  injection g2 with _ g2
  subst g2
  unfold fR at g1
  split at g1
  ·have hc:cB n.Kinds js=some (n.Kinds.any fun k=> !(((k==(1:Int))||(k==(2:Int)))||(k==(3:Int)))):=jX (fun v=>rfl) _
   rw [hc]at g1
   simp only [bf,wH]at g1
   injection g1 with g1
   injection g1 with _ g1
   rw [Dn,CQ]at g1
   unfold za
   rw [jZ]
   intro z hz
   have:=g1 z hz
   simp at this
   simp;omega
  ·simp at g1
 ·rw [aL (by simp [c]),aY (by simp [c])]at h
  cases h1:app ([]:List Int) a with
  |none=>rw [h1]at h;cases h
  |some l1=>
   rw [h1]at h
   simp only [bf]at h
   cases h2:app l1 b with
   |none=>rw [h2]at h;cases h
   |some l2=>
    rw [h2]at h
    simp only [bf,lR]at h
    injection h with h
    injection h with h _
    rw [←h,qr h2,qr h1]
    exact yJ (yJ rfl ha) hb
 ·rw [aL (by simp [c]),aL (by simp [c]),aY (by simp [c])]at h
  simp only [bf,lR]at h
  injection h with h
  injection h with h _
  rw [←h];exact ha
 ·rw [aL (by simp [c]),aL (by simp [c]),aL (by simp [c]),aY (by simp [c])]at h
  exact Ye n a ha _ _ _ _ _ rfl h
 ·rw [aL (by simp [c]),aL (by simp [c]),aL (by simp [c]),aL (by simp [c]),aY (by simp [c])]at h
  exact Yc n a _ _ _ _ _ _ rfl h
 ·rw [aL (by simp [c]),aL (by simp [c]),aL (by simp [c]),aL (by simp [c]),aL (by simp [c]),aY (by simp [c])]at h
  injection h with h
  injection h with h _
  rw [←h];exact ha
 ·rw [aL (by simp [c]),aL (by simp [c]),aL (by simp [c]),aL (by simp [c]),aL (by simp [c]),aL (by simp [c]),aY (by simp [c])]at h
  split at h
  ·injection h with h;injection h with _ h;cases h
  ·exact(ZT b a 0 [] true k true ha hb rfl h).1
 ·rw [aL (by simp [c]),aL (by simp [c]),aL (by simp [c]),aL (by simp [c]),aL (by simp [c]),aL (by simp [c]),aL (by simp [c])]at h
  rw [ZS n a _ _ _ _ _ h];exact ha
section
variable{d:bc}{sz' :Nat→Nat}{ks' :Nat→List Int}
theorem n7(F:Aw l sz ks j n):(n.A= -1∨0≤n.A∧n.A<(j:Int))∧(n.B= -1∨0≤n.B∧n.B<(j:Int)):=by
 by_cases c1:n.Op=1
 ·obtain⟨a,b,_⟩:=F.lf c1
  exact⟨.inl a,.inl b⟩
 by_cases c27:n.Op=2∨n.Op=7
 ·obtain⟨a,b,c,d,e⟩:=F.bi c27
  exact⟨.inr (by omega),.inr (by omega)⟩
 ·obtain⟨a,b,c,d⟩:=F.un c1 (fun h=>c27 (.inl h)) (fun h=>c27 (.inr h))
  exact⟨.inr (by omega),.inl c⟩
theorem Wg(hS:kQ l)(H:F0 l sz ks): ∀j,j<l.Nodes.length→za (ks j)=true:=by
 intro j
 induction j using Nat.strongRecOn with
 |ind j ih=>
  intro hj
  obtain⟨n,F⟩:=H j hj
  have hn:ic n:=hS n (by have:=F.node;rw [bW]at this;exact rU this)
  obtain⟨hA,hB⟩:=n7 F
  refine PW hn F.op ?_ ?_ F.kinds
  ·split
   ·rfl
   ·exact ih _ (by omega) (by omega)
  ·split
   ·rfl
   ·exact ih _ (by omega) (by omega)
theorem TK{e:Nat}(h:0≤x)(h2:x≤10000)(h3:e≤10000):zq (e:Int) x=x+e:=by
 unfold zq
 rw [aY h,cq (by omega) (by omega)]
theorem TC{e m:Nat}(H:F0 l sz ks)(H' :F0 d sz' ks')(hm:m≤l.Nodes.length)(hl:l.Nodes.length≤200)(he:e≤200)(hd:e+m≤d.Nodes.length)(hn: ∀j,j<m→ ∀n,cN l.Nodes (j:Int)=some n→cN d.Nodes ((e+j:Nat):Int)=some (uh (e:Int) n)): ∀j,j<m→sz' (e+j)=sz j∧ks' (e+j)=ks j:=by
 intro j
 induction j using Nat.strongRecOn with
 |ind j ih=>
  intro hj
  obtain⟨n,F⟩:=H j (by omega)
  obtain⟨n',F'⟩:=H' (e+j) (by omega)
  have hnn:n' =uh (e:Int) n:=by
   have h1:=hn j hj n F.node
   rw [F'.node]at h1
   injection h1
  subst hnn
  obtain⟨hA,hB⟩:=n7 F
  constructor
  ·by_cases c1:n.Op=1
   ·rw [(F'.lf c1).2.2,(F.lf c1).2.2]
   by_cases c27:n.Op=2∨n.Op=7
   ·obtain⟨a,b,c,g,q⟩:=F.bi c27
    obtain⟨a',b',c',g',q'⟩:=F'.bi c27
    have ej:e+j-1=e+(j-1):=by omega
    rw [ej,(ih (j-1) (by omega) (by omega)).1,show e+(j-1)-sz (j-1)=e+(j-1-sz (j-1))from by omega,(ih (j-1-sz (j-1)) (by omega) (by omega)).1]at q'
    rw [q',q]
   ·obtain⟨a,b,c,g⟩:=F.un c1 (fun h=>c27 (.inl h)) (fun h=>c27 (.inr h))
    obtain⟨a',b',c',g'⟩:=F'.un c1 (fun h=>c27 (.inl h)) (fun h=>c27 (.inr h))
    rw [show e+j-1=e+(j-1)from by omega,(ih (j-1) (by omega) (by omega)).1]at g'
    rw [g',g]
  ·have key: ∀x:Int,(x= -1∨0≤x∧x<(j:Int))→(if zq (e:Int) x<0 then([]:List Int)else ks' (zq (e:Int) x).toNat)=if x<0 then []else ks x.toNat:=by
    intro x hx
    rcases hx with hx|hx
    ·rw [A1 hx,aY (by decide),aY (by omega)]
    ·rw [TK (by omega) (by omega) (by omega),aL (by omega),aL (by omega),show(x+(e:Int)).toNat=e+x.toNat from by omega,(ih x.toNat (by omega) (by omega)).2]
   have h1:=F'.kinds
   have hA' :(uh (e:Int) n).A=zq (e:Int) n.A:=rfl
   have hB' :(uh (e:Int) n).B=zq (e:Int) n.B:=rfl
   rw [KJ,hA',hB',key n.A hA,key n.B hB,F.kinds]at h1
   injection h1 with h1
   injection h1 with h1 _
   exact h1.symm
end
structure Dl(l:bc)(sz:Nat→Nat)(ks:Nat→List Int):Prop where
 pos:1≤l.Nodes.length
 le:l.Nodes.length≤60
 all:F0 l sz ks
 whole:sz (l.Nodes.length-1)=l.Nodes.length
 kinds:rE l=some (ks (l.Nodes.length-1),0)
theorem xR(hS:kQ l)(h:iP l=true): ∃sz ks,Dl l sz ks:=by
 obtain⟨_,_,ob,j,r3,r4⟩:=rq hS
 obtain⟨hL,hj⟩:=r4 h
 have hle:=hL.le
 have hpos:=hL.pos
 obtain⟨N0,_⟩:=hL.inv.at (j:=l.Nodes.length-1) (by omega)
 refine⟨xa ob.first,MQ ob.kinds,hpos,hle,fun j hj=>K0 hL.inv hle hj,?_,?_⟩
 ·have e1:=N0.size iz (vv (by omega))
  have e2:=hL.whole
  unfold kE at e2
  rw [show(l.Nodes.length:Int)-1=((l.Nodes.length-1:Nat):Int)from by omega,e1]at e2
  injection e2 with e2
  omega
 ·unfold rE
  rw [r3,h]
  simp only [bf,mw,fL,d7]
  have hk:cN ob.kinds j=some (MQ ob.kinds (l.Nodes.length-1)):=by
   rw [hj,show(l.Nodes.length:Int)-1=((l.Nodes.length-1:Nat):Int)from by omega,bW]
   unfold MQ
   rw [oO (by rw [hL.inv.kl];omega)];rfl
  rw [hk]
  simp only [bf]
  rw [sH _ (by have:=N0.len;omega)]
  rfl
theorem KH{sz' :Nat→Nat}{ks' :Nat→List Int}(hS:kQ l)(K:Dl l sz ks)(H:F0 l sz' ks'):ks' (l.Nodes.length-1)=ks (l.Nodes.length-1)∧sz' (l.Nodes.length-1)=l.Nodes.length:=by
 have hle:=K.le
 have hpos:=K.pos
 have:=TC (l:=l) (d:=l) (e:=0) (m:=l.Nodes.length) K.all H (dy _) (by omega) (by omega) (by omega) (fun j hj n hn=>by
  obtain⟨n',F⟩:=K.all j hj
  have e:n' =n:=by have:=F.node;rw [hn]at this;injection this with this;exact this.symm
  subst e
  obtain⟨hA,hB⟩:=n7 F
  rw [uc,hn]
  have hz:=AZ (n:=n') (by omega) (by omega)
  rw [show((0:Nat):Int)=0 from rfl,hz]) (l.Nodes.length-1) (by omega)
 simp only [uc]at this
 exact⟨this.2,by rw [this.1];exact K.whole⟩

def Xh(x y:Int)(n:aj):aj:={n with A:=x,B:=y}
def d1(n:aj)(a:bc):bc:=⟨a.Nodes++[Xh ((a.Nodes.length:Int)-1) (-1) n]⟩
def d2(n:aj)(a b:bc):bc:=⟨(a.Nodes++b.Nodes.map (uh (a.Nodes.length:Int)))++[Xh ((a.Nodes.length:Int)-1) ((a.Nodes.length:Int)+(b.Nodes.length:Int)-1) n]⟩
theorem YY(n:aj)(a b:bc):(d2 n a b).Nodes.length=a.Nodes.length+b.Nodes.length+1:=by simp [d2];omega
theorem MP{x out:bc}(hn:ic n)(hA:n.A≤100000)(hB:n.B≤100000)(ho:kQ out)(hl:out.Nodes.length≤4000)(i:Nat):ij [] i n x out=some (if iP ⟨out.Nodes++[n]⟩then(⟨out.Nodes++[n]⟩,0)else(⟨[]⟩,230)):=by
 unfold ij
 rw [rZ hn,AZ hA hB]
 simp only [bf]
 rw [co (by simp;omega)]
 simp only [bf]
 have hs:kQ (⟨out.Nodes++[n]⟩:bc):=by
  intro m hm
  rcases vM.1 hm with h|h
  ·exact ho m h
  ·rw [zN.1 h];exact hn
 obtain⟨_,⟨j,h2⟩,_⟩:=rq hs
 have h2' :mp ({out with Nodes:=out.Nodes++[n]}:bc)=_:=h2
 rw [h2']
 cases hr:iP (⟨out.Nodes++[n]⟩:bc)<;>simp
theorem Ug{a:bc}(K:Dl a sz ks):a.Nodes.map (uh ((([]:List aj).length:Nat):Int))=a.Nodes:=by
 conv=>rhs;rw [←List.map_id a.Nodes]
 refine GG fun m hm=>?_
 obtain⟨j,hj,rfl⟩:=List.mem_iff_getElem.1 hm
 obtain⟨n,F⟩:=K.all j hj
 have hn:=F.node
 rw [bW,oO hj]at hn
 injection hn with hn
 rw [hn]
 obtain⟨hA,hB⟩:=n7 F
 have hle:=K.le
 exact AZ (by omega) (by omega)
theorem KE{a b:bc}(hn:ic n)(ha:kQ a)(hb:kQ b)(hra:iP a=true)(hrb:iP b=true):wk n [a,b]=some (if iP (d2 n a b)then(d2 n a b,0)else(⟨[]⟩,230)):=by
 obtain⟨sza,ksa,Ka⟩:=xR ha hra
 obtain⟨szb,ksb,Kb⟩:=xR hb hrb
 have la:=Ka.le
 have lb:=Kb.le
 have pa:=Ka.pos
 have pb:=Kb.pos
 unfold wk
 rw [Ha ha hra (by omega) (by simp),aY (by simp),Ug Ka]
 simp only [jY]
 rw [Ha hb hrb (by omega) (by simp;omega),aL (by decide)]
 rw [cq (n:=(a.Nodes.length:Int)-1) (by omega) (by omega),cq (by simp;omega) (by simp;omega)]
 rw [MP]
 ·have e:(a.Nodes++b.Nodes.map (uh (a.Nodes.length:Int)))++[aj.mk n.Op ((a.Nodes.length:Int)-1) (((a.Nodes++b.Nodes.map (uh (a.Nodes.length:Int))).length:Int)-1) n.Table n.Kinds n.Left n.Cond n.Keys n.Aggs n.Items n.Order n.Limit]=(d2 n a b).Nodes:=by
   unfold d2 Xh
   simp only [iI,AK,zh]
  simp only [e]
 ·exact hn.at _ _
 ·show(a.Nodes.length:Int)-1≤_
  omega
 ·show((a.Nodes++b.Nodes.map (uh (a.Nodes.length:Int))).length:Int)-1≤_
  simp;omega
 ·intro m hm
  rcases vM.1 hm with h|h
  ·exact ha m h
  ·exact On hb m h
 ·simp;omega
theorem acC{a b:bc}(hj:j<a.Nodes.length):cN (d2 n a b).Nodes (j:Int)=cN a.Nodes (j:Int):=by
 rw [bW,bW]
 unfold d2
 simp only
 rw [xi (by simp;omega),xi hj]
theorem acB{a b:bc}{m:aj}(hj:j<b.Nodes.length)(h:cN b.Nodes (j:Int)=some m):cN (d2 n a b).Nodes ((a.Nodes.length+j:Nat):Int)=some (uh (a.Nodes.length:Int) m):=by
 rw [bW]at h ⊢
 unfold d2
 simp only
 rw [xi (by simp;omega),si (by omega),show a.Nodes.length+j-a.Nodes.length=j from by omega,AL,h]
 rfl
theorem Hb{a:bc}(K:Dl a sz ks)(F:Aw a sz ks j n)(hj:j<a.Nodes.length):uh ((0:Nat):Int) n=n:=by
 obtain⟨hA,hB⟩:=n7 F
 have hle:=K.le
 exact AZ (by omega) (by omega)

theorem PU(K:Dl l sz ks):(ks (l.Nodes.length-1)).length≤16:=by
 have:=K.pos
 obtain⟨n,F⟩:=K.all (l.Nodes.length-1) (by omega)
 exact F.len
def E5:aj:=⟨(7:Int),(0:Int),(0:Int),(0:Int),[],false,⟨[]⟩,[],[],[],[],(0:Int)⟩

theorem yl(h:i≤100000):IntKind.i64.wrap ((i:Int)+1)=((i+1:Nat):Int):=by rw [pF (by omega) (by omega)];omega
theorem Ok(n:aj): ∀(fu:Nat) (ok:Bool) (i:Int) (k:List Int),dn n fu ok i=some (k,true)→ok=true∧0≤n.Table∧n.Table≤3∧k=n.Kinds
 |0,_,_,_,h=>by unfold dn at h;cases h
 |fu+1,ok,i,k,h=>by
  unfold dn at h
  split at h
  ·cases ok with
   |false=>
    simp only [fL,d7,bf]at h
    exact absurd (Ok n fu false _ k h).1 (by simp)
   |true=>
    simp only [ep]at h
    cases hx:cN n.Kinds i with
    |none=>rw [hx]at h;cases h
    |some e=>
     rw [hx]at h
     simp only [bf]at h
     split at h
     ·exact⟨rfl,(Ok n fu _ _ k h).2⟩
     ·exact⟨rfl,(Ok n fu _ _ k h).2⟩
  ·injection h with h
   injection h with h h2
   simp only [mi,kX]at h2
   exact⟨h2.1.1.1.1,h2.1.1.1.2,h2.1.1.2,h.symm⟩
theorem WC(n:aj)(a:List Int)(hs:n.Aggs.length≤5000): ∀(l:List gS) (fu:Nat) (out:List Int) (ok:Bool) (i:Nat) (k:List Int),n.Aggs.drop i=l→dL n a fu out ok (i:Int)=some (k,true)→ok=true∧(∀g∈l,(BK g a).2=true)∧k=out++(l.map fun g=>(BK g a).1)∧n.Keys.length≤3
 |_,0,_,_,_,_,_,h=>by unfold dL at h;cases h
 |[],fu+1,out,ok,i,k,hd,h=>by
  unfold dL at h
  have:=tR hd
  rw [aL (by rw [kX];omega)]at h
  injection h with h
  injection h with h h2
  simp only [mi,kX]at h2
  exact⟨h2.1.1.1,by simp,by simp [h],by have:=h2.1.1.2;omega⟩
 |g::t,fu+1,out,ok,i,k,hd,h=>by
  obtain⟨h1,h2,h3⟩:=kM hd
  unfold dL at h
  rw [aY (by rw [kX];omega),h1,bf,pt,bf,yl (by omega)]at h
  cases ha:app out [(BK g a).1]with
  |none=>rw [ha]at h;cases h
  |some z=>
   rw [ha,bf]at h
   obtain⟨p1,p2,p3,p4⟩:=WC n a hs t fu z _ (i+1) k h3 h
   rw [mi]at p1
   refine⟨p1.1,?_,?_,p4⟩
   ·intro y hy
    rcases fk.1 hy with q|q
    ·rw [q];exact p1.2
    ·exact p2 y q
   ·rw [p3,qr ha];simp
def Fe(a:List Int)(c:Int):Int:=(a[c.toNat]?).getD 0
theorem RL{a:List Int}{c:Int}(h:0≤c)(h2:c<(a.length:Int)):cN a c=some (Fe a c):=by
 obtain⟨k,hk⟩:=D5 h
 subst hk
 have hk:k<a.length:=by omega
 unfold Fe
 rw [gO k rfl]
 simp [hk]
theorem WB(n:aj)(a:List Int)(hs:n.Keys.length≤5000)(hs2:n.Aggs.length≤5000): ∀(l:List Int) (fu:Nat) (out:List Int) (i:Nat) (k:List Int),n.Keys.drop i=l→dM n a fu out (i:Int)=some (k,true)→(∀c∈l,0≤c∧c<(a.length:Int))∧(∀g∈n.Aggs,(BK g a).2=true)∧k=(out++l.map (Fe a))++(n.Aggs.map fun g=>(BK g a).1)∧n.Keys.length≤3
 |_,0,_,_,_,_,h=>by unfold dM at h;cases h
 |[],fu+1,out,i,k,hd,h=>by
  unfold dM at h
  have:=tR hd
  rw [aL (by rw [kX];omega)]at h
  obtain⟨_,p2,p3,p4⟩:=WC n a hs2 n.Aggs iz out true 0 k (by simp) h
  exact⟨by simp,p2,by simpa using p3,p4⟩
 |c::t,fu+1,out,i,k,hd,h=>by
  obtain⟨h1,h2,h3⟩:=kM hd
  unfold dM at h
  rw [aY (by rw [kX];omega),h1,bf,yl (by omega)]at h
  by_cases hc:0≤c∧c<(a.length:Int)
  ·rw [aL (by simp only [pW,kX];omega),RL hc.1 hc.2,bf]at h
   cases ha:app out [Fe a c]with
   |none=>rw [ha]at h;cases h
   |some z=>
    rw [ha,bf]at h
    obtain⟨p1,p2,p3,p4⟩:=WB n a hs hs2 t fu z (i+1) k h3 h
    refine⟨?_,p2,?_,p4⟩
    ·intro y hy
     rcases fk.1 hy with q|q
     ·rw [q];exact hc
     ·exact p1 y q
    ·rw [p3,qr ha];simp
  ·rw [aY (by simp only [pW,kX];omega)]at h
   injection h with h
   injection h with h h2
   cases h2
theorem WA(n:aj)(a:List Int)(hs:n.Items.length≤5000): ∀(l:List bG) (fu:Nat) (out:List Int) (ok:Bool) (i:Nat) (k:List Int),n.Items.drop i=l→dK n a fu out ok (i:Int)=some (k,true)→ok=true∧(∀e∈l,(fF e a).2=0)∧k=out++l.map fun e=>(fF e a).1
 |_,0,_,_,_,_,_,h=>by unfold dK at h;cases h
 |[],fu+1,out,ok,i,k,hd,h=>by
  unfold dK at h
  have:=tR hd
  rw [aL (by rw [kX];omega)]at h
  injection h with h
  injection h with h h2
  simp only [mi,kX]at h2
  exact⟨h2.1.1,by simp,by simp [h]⟩
 |g::t,fu+1,out,ok,i,k,hd,h=>by
  obtain⟨h1,h2,h3⟩:=kM hd
  unfold dK at h
  rw [aY (by rw [kX];omega),h1,bf,ly,bf,yl (by omega)]at h
  cases ha:app out [(fF g a).1]with
  |none=>rw [ha]at h;cases h
  |some z=>
   rw [ha,bf]at h
   obtain⟨p1,p2,p3⟩:=WA n a hs t fu z _ (i+1) k h3 h
   simp only [mi,sY]at p1
   refine⟨p1.1,?_,?_⟩
   ·intro y hy
    rcases fk.1 hy with q|q
    ·rw [q];exact p1.2
    ·exact p2 y q
   ·rw [p3,qr ha];simp
theorem Oh(n:aj)(a:List Int)(hs:n.Order.length≤5000): ∀(l:List gG) (fu:Nat) (ok:Bool) (i:Nat) (k:List Int),n.Order.drop i=l→dc n a fu ok (i:Int)=some (k,true)→ok=true∧k=a∧ ∀o∈l,0≤o.Col∧o.Col<(a.length:Int)
 |_,0,_,_,_,_,h=>by unfold dc at h;cases h
 |[],fu+1,ok,i,k,hd,h=>by
  unfold dc at h
  have:=tR hd
  rw [aL (by rw [kX];omega)]at h
  injection h with h
  injection h with h h2
  simp only [mi,kX]at h2
  exact⟨h2.1.1.1,h.symm,by simp⟩
 |o::t,fu+1,ok,i,k,hd,h=>by
  obtain⟨h1,h2,h3⟩:=kM hd
  unfold dc at h
  rw [aY (by rw [kX];omega),h1,yl (by omega)]at h
  cases ok with
  |false=>
   simp only [fL,d7,bf]at h
   exact absurd (Oh n a hs t fu false (i+1) k h3 h).1 (by simp)
  |true=>
   simp only [ep,bf]at h
   by_cases hc:0≤o.Col
   ·rw [aY (by simpa using hc),bf]at h
    obtain⟨p1,p2,p3⟩:=Oh n a hs t fu _ (i+1) k h3 h
    refine⟨rfl,p2,?_⟩
    intro y hy
    rcases fk.1 hy with q|q
    ·rw [q];exact⟨hc,by simpa using p1⟩
    ·exact p3 y q
   ·rw [aL (by simpa using hc),bf]at h
    exact absurd (Oh n a hs t fu false (i+1) k h3 h).1 (by simp)
def Oz(x y k:Int):Prop:=(x=k∨x=0)∧(y=k∨y=0)
theorem Oj(b:List Int)(hb:b.length≤5000): ∀(l:List Int) (i:Nat) (out:List Int) (ok:Bool) (k:List Int),l.length+i=b.length→dm b l i out ok=some (k,true)→ok=true∧ ∃t:List Int,k=out++t∧t.length=l.length∧ ∀(j:Nat) (x y z:Int),l[j]? =some x→b[i+j]? =some y→t[j]? =some z→Oz x y z
 |[],i,out,ok,k,_,h=>by
  unfold dm at h
  injection h with h
  injection h with h h2
  exact⟨h2,[],by simp [h],rfl,by simp⟩
 |x::l,i,out,ok,k,hl,h=>by
  rw [iN]at hl
  have hib:i<b.length:=by omega
  have hi:cN b (i:Int)=some b[i]:=by rw [gO i rfl,oO hib]
  have key: ∀k0:Int,ip b (dm b l) i out ok k0=some (k,true)→ok=true∧(b[i]=k0∨b[i]=0)∧ ∃t:List Int,k=out++k0::t∧t.length=l.length∧ ∀(j:Nat) (x y z:Int),l[j]? =some x→b[i+1+j]? =some y→t[j]? =some z→Oz x y z:=by
   intro k0 h
   unfold ip at h
   cases ha:app out [k0]with
   |none=>rw [ha]at h;cases h
   |some z=>
    rw [ha,bf,hi]at h
    cases ok with
    |false=>
     simp only [fL,d7,bf]at h
     exact absurd (Oj b hb l (i+1) z false k (by omega) h).1 (by simp)
    |true=>
     simp only [ep,bf]at h
     by_cases he:b[i]=k0
     ·rw [aL (by simp [he]),bf,bf]at h
      obtain⟨_,t,p1,p2,p3⟩:=Oj b hb l (i+1) z _ k (by omega) h
      exact⟨rfl,.inl he,t,by rw [p1,qr ha];simp,p2,p3⟩
     ·rw [aY (by simp [he]),bf,bf]at h
      obtain⟨p0,t,p1,p2,p3⟩:=Oj b hb l (i+1) z _ k (by omega) h
      exact⟨rfl,.inr (by simpa using p0),t,by rw [p1,qr ha];simp,p2,p3⟩
  have fin: ∀k0:Int,(x=k0∨x=0)→ip b (dm b l) i out ok k0=some (k,true)→ok=true∧ ∃t:List Int,k=out++t∧t.length=(x::l).length∧ ∀(j:Nat) (x1 y z:Int),(x::l)[j]? =some x1→b[i+j]? =some y→t[j]? =some z→Oz x1 y z:=by
   intro k0 hx h
   obtain⟨p0,p1,t,p2,p3,p4⟩:=key k0 h
   refine⟨p0,k0::t,p2,by simp [p3],?_⟩
   intro j x1 y z h1 h2 h3
   cases j with
   |zero=>
    simp only [F5,AN]at h1 h3
    rw [yZ,oO hib,AN]at h2
    subst h1;subst h3;subst h2
    exact⟨hx,p1⟩
   |succ j=>
    rw [NO]at h1 h3
    exact p4 j x1 y z h1 (by rw [←h2];congr 1;omega) h3
  unfold dm at h
  by_cases hx:x=0
  ·rw [aY (by simpa using hx),hi,bf]at h
   exact fin _ (.inr hx) h
  ·rw [aL (by simpa using hx)]at h
   exact fin _ (.inl rfl) h
theorem IB{a b:List Int}(hop:n.Op=1)(h:bt n a b=some (k,true)):k=n.Kinds∧0≤n.Table∧n.Table≤3:=by
 unfold bt at h
 rw [aY (by simpa using hop)]at h
 obtain⟨_,h1,h2,h3⟩:=Ok n _ _ _ _ h
 exact⟨h3,h1,h2⟩
theorem Og{a b:List Int}(hop:n.Op=2)(h:bt n a b=some (k,true)):k=a++b∧HY n.Cond (a++b)=true:=by
 unfold bt at h
 rw [aL (by rw [hop];decide),aY (by simpa using hop)]at h
 cases h1:app ([]:List Int) a with
 |none=>rw [h1]at h;cases h
 |some l=>
  rw [h1,bf]at h
  cases h2:app l b with
  |none=>rw [h2]at h;cases h
  |some o=>
   have e1:=qr h1
   have e2:=qr h2
   rw [h2,bf,lR,bf]at h
   injection h with h
   injection h with h h3
   subst h
   rw [e1,jY]at e2
   rw [e2]at h3 ⊢
   exact⟨rfl,h3⟩
theorem G6{a b:List Int}(hop:n.Op=3)(h:bt n a b=some (k,true)):k=a∧HY n.Cond a=true:=by
 unfold bt at h
 rw [aL (by rw [hop];decide),aL (by rw [hop];decide),aY (by simpa using hop),lR,bf]at h
 injection h with h
 injection h with h h3
 exact⟨h.symm,h3⟩
theorem Kz{a b:List Int}(hs:ic n)(hop:n.Op=4)(h:bt n a b=some (k,true)):(∀c∈n.Keys,0≤c∧c<(a.length:Int))∧(∀g∈n.Aggs,(BK g a).2=true)∧k=n.Keys.map (Fe a)++(n.Aggs.map fun g=>(BK g a).1)∧n.Keys.length≤3:=by
 unfold bt at h
 rw [aL (by rw [hop];decide),aL (by rw [hop];decide),aL (by rw [hop];decide),aY (by simpa using hop)]at h
 have:=WB n a hs.keys hs.aggs n.Keys iz [] 0 k (by simp) h
 simpa using this
theorem E4{a b:List Int}(hs:ic n)(hop:n.Op=5)(h:bt n a b=some (k,true)):(∀e∈n.Items,(fF e a).2=0)∧k=n.Items.map fun e=>(fF e a).1:=by
 unfold bt at h
 rw [aL (by rw [hop];decide),aL (by rw [hop];decide),aL (by rw [hop];decide),aL (by rw [hop];decide),aY (by simpa using hop)]at h
 have:=WA n a hs.items n.Items iz [] true 0 k (by simp) h
 simpa using this.2
theorem KA{a b:List Int}(hop:n.Op=6)(h:bt n a b=some (k,true)):k=a:=by
 unfold bt at h
 rw [aL (by rw [hop];decide),aL (by rw [hop];decide),aL (by rw [hop];decide),aL (by rw [hop];decide),aL (by rw [hop];decide),aY (by simpa using hop)]at h
 injection h with h
 injection h with h _
 exact h.symm
theorem Rt{a b:List Int}(hal:a.length≤5000)(hop:n.Op=7)(h:bt n a b=some (k,true)):a.length=b.length∧k.length=a.length∧ ∀(j:Nat) (x y z:Int),a[j]? =some x→b[j]? =some y→k[j]? =some z→Oz x y z:=by
 unfold bt at h
 rw [aL (by rw [hop];decide),aL (by rw [hop];decide),aL (by rw [hop];decide),aL (by rw [hop];decide),aL (by rw [hop];decide),aL (by rw [hop];decide),aY (by simpa using hop)]at h
 by_cases he:a.length=b.length
 ·rw [aL (by simp [he])]at h
  obtain⟨_,t,p1,p2,p3⟩:=Oj b (by omega) a 0 [] true k (by omega) h
  rw [jY]at p1
  subst p1
  refine⟨he,p2,fun j x y z h1 h2 h3=>p3 j x y z h1 (by rw [uc];exact h2) h3⟩
 ·rw [aY (by simp only [qD,oU];omega)]at h
  injection h with h
  injection h with h h2
  cases h2
theorem Oe{a b:List Int}(hs:ic n)(hop:n.Op=8)(h:bt n a b=some (k,true)):k=a∧ ∀o∈n.Order,0≤o.Col∧o.Col<(a.length:Int):=by
 unfold bt at h
 rw [aL (by rw [hop];decide),aL (by rw [hop];decide),aL (by rw [hop];decide),aL (by rw [hop];decide),aL (by rw [hop];decide),aL (by rw [hop];decide),aL (by rw [hop];decide)]at h
 have:=Oh n a hs.order n.Order iz true 0 k (by simp) h
 exact this.2

theorem AX{f:α→α→Int}(h:Dm f){p:List α}(hp:p.Pairwise fun a b=>f a b<0):p.Nodup:=by
 unfold List.Nodup
 refine hp.imp ?_
 intro a b hab he
 subst he
 have:=h.self a
 omega
theorem F9 [DecidableEq α]{f:α→α→Int}(h:Dm f){p q:List α}(hp:p.Pairwise fun a b=>f a b<0)(hq:q.Pairwise fun a b=>f a b<0)(hm: ∀z,z∈p↔z∈q):p=q:=by
 have hpq:p.Perm q:=(List.perm_ext_iff_of_nodup (AX h hp) (AX h hq)).2 hm
 exact zn h (hp.imp fun h=>by omega) (hq.imp fun h=>by omega) hpq
theorem EC{α κ:Type} [DecidableEq κ](key:α→κ)(kf:List α→κ): ∀(R:List (List α)),(∀y∈R,∀z∈y,key z=kf y)→R.Pairwise (fun a b=>kf a≠kf b)→ ∀y∈R,R.flatten.filter (fun z=>decide (key z=kf y))=y
 |[],_,_,y,hy=>by cases hy
 |x::t,h1,h2,y,hy=>by
  rw [BX]at h2
  rw [List.flatten_cons,List.filter_append]
  have ht: ∀w∈t,∀z∈w,key z=kf w:=fun w hw=>h1 w (kN _ hw)
  rcases fk.1 hy with q|q
  ·subst q
   have e1:y.filter (fun z=>decide (key z=kf y))=y:=by
    rw [List.filter_eq_self]
    intro z hz
    rw [kX]
    exact h1 y (kO ..) z hz
   have e2:t.flatten.filter (fun z=>decide (key z=kf y))=[]:=by
    rw [NM]
    intro z hz
    obtain⟨w,hw,hz⟩:=List.mem_flatten.1 hz
    rw [kX,ht w hw z hz]
    exact fun e=>h2.1 w hw e.symm
   rw [e1,e2,rn]
  ·have e1:x.filter (fun z=>decide (key z=kf y))=[]:=by
    rw [NM]
    intro z hz
    rw [kX,h1 x (kO ..) z hz]
    exact h2.1 y q
   rw [e1,jY]
   exact EC key kf t ht h2.2 y q
def uz(c:List Int)(l:List cu):List ie:=(uJ (wX (l.map (gA c)))).map fun k=>⟨k,wX (l.filter fun r=>decide (gA c r=k))⟩
theorem JU(c:List Int){l:List cu}(hl:l.length≤8000):(vf (Gv c) l.length (uP (xV c) l)).map (Hf c)=uz c l:=by
 have hC:=KU c
 have hL:=zW hC l (by omega)
 have hP:=nW (xV c) l
 generalize hLe:uP (xV c) l=L at hL hP
 have hlen:L.length=l.length:=hP.length_eq
 have hflat:=GZ (Gv c) l.length L (by omega)
 have hkeys:=GY c l.length L hL
 have hmem:=Ey (Gv c) l.length L
 generalize vf (Gv c) l.length L=R at hflat hkeys hmem
 have hkey: ∀y∈R,∀z∈y,gA c z=(Hf c y).Key:=by
  intro y hy z hz
  obtain⟨x,t,e,_,h2⟩:=hmem y hy
  subst e
  show gA c z=gA c x
  rcases fk.1 hz with q|q
  ·rw [q]
  ·have:=(h2 z q).2
   unfold Gv at this
   exact(Js this).symm
 have hpw:R.Pairwise fun a b=>(Hf c a).Key≠(Hf c b).Key:=by
  rw [List.pairwise_map]at hkeys
  refine hkeys.imp ?_
  intro a b hab he
  rw [he,je.self]at hab
  omega
 have hfil:=EC (gA c) (fun y=>(Hf c y).Key) R hkey hpw
 rw [hflat]at hfil
 have hrows: ∀g∈R.map (Hf c),g=⟨g.Key,wX (l.filter fun r=>decide (gA c r=g.Key))⟩:=by
  intro g hg
  obtain⟨y,hy,e⟩:=ui.1 hg
  subst e
  have hf:=hfil y hy
  have e:y=wX (l.filter fun r=>decide (gA c r=(Hf c y).Key)):=by
   refine zn je ?_ (zW je _ (by have:=List.length_filter_le (fun r=>decide (gA c r=(Hf c y).Key)) l;omega)) ?_
   ·have hs:sG (xV c) y:=by
     have:sG (xV c) (L.filter fun z=>decide (gA c z=(Hf c y).Key)):=List.Pairwise.filter _ hL
     rw [hf]at this
     exact this
    refine List.Pairwise.imp_of_mem ?_ hs
    intro a b ha hb hab
    unfold xV at hab
    rw [hkey y hy a ha,hkey y hy b hb,je.self]at hab
    exact hab
   ·have hp:=(hP.filter fun z=>decide (gA c z=(Hf c y).Key))
    rw [hf]at hp
    exact hp.trans (nW eG _).symm
  have hR:Hf c y=⟨(Hf c y).Key,y⟩:=rfl
  rw [hR]
  simp only []
  rw [←e]
 have hk:(R.map (Hf c)).map (fun g=>g.Key)=uJ (wX (l.map (gA c))):=by
  refine F9 je ?_ (I9 je (zW je _ (by simp;omega))) ?_
  ·rw [List.pairwise_map];exact hkeys
  ·intro z
   rw [yG,(nW eG _).mem_iff,List.map_map,ui,ui]
   constructor
   ·rintro⟨y,hy,e⟩
    obtain⟨x,t,e2,hx,_⟩:=hmem y hy
    exact⟨x,hP.mem_iff.1 hx,by rw [←e,e2];rfl⟩
   ·rintro⟨x,hx,e⟩
    have hx:=hP.mem_iff.2 hx
    rw [←hflat]at hx
    obtain⟨y,hy,hxy⟩:=List.mem_flatten.1 hx
    exact⟨y,hy,by rw [←e];exact(hkey y hy x hxy).symm⟩
 unfold uz
 rw [←hk,List.map_map]
 conv=>lhs;rw [←List.map_id (R.map (Hf c))]
 exact GG fun g hg=>hrows g hg
theorem Gd{l:List cu}(h:BM l){c:List Int}(hr:o7 l=true)(hc:Bh l c=true):th l c=some (uz c l,0):=by
 have ha:wx l c=0:=by unfold wx;rw [hr,hc];rfl
 rw [Ge h,aY ha,JU c h.len]

def RK:List Int→cu→Prop
 |[],[]=>True
 |k::ks,v::vs=>Pl v∧qR v k∧RK ks vs
 |[],_::_=>False
 |_::_,[]=>False
theorem RK.len: ∀{ks:List Int} {r:cu},RK ks r→r.length=ks.length
 |[],[],_=>rfl
 |k::ks,v::vs,h=>by rw [iN,iN,h.2.2.len]
 |[],_::_,h=>h.elim
 |_::_,[],h=>h.elim
theorem RK.pl: ∀{ks:List Int} {r:cu},RK ks r→ ∀v∈r,Pl v
 |[],[],_,v,hv=>by cases hv
 |k::ks,w::vs,h,v,hv=>by
  rcases fk.1 hv with q|q
  ·rw [q];exact h.1
  ·exact h.2.2.pl v q
 |[],_::_,h,_,_=>h.elim
 |_::_,[],h,_,_=>h.elim
theorem RK.kindR: ∀{ks:List Int} {r:cu},RK ks r→kindR ks r
 |[],[],_=>fun j k h=>by simp at h
 |k::ks,v::vs,h=>fun j x hx=>by
  cases j with
  |zero=>
   simp only [F5,AN]at hx
   subst hx
   exact⟨v,rfl,h.1,h.2.1⟩
  |succ j=>
   rw [NO]at hx
   exact h.2.2.kindR j x hx
 |[],_::_,h=>h.elim
 |_::_,[],h=>h.elim
theorem RK.rg{ks:List Int}(h:RK ks r):TT r:=fun v hv=>(h.pl v hv).r64
theorem RK.right{ks:List Int}(h:RK ks r)(hk:ks.length≤16):kD r=true:=by
 unfold kD
 rw [mi,kX,jZ]
 exact⟨by rw [h.len];exact hk,fun v hv=>(h.pl v hv).right⟩
theorem RK.app: ∀{a b:List Int} {x y:cu},RK a x→RK b y→RK (a++b) (x++y)
 |[],_,[],_,_,h=>h
 |k::ks,b,v::vs,y,h,h2=>⟨h.1,h.2.1,h.2.2.app h2⟩
 |[],_,_::_,_,h,_=>h.elim
 |_::_,_,[],_,h,_=>h.elim
theorem Lw: ∀(ks:List Int),RK ks (List.replicate ks.length zV)
 |[]=>trivial
 |k::ks=>⟨.z,.inr rfl,Lw ks⟩
theorem RK.map(f:α→ac)(g:α→Int): ∀(l:List α),(∀e∈l,Pl (f e)∧qR (f e) (g e))→RK (l.map g) (l.map f)
 |[],_=>trivial
 |e::t,h=>⟨(h e (kO ..)).1,(h e (kO ..)).2,RK.map f g t fun x hx=>h x (kN _ hx)⟩
theorem RK.at: ∀{ks:List Int} {r:cu},RK ks r→ ∀(j:Nat),j<ks.length→Pl ((r[j]?).getD zV)∧qR ((r[j]?).getD zV) ((ks[j]?).getD 0)
 |[],[],_,j,h=>by simp at h
 |k::ks,v::vs,h,j,hj=>by
  cases j with
  |zero=>exact⟨h.1,h.2.1⟩
  |succ j=>simpa using h.2.2.at j (by simpa using hj)
 |[],_::_,h,_,_=>h.elim
 |_::_,[],h,_,_=>h.elim
theorem RK.as: ∀{a k:List Int} {r:cu},RK a r→k.length=a.length→(∀(j:Nat) (x z:Int),a[j]? =some x→k[j]? =some z→x=z∨x=0)→RK k r
 |[],[],[],_,_,_=>trivial
 |x::a,z::k,v::vs,h,hl,hk=>by
  refine⟨h.1,?_,h.2.2.as (by simpa using hl) fun j x z h1 h2=>hk (j+1) x z (by simpa using h1) (by simpa using h2)⟩
  have:=hk 0 x z rfl rfl
  have h2:=h.2.1
  unfold qR at h2 ⊢
  omega
 |[],_::_,_,_,hl,_=>by simp at hl
 |_::_,[],_,_,hl,_=>by simp at hl
 |[],[],_::_,h,_,_=>h.elim
 |_::_,_::_,[],h,_,_=>h.elim
def rQ(ks:List Int)(l:List cu):Prop:= ∀r∈l,RK ks r
theorem rQ.perm{ks:List Int}{a b:List cu}(h:rQ ks a)(hp:a.Perm b):rQ ks b:=fun r hr=>h r (hp.mem_iff.2 hr)
theorem rQ.allr{ks:List Int}{l:List cu}(h:rQ ks l)(hk:ks.length≤16):o7 l=true:=by
 unfold o7
 rw [jZ]
 exact fun r hr=>(h r hr).right hk
theorem rQ.small{ks:List Int}{l:List cu}(h:rQ ks l)(hk:ks.length≤16)(hl:l.length≤8000):BM l:=⟨hl,fun r hr=>by rw [(h r hr).len];omega⟩
theorem rQ.rg{ks:List Int}{l:List cu}(h:rQ ks l):EK l:=fun r hr=>(h r hr).rg
structure QA(e:bG):Prop where
 len:e.Nodes.length≤200
 rg:If e.Nodes
def VU(e:bG)(r:cu):ac:=(oS r e.Nodes).1
def wn(e:bG)(r:cu):Bool:=(oS r e.Nodes).2==140
theorem VT(he:QA e){ks:List Int}(hk:(fF e ks).2=0)(hr:RK ks r):((oS r e.Nodes).2=0∧wn e r=false∧Pl (VU e r)∧qR (VU e r) (fF e ks).1)∨(oS r e.Nodes=(zV,140)∧wn e r=true∧VU e r=zV∧e.Nodes.any Za=true):=by
 rcases PV e.Nodes he.len he.rg ks hk r hr.kindR hr.rg hr.len with h|h
 ·exact .inl ⟨h.1,by unfold wn;rw [h.1];rfl,h.2.1,h.2.2⟩
 ·have:oS r e.Nodes=(zV,140):=by
   rcases yN (r:=r) he.rg hr.rg with q|q|q
   ·rw [q.1]at h;exact absurd h.1 (by decide)
   ·exact absurd h.1 q.2.1
   ·exact q
  exact .inr ⟨this,by unfold wn;rw [this];rfl,by unfold VU;rw [this],h.2⟩
def Wo(v:ac):Bool:=v.Kind==1&&v.N==1
theorem zi{v:ac}(h:Pl v):vU v=some (Wo v):=by
 have e:pn true=some (bV true):=rfl
 unfold vU
 rw [e,bf]
 congr 1
 cases h with
 |z=>rfl
 |b b=>cases b<;>rfl
 |i n _=>rfl
 |s s _=>rfl
def tI(e:bG)(r:cu):Bool:=Wo (VU e r)
theorem ym{ks:List Int}(h:HY e ks=true):(fF e ks).2=0:=by
 unfold HY at h
 rw [mi,sY]at h
 exact h.1
theorem KR(he:QA e){ks:List Int}(hk:(fF e ks).2=0)(hr:RK ks r):qq e r=some (tI e r,if wn e r then 140 else 0):=by
 unfold qq
 rw [wr e r (by have:=he.len;omega) he.rg hr.rg,bf]
 unfold tI
 rcases VT he hk hr with q|q
 ·rw [show(oS r e.Nodes).1=VU e r from rfl,zi q.2.2.1,bf,q.1,q.2.1];rfl
 ·rw [q.1,q.2.1,q.2.2.1,zi .z];rfl
theorem Cm{n:aj}(he:QA n.Cond){ks:List Int}(hk:(fF n.Cond ks).2=0): ∀(l out:List cu),rQ ks l→out.length+l.length≤1000000→fT n l out=some (if l.any (wn n.Cond)then([],140)else(out++l.filter (tI n.Cond),0))
 |[],out,_,_=>by unfold fT;simp
 |r::t,out,h,hl=>by
  rw [iN]at hl
  unfold fT
  have hr:=h r (kO ..)
  have ht:rQ ks t:=fun x hx=>h x (kN _ hx)
  rw [KR he hk hr,bf,zg,List.filter_cons]
  by_cases hf:wn n.Cond r=true
  ·rw [hf];rfl
  ·rw [rR.2 hf]
   simp only [fL,d7,DX,se]
   by_cases hh:tI n.Cond r=true
   ·rw [aY hh,aY hh,co (by simp;omega),bf,Cm he hk t _ ht (by simp only [iI,zO];omega),jG,GJ]
   ·rw [aL hh,aL hh,Cm he hk t _ ht (by omega)]
def Kg(items:List bG)(r:cu):cu:=items.map fun e=>VU e r
def II(items:List bG)(r:cu):Bool:=items.any fun e=>wn e r
theorem N5(nx:List cu→Option (List cu×Int)){ks:List Int}{r:cu}(hr:RK ks r)(out:List cu)(ho:out.length≤1000000): ∀(items:List bG) (y:cu),(∀e∈items,QA e∧(fF e ks).2=0)→y.length+items.length≤1000000→gH nx r out items y=if II items r then some ([],140)else nx (out++[y++Kg items r])
 |[],y,_,_=>by unfold gH;rw [co (by simp;omega)];simp [II,Kg]
 |e::t,y,h,hl=>by
  rw [iN]at hl
  unfold gH
  obtain⟨he,hk⟩:=h e (kO ..)
  have ht:=fun x hx=>h x (kN e hx)
  rw [wr e r (by have:=he.len;omega) he.rg hr.rg,bf]
  have e1:II (e::t) r=(wn e r||II t r):=rfl
  rw [e1]
  rcases VT he hk hr with q|q
  ·rw [aL (by rw [q.1];decide),co (by simp;omega),bf,N5 nx hr out ho t _ ht (by simp only [iI,zO];omega),q.2.1]
   simp [Kg,VU]
  ·rw [q.1,q.2.1];rfl
theorem N6{n:aj}{ks:List Int}(hi: ∀e∈n.Items,QA e∧(fF e ks).2=0)(hil:n.Items.length≤100000): ∀(l out:List cu),rQ ks l→out.length+l.length≤1000000→fx n l out=some (if l.any (II n.Items)then([],140)else(out++l.map (Kg n.Items),0))
 |[],out,_,_=>by unfold fx;simp
 |r::t,out,h,hl=>by
  rw [iN]at hl
  unfold fx
  have hr:=h r (kO ..)
  have ht:rQ ks t:=fun x hx=>h x (kN _ hx)
  rw [N5 _ hr out (by omega) n.Items [] hi (by simp;omega),zg]
  by_cases hf:II n.Items r=true
  ·rw [hf];rfl
  ·rw [rR.2 hf]
   simp only [fL,d7,se,jY]
   rw [N6 hi hil t _ ht (by simp only [iI,zO];omega)]
   simp

variable{rows:List (List cu)}
theorem Nx{g:gS}(hg:QA g.Arg){ks:List Int}(h:(BK g ks).2=true){rows:List cu}(hr:rQ ks rows)(hl:rows.length≤8000):((wA g rows).2=0∧Pl (wA g rows).1∧qR (wA g rows).1 (BK g ks).1)∨(wA g rows=(zV,140)∧QQ g=true):=by
 obtain⟨s1,s2⟩:=DV g ks
 rw [←s1]at h
 rw [←s2 h]
 unfold Pg at h ⊢
 unfold wA
 have hi: ∀n:Nat,n≤8000→Pl (iV (n:Int))∧qR (iV (n:Int)) 2:=fun n hn=>⟨.i _ (by unfold r64;omega),.inl rfl⟩
 by_cases h1:g.Tag=1
 ·rw [aY h1,aY h1]
  exact .inl ⟨rfl,hi _ hl⟩
 ·rw [aL h1]at h ⊢
  rw [aL h1]
  have hk:(fF g.Arg ks).2=0:=by
   by_cases h2:g.Tag=2
   ·rw [aY h2]at h;simpa using h
   ·rw [aL h2]at h
    by_cases h3:g.Tag=3
    ·rw [aY h3]at h;simp only [mi,sY]at h;exact h.1
    ·rw [aL h3]at h
     by_cases h4:g.Tag=4∨g.Tag=5
     ·rw [aY h4]at h;simpa using h
     ·rw [aL h4]at h;cases h
  have hb:Dw g.Arg.Nodes rows=false:=by
   unfold Dw
   rw [CQ]
   intro r hm
   rcases VT hg hk (hr r hm)with q|q
   ·rw [q.1];decide
   ·rw [q.1];decide
  have hvs: ∀v∈Bx g.Arg.Nodes rows,Pl v∧v.Kind=(fF g.Arg ks).1:=by
   intro v hv
   refine⟨I8 hg.rg hr.rg v hv,?_⟩
   unfold Bx at hv
   obtain⟨r,hm,he⟩:=List.mem_filterMap.1 hv
   split at he
   ·rename_i hc
    injection he with he
    rcases VT hg hk (hr r hm)with q|q
    ·rw [←he]
     exact q.2.2.2.resolve_right hc.2
    ·rw [q.1]at hc;exact absurd hc.1 (by decide)
   ·cases he
  have hlen:=OV g.Arg.Nodes rows
  have ho:rY g.Tag (Bx g.Arg.Nodes rows)=false:=by
   unfold rY
   by_cases h3:g.Tag=3
   ·rw [aL (by omega),aY h3]at h
    simp only [mi,sY,pW]at h
    rw [h3]
    simp only [GC,uM]
    rw [CQ]
    intro v hv
    have hkv:=(hvs v hv).2
    have hne:v.Kind≠0:=by
     unfold Bx at hv
     obtain⟨r,hm,he⟩:=List.mem_filterMap.1 hv
     split at he
     ·rename_i hc;injection he with he;rw [←he];exact hc.2
     ·cases he
    simp only [qD,oU,Classical.not_not]
    omega
   ·have:(g.Tag==3)=false:=by simpa using h3
    rw [this];rfl
  rw [hb,ho]
  simp only [Bool.or_self,fL,d7]
  by_cases hf:Du g.Arg.Nodes rows=true
  ·rw [aY hf]
   refine .inr ⟨rfl,?_⟩
   unfold QQ
   split
   ·rfl
   ·unfold Du at hf
    obtain⟨r,hm,hq⟩:=ud.1 hf
    rcases VT hg hk (hr r hm)with q|q
    ·rw [q.1]at hq;cases hq
    ·unfold JD
     rw [q.2.2.2,wH]
     cases hn:g.Arg.Nodes with
     |nil=>have:=q.2.2.2;rw [hn]at this;cases this
     |cons x t=>rfl
  ·rw [aL hf]
   unfold R0
   rw [aL (by decide)]
   by_cases h2:g.Tag=2
   ·rw [aY h2,aY h2]
    exact .inl ⟨rfl,hi _ (by omega)⟩
   ·rw [aL h2,aL h2]
    by_cases h3:g.Tag=3
    ·rw [aY h3,aY h3]
     unfold Q0
     split
     ·exact .inl ⟨rfl,.z,.inr rfl⟩
     ·by_cases hs:r64 (qI (Bx g.Arg.Nodes rows))
      ·rw [aY hs];exact .inl ⟨rfl,.i _ hs,.inl rfl⟩
      ·rw [aL hs];exact .inr ⟨rfl,by unfold QQ;rw [aY h3]⟩
    ·rw [aL h3,aL h3]
     have h45:g.Tag=4∨g.Tag=5:=by
      rw [aL h2,aL h3]at h
      by_cases h4:g.Tag=4∨g.Tag=5
      ·exact h4
      ·rw [aL h4]at h;cases h
     rw [aY h45]
     refine .inl ⟨rfl,?_⟩
     by_cases hz:Bx g.Arg.Nodes rows=[]
     ·rw [hz];exact⟨.z,.inr rfl⟩
     ·have:=hvs _ (ST g.Tag _ hz)
      exact⟨this.1,.inl this.2⟩
def TQ(aggs:List gS)(g:ie):cu:=g.Key++aggs.map fun a=>(wA a g.Rows).1
def IJ(aggs:List gS)(g:ie):Bool:=aggs.any fun a=>(wA a g.Rows).2==140
def GOK(aggs:List gS)(g:ie):Prop:= ∀a∈aggs,mh a g.Rows=some (wA a g.Rows)∧rW a g.Rows=some (wA a g.Rows)∧((wA a g.Rows).2=0∨wA a g.Rows=(zV,140))
theorem RP(nx:List cu→Option (List cu×Int))(g:ie)(out:List cu)(ho:out.length≤1000000): ∀(aggs:List gS) (x:cu),GOK aggs g→x.length+aggs.length≤1000000→iE nx g out aggs x=if IJ aggs g then some ([],140)else nx (out++[x++aggs.map fun a=>(wA a g.Rows).1])
 |[],x,_,_=>by unfold iE;rw [co (by simp;omega)];simp [IJ]
 |a::t,x,h,hl=>by
  rw [iN]at hl
  unfold iE
  obtain⟨h1,_,h3⟩:=h a (kO ..)
  have ht:GOK t g:=fun x hx=>h x (kN a hx)
  have e1:IJ (a::t) g=((wA a g.Rows).2==140||IJ t g):=rfl
  rw [h1,bf,e1]
  rcases h3 with q|q
  ·rw [aL (by rw [q];decide),co (by simp;omega),bf,RP nx g out ho t _ ht (by simp only [iI,zO];omega),q]
   simp
  ·rw [q];rfl
theorem QB(r:cu)(h:r.length≤1000):cz r=some r:=CJ r (by omega)
theorem RQ{n:aj}(ha:n.Aggs.length≤100000): ∀(gs:List ie) (out:List cu),(∀g∈gs,GOK n.Aggs g∧g.Key.length≤1000)→out.length+gs.length≤1000000→fi n gs out=some (if gs.any (IJ n.Aggs)then([],140)else(out++gs.map (TQ n.Aggs),0))
 |[],out,_,_=>by unfold fi;simp
 |g::t,out,h,hl=>by
  rw [iN]at hl
  unfold fi
  obtain⟨h1,h2⟩:=h g (kO ..)
  have ht:=fun x hx=>h x (kN g hx)
  rw [QB _ h2,bf,RP _ g out (by omega) n.Aggs g.Key h1 (by omega),zg]
  by_cases hf:IJ n.Aggs g=true
  ·rw [hf];rfl
  ·rw [rR.2 hf]
   simp only [fL,d7,se]
   rw [RQ ha t _ ht (by simp only [iI,zO];omega)]
   simp [TQ]
theorem JJ{r:cu}: ∀{c:List Int} (out:cu),(∀e∈c,0≤e∧e<(r.length:Int))→out.length+c.length≤1000→mn r c out=some (out++c.map (atR r))
 |[],out,_,_=>by unfold mn;simp
 |e::t,out,h,hl=>by
  rw [iN]at hl
  unfold mn
  have he:=h e (kO ..)
  rw [IG he.1 he.2,bf,co (by simp;omega),bf,JJ _ (fun x hx=>h x (kN _ hx)) (by simp only [iI,zO];omega)]
  simp
theorem QY{c:List Int}(h:oc r c=true):gA c r=c.map (atR r):=by
 unfold oc at h
 rw [mi,kX,jZ]at h
 have:nX r c=some ([]++c.map (atR r)):=JJ [] (fun e he=>by have:=h.2 e he;simpa using this) (by simp;omega)
 unfold gA
 rw [this];rfl
theorem RK.key{ks:List Int}(h:RK ks r): ∀c:List Int,(∀e∈c,0≤e∧e<(ks.length:Int))→RK (c.map (Fe ks)) (c.map (atR r)):=fun c hc=>
 RK.map (atR r) (Fe ks) c fun e he=>by
  obtain⟨h1,h2⟩:=hc e he
  exact h.at e.toNat (by omega)
def gP(c:List Int)(l:List cu):List ie:=if c=[]∧uz c l=[]then [⟨[],[]⟩]else uz c l
structure LE(n:aj)(ks:List Int):Prop where
 cols: ∀c∈n.Keys,0≤c∧c<(ks.length:Int)
 ags: ∀g∈n.Aggs,QA g.Arg∧(BK g ks).2=true
 len:ks.length≤16
 keys:n.Keys.length≤16
 naggs:n.Aggs.length≤5000
theorem Oa{ks:List Int}(h:LE n ks){l:List cu}(hr:rQ ks l):Bh l n.Keys=true:=by
 unfold Bh
 simp only [mi,kX,jZ]
 refine⟨⟨h.keys,fun e he=>(h.cols e he).1⟩,fun r hm=>?_⟩
 unfold oc
 simp only [mi,kX,jZ]
 refine⟨h.keys,fun e he=>?_⟩
 have:=(hr r hm).len
 have:=h.cols e he
 omega
theorem XQ{g:gS}{ks:List Int}(h:(BK g ks).2=true):g.Tag=1∨g.Tag=2∨g.Tag=3∨g.Tag=4∨g.Tag=5:=by
 rw [←(DV g ks).1]at h
 unfold Pg at h
 by_cases h1:g.Tag=1
 ·exact .inl h1
 ·by_cases h2:g.Tag=2
  ·exact .inr (.inl h2)
  ·by_cases h3:g.Tag=3
   ·exact .inr (.inr (.inl h3))
   ·by_cases h4:g.Tag=4∨g.Tag=5
    ·exact .inr (.inr (.inr h4))
    ·rw [aL h1,aL h2,aL h3,aL h4]at h;cases h
theorem Zf{ks:List Int}(h:LE n ks){key:cu}{rows:List cu}(hr:rQ ks rows)(hl:rows.length≤8000):GOK n.Aggs ⟨key,rows⟩:=by
 intro a ha
 obtain⟨h1,h2⟩:=h.ags a ha
 refine⟨zb a (by have:=h1.len;omega) h1.rg (XQ h2) hr.rg (by show rows.length≤90000;omega),z8 a h1.rg hr.rg (by show rows.length≤90000;omega),?_⟩
 rcases Nx h1 h2 hr hl with q|q
 ·exact .inl q.1
 ·exact .inr q.1
theorem XT{ks:List Int}(h:LE n ks){key:cu}{rows:List cu}(hr:rQ ks rows)(hl:rows.length≤8000)(hk:RK (n.Keys.map (Fe ks)) key):RK (n.Keys.map (Fe ks)++n.Aggs.map fun g=>(BK g ks).1) (TQ n.Aggs ⟨key,rows⟩):=by
 refine hk.app (RK.map _ _ _ fun a ha=>?_)
 obtain⟨h1,h2⟩:=h.ags a ha
 rcases Nx h1 h2 hr hl with q|q
 ·exact q.2
 ·show Pl (wA a rows).1∧qR (wA a rows).1 _
  rw [q.1];exact⟨.z,.inr rfl⟩
theorem Fh{ks:List Int}(h:LE n ks){l:List cu}(hr:rQ ks l)(hl:l.length≤8000): ∀g∈gP n.Keys l,∃key rows,g=⟨key,rows⟩∧rQ ks rows∧rows.length≤8000∧RK (n.Keys.map (Fe ks)) key:=by
 intro g hg
 unfold gP at hg
 split at hg
 ·rename_i hc
  have hc1:=hc.1
  simp only [zN]at hg
  subst hg
  refine⟨[],[],rfl,(fun r hr=>by cases hr),by simp,?_⟩
  rw [hc1];trivial
 ·unfold uz at hg
  obtain⟨k,hk,e⟩:=ui.1 hg
  subst e
  refine⟨_,_,rfl,?_,?_,?_⟩
  ·intro r hm
   rw [(nW eG _).mem_iff]at hm
   exact hr r (Gz.1 hm).1
  ·rw [vY]
   have:=List.length_filter_le (fun r=>decide (gA n.Keys r=k)) l
   omega
  ·rw [yG,(nW eG _).mem_iff]at hk
   obtain⟨r,hm,e⟩:=ui.1 hk
   have hoc:=yF (Oa h hr) hm
   rw [←e,QY hoc]
   exact(hr r hm).key n.Keys h.cols
theorem RU(c:List Int)(l:List cu)(hl:l.length≤8000):(gP c l).length≤8000:=by
 unfold gP
 split
 ·simp
 ·unfold uz
  rw [AK]
  have:=Qn (wX (l.map (gA c)))
  rw [vY,AK]at this
  omega
def xU(n:aj)(l:List cu):List cu×Int:=if(gP n.Keys l).any (IJ n.Aggs)then([],140)else((gP n.Keys l).map (TQ n.Aggs),0)
theorem RR{ks:List Int}(h:LE n ks){l:List cu}(hr:rQ ks l)(hl:l.length≤8000)(ob:cS)(hA:cN ob.rows n.A=some l):jd ob n=some (xU n l):=by
 unfold jd
 rw [hA,bf,Gd (hr.small h.len hl) (hr.allr h.len) (Oa h hr),bf]
 rw [aL (by show¬((0:Int) !=0)=true;decide)]
 have hgs: ∀g∈gP n.Keys l,GOK n.Aggs g∧g.Key.length≤1000:=by
  intro g hg
  obtain⟨key,rows,e,p1,p2,p3⟩:=Fh h hr hl g hg
  subst e
  refine⟨Zf h p1 p2,?_⟩
  have:=p3.len
  have hk:=h.keys
  rw [AK]at this
  show key.length≤1000
  omega
 have main:fi n (gP n.Keys l) []=some (xU n l):=by
  rw [RQ (by have:=h.naggs;omega) _ [] hgs (by have:=RU n.Keys l hl;simp only [pQ];omega)]
  rfl
 rw [←main]
 unfold lJ gP
 by_cases hc:n.Keys=[]∧uz n.Keys l=[]
 ·rw [aY (by rw [hc.2,hc.1];rfl),aY hc]
 ·rw [aL,aL hc]
  intro hh
  simp only [mi,sY]at hh
  exact hc ⟨uf (by omega),uf (by omega)⟩
theorem RS{ks:List Int}(h:LE n ks){l:List cu}(hr:rQ ks l)(hl:l.length≤8000):rQ (n.Keys.map (Fe ks)++n.Aggs.map fun g=>(BK g ks).1) (xU n l).1∧(xU n l).1.length≤8000∧((xU n l).2=0∨xU n l=([],140)∧n.Aggs.any QQ=true):=by
 unfold xU
 by_cases hf:(gP n.Keys l).any (IJ n.Aggs)=true
 ·rw [aY hf]
  refine⟨(fun r hr=>by cases hr),by simp,.inr ⟨rfl,?_⟩⟩
  obtain⟨g,hg,hfg⟩:=ud.1 hf
  obtain⟨key,rows,e,p1,p2,p3⟩:=Fh h hr hl g hg
  subst e
  unfold IJ at hfg
  obtain⟨a,ha,hq⟩:=ud.1 hfg
  obtain⟨h1,h2⟩:=h.ags a ha
  rcases Nx h1 h2 p1 p2 with q|q
  ·rw [q.1]at hq;cases hq
  ·exact ud.2 ⟨a,ha,q.2⟩
 ·rw [aL hf]
  refine⟨?_,by rw [AK];exact RU _ _ hl,.inl rfl⟩
  intro r hm
  obtain⟨g,hg,e⟩:=ui.1 hm
  obtain⟨key,rows,e2,p1,p2,p3⟩:=Fh h hr hl g hg
  subst e2
  rw [←e]
  exact XT h p1 p2 p3

def o4(e:bG)(b:List cu)(x:cu):List cu:=(b.map fun y=>x++y).filter (tI e)
def wZ(e:bG)(b:List cu)(x:cu):Bool:=b.any fun y=>tI e (x++y)
def Fj(e:bG)(b:List cu)(x:cu):Bool:=b.any fun y=>wn e (x++y)
def xS(e:bG)(b:List cu)(w:Nat)(left:Bool)(x:cu):List cu:=if left&& !wZ e b x then [x++List.replicate w zV]else []
theorem Hc(e:bG)(b:List cu)(x:cu):(o4 e b x).length≤b.length:=by
 unfold o4
 have:=List.length_filter_le (tI e) (b.map fun y=>x++y)
 rw [AK]at this
 exact this
theorem C8{α β:Type}(f:α→List β)(m:Nat)(h: ∀x,(f x).length≤m): ∀l:List α,(l.flatMap f).length≤l.length*m
 |[]=>by simp
 |x::t=>by
  rw [List.flatMap_cons,iI,iN,uL,Nat.one_mul]
  have:=C8 f m h t
  have:=h x
  omega
theorem Tc(n:Int)(h0:0≤n)(h:n≤68719476736):gB n=some []:=by
 unfold gB io
 rw [aL (by simp;omega)]
 have e:IntKind.i64.wrap (n-IntKind.i64.wrap ((0:Int)-0))=n:=by
  rw [cq (n:=(0:Int)-0) (by omega) (by omega),cq (by omega) (by omega)];omega
 rw [e]
 by_cases hp:0<n
 ·rw [aY (by simpa using hp)]
  unfold WG nQ
  rw [aY hp]
  simp only [bf]
  rw [aY ⟨h0,h⟩]
  simp only [bf]
  rw [show dA (List.replicate n.toNat (⟨0,0,0,[]⟩:ac)) 0 0=some []from by unfold dA;rw [aY (by simp;omega)];simp]
  rfl
 ·rw [aL (by simpa using hp)];rfl
theorem FX(a b:cu)(ha:a.length≤8000)(hb:b.length≤8000):dv [a,b]=some (a++b):=by
 unfold dv
 simp only [eQ]
 rw [cq (n:=(0:Int)+(a.length:Int)) (by omega) (by omega),aL (by simp),cq (by omega) (by omega),aL (by simp;omega),Tc _ (by omega) (by omega)]
 simp only [bf,eP]
 rw [co (by simp;omega)]
 simp only [bf,jY]
 rw [co (by omega)]
 rfl
abbrev JS:=Option Nat×(List cu×List Bool×Int×List cu)
def vu(n:aj):Int×cu→JS→Option (Bool×JS):=wP (fun x s=>gR n x s.1 s.2.1 s.2.2.1 s.2.2.2)
theorem TN(p q:List α)(w v:α):(p++w::q).set p.length v=p++v::q:=by
 induction p with
 |nil=>rfl
 |cons x t ih=>simp [ih]
theorem Ow(p q:List α)(w:α):cN (p++w::q) (p.length:Int)=some w:=by
 rw [RO];simp
theorem EV{n:aj}(he:QA n.Cond){ka kb:List Int}(hk:(fF n.Cond (ka++kb)).2=0)(hka:ka.length≤16)(hkb:kb.length≤16)(nx:Nat→JS→Option JS){x:cu}(hx:RK ka x): ∀(bs xs:List cu) (pre:List Bool) (m:Bool) (post:List Bool),rQ kb bs→xs.length+bs.length≤1000000→
  if Fj n.Cond bs x then∃q:List cu×List Bool,fG (vu n) nx pre.length x bs (none,(xs,pre++m::post,0,[]))=some (some 0,(q.1,q.2,140,[]))
  else fG (vu n) nx pre.length x bs (none,(xs,pre++m::post,0,[]))=nx (pre.length+1) (none,(xs++o4 n.Cond bs x,pre++(m||wZ n.Cond bs x)::post,0,[]))
 |[],xs,pre,m,post,_,_=>by
  have:Fj n.Cond [] x=false:=rfl
  rw [this,aL (by decide)]
  unfold fG
  simp [o4,wZ]
 |y::t,xs,pre,m,post,hb,hl=>by
  rw [iN]at hl
  have hy:=hb y (kO ..)
  have ht:rQ kb t:=fun z hz=>hb z (kN _ hz)
  have hxy:RK (ka++kb) (x++y):=hx.app hy
  have hlx:=hx.len
  have hly:=hy.len
  have e1:Fj n.Cond (y::t) x=(wn n.Cond (x++y)||Fj n.Cond t x):=rfl
  have e2:o4 n.Cond (y::t) x=(if tI n.Cond (x++y)=true then(x++y)::o4 n.Cond t x else o4 n.Cond t x):=by
   unfold o4
   rw [AB,List.filter_cons]
  have e3:wZ n.Cond (y::t) x=(tI n.Cond (x++y)||wZ n.Cond t x):=rfl
  have step:fG (vu n) nx pre.length x (y::t) (none,(xs,pre++m::post,0,[]))=(gR n ((pre.length:Int),x++y) xs (pre++m::post) 0 []).bind fun r=>if(!r.1.isNone)=true then some r else fG (vu n) nx pre.length x t r:=by
   conv=>lhs;unfold fG
   rw [FX x y (by omega) (by omega),bf]
   unfold vu wP
   simp only []
   cases gR n ((pre.length:Int),x++y) xs (pre++m::post) 0 []with
   |none=>rfl
   |some r=>rfl
  have hbody:gR n ((pre.length:Int),x++y) xs (pre++m::post) 0 []=some (if wn n.Cond (x++y)then(some 0,(xs,pre++m::post,140,[]))else if tI n.Cond (x++y)then(none,(xs++[x++y],pre++true::post,0,[]))else(none,(xs,pre++m::post,0,[]))):=by
   unfold gR
   rw [KR he hk hxy,bf]
   by_cases hf:wn n.Cond (x++y)=true
   ·rw [hf];rfl
   ·rw [rR.2 hf]
    simp only [fL,d7,DX]
    by_cases hh:tI n.Cond (x++y)=true
    ·rw [aY hh,aY hh,Ow,bf,AE,TN,bf,co (by simp;omega),bf]
    ·rw [aL hh,aL hh]
  rw [e1,step,hbody,bf]
  by_cases hf:wn n.Cond (x++y)=true
  ·rw [hf]
   simp only [ep,Bool.true_or]
   exact⟨(xs,pre++m::post),rfl⟩
  ·rw [rR.2 hf]
   simp only [fL,d7,se]
   by_cases hh:tI n.Cond (x++y)=true
   ·rw [aY hh]
    simp only [Option.isNone_none,mw,fL,d7]
    have ih:=EV he hk hka hkb nx hx t (xs++[x++y]) pre true post ht (by simp only [iI,zO];omega)
    rw [e2,aY hh,e3,hh]
    simpa using ih
   ·rw [aL hh]
    simp only [Option.isNone_none,mw,fL,d7]
    have ih:=EV he hk hka hkb nx hx t xs pre m post ht (by omega)
    rw [e2,aL hh,e3,rR.2 hh,se]
    exact ih
theorem Kl{n:aj}(he:QA n.Cond){ka kb:List Int}(hk:(fF n.Cond (ka++kb)).2=0)(hka:ka.length≤16)(hkb:kb.length≤16){b:List cu}(hb:rQ kb b): ∀(a xs:List cu) (pre:List Bool),rQ ka a→xs.length+a.length*b.length+b.length≤1000000→
  if a.any (Fj n.Cond b)then∃q:List cu×List Bool,dI b (vu n) a pre.length (none,(xs,pre++List.replicate a.length false,0,[]))=some (some 0,(q.1,q.2,140,[]))
  else dI b (vu n) a pre.length (none,(xs,pre++List.replicate a.length false,0,[]))=some (none,(xs++a.flatMap (o4 n.Cond b),pre++a.map (wZ n.Cond b),0,[]))
 |[],xs,pre,_,_=>by
  rw [List.any_nil,aL (by decide)]
  unfold dI
  simp
 |x::t,xs,pre,ha,hl=>by
  rw [iN,uL,Nat.one_mul]at hl
  have hx:=ha x (kO ..)
  have ht:rQ ka t:=fun z hz=>ha z (kN _ hz)
  have h2:=EV he hk hka hkb (dI b (vu n) t) hx b xs pre false (List.replicate t.length false) hb (by omega)
  have er:List.replicate (x::t).length false=false::List.replicate t.length false:=rfl
  rw [er,zg]
  unfold dI
  by_cases hf:Fj n.Cond b x=true
  ·rw [hf]at h2 ⊢
   simpa using h2
  ·rw [rR.2 hf]at h2 ⊢
   simp only [fL,d7,se]at h2 ⊢
   have ih:=Kl he hk hka hkb hb t (xs++o4 n.Cond b x) (pre++[wZ n.Cond b x]) ht (by have:=Hc n.Cond b x;simp only [iI];omega)
   rw [h2]
   simp only [iI,zO,jG,GJ]at ih ⊢
   rw [List.flatMap_cons,AB]
   exact ih
theorem Ot{ob:cS}{n:aj}{w:Nat}(hw:w≤16)(hB:cN ob.width n.B=some (w:Int))(e:bG)(b:List cu)(st:JS)(u:Unit): ∀(t:List cu) (pre:List Bool) (out:List cu),(∀x∈t,x.length≤16)→st.2.2.1=pre++t.map (wZ e b)→out.length+t.length≤1000000→gQ ob n (st,u) t pre.length out=some (out++t.flatMap (xS e b w n.Left),0)
 |[],pre,out,_,_,_=>by unfold gQ;simp
 |x::t,pre,out,hx,hs,hl=>by
  rw [iN]at hl
  unfold gQ
  have hxl:=hx x (kO ..)
  have ht:=fun z hz=>hx z (kN x hz)
  rw [AB]at hs
  have hi:cN st.2.2.1 (pre.length:Int)=some (wZ e b x):=by rw [hs,Ow]
  have ih:=Ot hw hB e b st u t (pre++[wZ e b x])
  rw [iI,zO]at ih
  have hs2:st.2.2.1=pre++[wZ e b x]++t.map (wZ e b):=by rw [hs];simp
  rw [List.flatMap_cons]
  have ec:(if n.Left=true then((cN st.2.2.1 (pre.length:Int)).bind fun e4=>some (!e4))else some false)=some (n.Left&& !wZ e b x):=by
   rw [hi]
   cases n.Left<;>rfl
  show((if n.Left=true then((cN st.2.2.1 (pre.length:Int)).bind fun e4=>some (!e4))else some false).bind fun q=>_)=_
  rw [ec,bf]
  unfold xS
  by_cases hc:(n.Left&& !wZ e b x)=true
  ·rw [aY hc,aY hc,hB,bf]
   have hz:nQ (w:Int) (⟨0,0,0,[]⟩:ac)=some (List.replicate w zV):=by
    unfold nQ
    rw [aY (by omega)]
    rfl
   rw [hz,bf,FX x _ (by omega) (by simp;omega),bf,co (by simp;omega),bf,ih _ ht hs2 (by simp only [iI,zO];omega),jG]
   rfl
  ·rw [aL hc,aL hc,ih _ ht hs2 (by omega),jY]
   rfl
def zA(n:aj)(a b:List cu)(w:Nat):List cu×Int:=
 if 40000<a.length*b.length then([],3)else if a.any (Fj n.Cond b)then([],140)else(a.flatMap (o4 n.Cond b)++a.flatMap (xS n.Cond b w n.Left),0)
structure Pq(n:aj)(ka kb:List Int):Prop where
 cond:QA n.Cond
 kind:(fF n.Cond (ka++kb)).2=0
 ka:ka.length≤16
 kb:kb.length≤16
theorem Rw{q:Nat}(hp:p≤8000)(hq:q≤8000):decide ((40000:Int)<(IntKind.i64.wrap ((p:Int)*(q:Int))))=decide (40000<p*q):=by
 have h:p*q≤8000*8000:=vL hp hq
 rw [←xl,pF (by omega) (by omega),CL]
 omega
theorem Un{ka kb:List Int}(h:Pq n ka kb){a b:List cu}(ha:rQ ka a)(hb:rQ kb b)(hal:a.length≤8000)(hbl:b.length≤8000)(ob:cS)(hA:cN ob.rows n.A=some a)(hB:cN ob.rows n.B=some b)(hW:cN ob.width n.B=some (kb.length:Int)):jI ob n=some (zA n a b kb.length):=by
 unfold jI zA
 rw [hA,hB,bf,bf,Rw hal hbl]
 by_cases hm:40000<a.length*b.length
 ·rw [aY (by simpa using hm),aY hm]
 ·rw [aL (by simpa using hm),aL hm]
  have hz:nQ (a.length:Int) false=some (List.replicate a.length false):=by
   unfold nQ
   rw [aY (by omega)]
   rfl
  have hp:wu a b=some (fun _=>me a b):=rfl
  rw [hz,bf,hp,bf]
  have hit:(itU (fun(Sg:Type)=>me (Sg:=Sg) a b)) JS (vu n) (none,(([]:List cu),List.replicate a.length false,(0:Int),[]))=(dI b (vu n) a 0 (none,(([]:List cu),List.replicate a.length false,(0:Int),[]))).map fun r=>(r,()):=rfl
  have hp1:=Kl h.cond h.kind h.ka h.kb hb a [] [] ha (by simp only [pQ];omega)
  show((itU (fun(Sg:Type)=>me (Sg:=Sg) a b)) JS (vu n) (none,(([]:List cu),List.replicate a.length false,(0:Int),[]))).bind _=_
  rw [hit]
  by_cases hf:a.any (Fj n.Cond b)=true
  ·rw [aY hf]at hp1 ⊢
   obtain⟨q,hq⟩:=hp1
   have hq2:dI b (vu n) a 0 (none,(([]:List cu),List.replicate a.length false,(0:Int),[]))=some (some 0,(q.1,q.2,140,[])):=hq
   rw [hq2]
   rfl
  ·rw [aL hf]at hp1 ⊢
   have hq2:dI b (vu n) a 0 (none,(([]:List cu),List.replicate a.length false,(0:Int),[]))=some (none,(a.flatMap (o4 n.Cond b),a.map (wZ n.Cond b),0,[])):=hp1
   rw [hq2]
   have hlen:=C8 (o4 n.Cond b) b.length (Hc n.Cond b) a
   have:=Ot (ob:=ob) (n:=n) h.kb hW n.Cond b (none,(a.flatMap (o4 n.Cond b),a.map (wZ n.Cond b),0,[])) () a [] (a.flatMap (o4 n.Cond b)) (fun x hx=>by rw [(ha x hx).len];exact h.ka) rfl (by omega)
   exact this
theorem Up{ka kb:List Int}{a b:List cu}(ha:rQ ka a)(hb:rQ kb b):rQ (ka++kb) (a.flatMap (o4 n.Cond b)):=by
 intro r hr
 obtain⟨x,hx,hr⟩:=List.mem_flatMap.1 hr
 unfold o4 at hr
 obtain⟨y,hy,e⟩:=ui.1 (Gz.1 hr).1
 rw [←e]
 exact(ha x hx).app (hb y hy)
theorem Uq{ka kb:List Int}{a b:List cu}(ha:rQ ka a):rQ (ka++kb) (a.flatMap (xS n.Cond b kb.length n.Left)):=by
 intro r hr
 obtain⟨x,hx,hr⟩:=List.mem_flatMap.1 hr
 unfold xS at hr
 split at hr
 ·rw [zN.1 hr]
  exact(ha x hx).app (Lw kb)
 ·cases hr
theorem Eg(h:e.Nodes.any Za=true):JD e=true:=by
 unfold JD
 rw [h,wH]
 cases hn:e.Nodes with
 |nil=>rw [hn]at h;cases h
 |cons x t=>rfl
theorem Uo{ka kb:List Int}(h:Pq n ka kb){a b:List cu}(ha:rQ ka a)(hb:rQ kb b):rQ (ka++kb) (zA n a b kb.length).1∧((zA n a b kb.length).2=0∨zA n a b kb.length=([],3)∨zA n a b kb.length=([],140)∧JD n.Cond=true):=by
 unfold zA
 by_cases hm:40000<a.length*b.length
 ·rw [aY hm]
  exact⟨(fun r hr=>by cases hr),.inr (.inl rfl)⟩
 ·rw [aL hm]
  by_cases hf:a.any (Fj n.Cond b)=true
  ·rw [aY hf]
   refine⟨(fun r hr=>by cases hr),.inr (.inr ⟨rfl,?_⟩)⟩
   obtain⟨x,hx,hq⟩:=ud.1 hf
   unfold Fj at hq
   obtain⟨y,hy,hq⟩:=ud.1 hq
   rcases VT h.cond h.kind ((ha x hx).app (hb y hy))with q|q
   ·rw [q.2.1]at hq;cases hq
   ·exact Eg q.2.2.2
  ·rw [aL hf]
   refine⟨fun r hr=>?_,.inl rfl⟩
   rcases vM.1 hr with q|q
   ·exact Up ha hb r q
   ·exact Uq ha r q

theorem Mx(hS:kQ l)(hr:iP l=true)(K:Dl l sz ks)(hp:p<l.Nodes.length): ∃d,tF l (p:Int)=some (d,0)∧rE d=some (ks p,0):=by
 obtain⟨_,_,ob,j,r3,r4⟩:=rq hS
 obtain⟨hL,hj⟩:=r4 hr
 rw [hr]at r3
 have hle:=hL.le
 have H:F0 l (xa ob.first) (MQ ob.kinds):=fun j hj=>K0 hL.inv hle hj
 obtain⟨N0,hf⟩:=hL.inv.at hp
 have h1:=N0.pos
 have h2:=N0.le
 have hb:((p+1-xa ob.first p:Nat):Int)=(p:Int)+1-(xa ob.first p:Int):=by omega
 have hfi:cN ob.first (p:Int)=some ((p+1-xa ob.first p:Nat):Int):=by rw [bW,hf,hb]
 have hpart:tF l (p:Int)=some (Ab l (p+1-xa ob.first p) p,0):=by
  unfold tF
  rw [r3]
  simp only [bf,mw,fL,d7]
  rw [aL (by simp;omega),hfi]
  simp only [bf]
  rw [Nz hS hle hp (by omega) ((l.Nodes.take (p+1)).drop (p+1-xa ob.first p)) (p+1-xa ob.first p) iz _ rfl (by simp;omega) (vv (by simp;omega)) (by simp)]
  rfl
 refine⟨_,hpart,?_⟩
 have hpr:=Mw H hle hp h2 h1
 have hps:=Ir hS (p+1-xa ob.first p) p
 obtain⟨sz',ks',K'⟩:=xR hps hpr
 have hk:=(KH hps K' (EU H hle hp h2)).1
 have hlen:=wi (l:=l) (e:=p+1-xa ob.first p) hp
 rw [K'.kinds,←hk,hlen]
 have hsame:=TC (l:=l) (d:=l) (e:=0) (m:=l.Nodes.length) K.all H (dy _) (by omega) (by omega) (by omega) (fun j hj n hn=>by
  obtain⟨m,F⟩:=K.all j hj
  have hm:n=m:=by rw [F.node]at hn;injection hn with hn;exact hn.symm
  subst hm
  rw [uc,Hb K F hj]
  exact F.node) p hp
 have e:p+1-xa ob.first p+(p+1-(p+1-xa ob.first p)-1)=p:=by omega
 simp only [e]
 have:=hsame.2
 rw [uc]at this
 rw [this]
structure qC(n:aj):Prop where
 small:ic n
 cond:QA n.Cond
 items: ∀e∈n.Items,QA e
 args: ∀g∈n.Aggs,QA g.Arg
def zm(base:dx)(n:aj):List cu:=(base.Tables[n.Table.toNat]?).getD []
def uu(n:aj)(base:dx)(a b:List cu)(w:Nat):List cu×Int:=
 if n.Op=1 then(zm base n,0)
 else if n.Op=2 then zA n a b w
 else if n.Op=3 then(if a.any (wn n.Cond)then([],140)else(a.filter (tI n.Cond),0))
 else if n.Op=4 then xU n a
 else if n.Op=5 then(if a.any (II n.Items)then([],140)else(a.map (Kg n.Items),0))
 else if n.Op=6 then(uJ (wX a),0)
 else if n.Op=7 then(a++b,0)
 else(Nn n.Limit (uP (Ht n.Order) a),0)
def Fp(n:aj)(q:List cu×Int):List cu×Int:=if q.2≠0 then([],q.2)else if 8000<q.1.length then([],3)else(if n.Op=8 then q.1 else wX q.1,0)
def iw(n:aj)(base:dx)(a b:List cu)(w:Nat):List cu×Int:=Fp n (uu n base a b w)
theorem Sy{limit:Int}{l:List cu}(h:r∈Nn limit l):r∈l:=by
 unfold Nn at h
 split at h
 ·exact List.mem_of_mem_take h
 ·exact h
def Ic(base:dx)(n:aj)(k:List Int):Prop:=n.Op=1→n.Table.toNat<base.Tables.length∧rQ k (zm base n)∧(zm base n).length≤12
theorem LZ(h:e∈n.Items)(hu:JD e=true):HX n=true:=by
 unfold HX
 rw [ud.2 ⟨e,h,hu⟩]
 simp
variable{base:dx}
theorem Oc{ka kb:List Int}{a b:List cu}(hn:qC n)(hop:F2 n.Op=true)(hk:bt n ka kb=some (k,true))(hka:ka.length≤16)(hkb:kb.length≤16)(hsc:Ic base n k)(ha:rQ ka a)(hb:rQ kb b)(hal:a.length≤8000):
  rQ k (uu n base a b kb.length).1∧((uu n base a b kb.length).2=0∨(uu n base a b kb.length).2=3∨((uu n base a b kb.length).2=140∧HX n=true)):=by
 unfold uu
 rcases qM hop with o|o|o|o|o|o|o|o
 ·rw [aY o]
  exact⟨(hsc o).2.1,.inl rfl⟩
 ·rw [aL (by omega),aY o]
  obtain⟨e,ht⟩:=Og o hk
  subst e
  have hj:Pq n ka kb:=⟨hn.cond,ym ht,hka,hkb⟩
  obtain⟨p1,p2⟩:=Uo hj ha hb
  refine⟨p1,?_⟩
  rcases p2 with q|q|q
  ·exact .inl q
  ·rw [q];exact .inr (.inl rfl)
  ·rw [q.1];exact .inr (.inr ⟨rfl,by unfold HX;rw [q.2];rfl⟩)
 ·rw [aL (by omega),aL (by omega),aY o]
  obtain⟨e,ht⟩:=G6 o hk
  subst e
  by_cases hf:a.any (wn n.Cond)=true
  ·rw [aY hf]
   refine⟨(fun r hr=>by cases hr),.inr (.inr ⟨rfl,?_⟩)⟩
   obtain⟨r,hr,hq⟩:=ud.1 hf
   rcases VT hn.cond (ym ht) (ha r hr)with q|q
   ·rw [q.2.1]at hq;cases hq
   ·unfold HX;rw [Eg q.2.2.2];rfl
  ·rw [aL hf]
   exact⟨fun r hr=>ha r (Gz.1 hr).1,.inl rfl⟩
 ·rw [aL (by omega),aL (by omega),aL (by omega),aY o]
  obtain⟨p1,p2,p3,p4⟩:=Kz hn.small o hk
  subst p3
  have hg:LE n ka:=⟨p1,fun g hg=>⟨hn.args g hg,p2 g hg⟩,hka,by omega,hn.small.aggs⟩
  obtain⟨q1,_,q3⟩:=RS hg ha hal
  refine⟨q1,?_⟩
  rcases q3 with q|q
  ·exact .inl q
  ·rw [q.1];exact .inr (.inr ⟨rfl,by unfold HX;rw [q.2];simp⟩)
 ·rw [aL (by omega),aL (by omega),aL (by omega),aL (by omega),aY o]
  obtain⟨p1,p2⟩:=E4 hn.small o hk
  subst p2
  by_cases hf:a.any (II n.Items)=true
  ·rw [aY hf]
   refine⟨(fun r hr=>by cases hr),.inr (.inr ⟨rfl,?_⟩)⟩
   obtain⟨r,hr,hq⟩:=ud.1 hf
   unfold II at hq
   obtain⟨e,he,hq⟩:=ud.1 hq
   rcases VT (hn.items e he) (p1 e he) (ha r hr)with q|q
   ·rw [q.2.1]at hq;cases hq
   ·exact LZ he (Eg q.2.2.2)
  ·rw [aL hf]
   refine⟨?_,.inl rfl⟩
   intro x hx
   obtain⟨r,hr,e⟩:=ui.1 hx
   rw [←e]
   refine RK.map _ _ _ fun e he=>?_
   rcases VT (hn.items e he) (p1 e he) (ha r hr)with q|q
   ·exact q.2.2
   ·rw [q.2.2.1];exact⟨.z,.inr rfl⟩
 ·rw [aL (by omega),aL (by omega),aL (by omega),aL (by omega),aL (by omega),aY o]
  have e:=KA o hk
  subst e
  exact⟨fun r hr=>ha r ((nW eG a).mem_iff.1 ((yG _ _).1 hr)),.inl rfl⟩
 ·rw [aL (by omega),aL (by omega),aL (by omega),aL (by omega),aL (by omega),aL (by omega),aY o]
  obtain⟨p1,p2,p3⟩:=Rt (by omega) o hk
  refine⟨?_,.inl rfl⟩
  intro r hr
  rcases vM.1 hr with q|q
  ·refine(ha r q).as p2 fun j x z h1 h2=>?_
   have hj:j<kb.length:=by
    have:=jM.1 h1
    obtain⟨h,_⟩:=this
    omega
   exact(p3 j x kb[j] z h1 (oO hj) h2).1
  ·refine(hb r q).as (by omega) fun j y z h1 h2=>?_
   have hj:j<ka.length:=by
    have:=jM.1 h1
    obtain⟨h,_⟩:=this
    omega
   exact(p3 j ka[j] y z (oO hj) h1 h2).2
 ·rw [aL (by omega),aL (by omega),aL (by omega),aL (by omega),aL (by omega),aL (by omega),aL (by omega)]
  obtain⟨p1,_⟩:=Oe hn.small o hk
  subst p1
  exact⟨fun r hr=>ha r ((nW _ a).mem_iff.1 (Sy hr)),.inl rfl⟩
theorem O3{ka kb:List Int}{a b:List cu}(hn:qC n)(hop:F2 n.Op=true)(hk:bt n ka kb=some (k,true))(hka:ka.length≤16)(hkb:kb.length≤16)(hsc:Ic base n k)(ha:rQ ka a)(hb:rQ kb b)(hal:a.length≤8000):
  rQ k (iw n base a b kb.length).1∧(iw n base a b kb.length).1.length≤8000∧((iw n base a b kb.length).2=0∨iw n base a b kb.length=([],3)∨(iw n base a b kb.length=([],140)∧HX n=true)):=by
 obtain⟨p1,p2⟩:=Oc hn hop hk hka hkb hsc ha hb hal
 unfold iw Fp
 by_cases h0:(uu n base a b kb.length).2=0
 ·rw [aL (by simpa using h0)]
  by_cases hl:8000<(uu n base a b kb.length).1.length
  ·rw [aY hl]
   exact⟨(fun r hr=>by cases hr),by simp,.inr (.inl rfl)⟩
  ·rw [aL hl]
   by_cases h8:n.Op=8
   ·rw [aY h8]
    exact⟨p1,by show(uu n base a b kb.length).1.length≤8000;omega,.inl rfl⟩
   ·rw [aL h8]
    exact⟨p1.perm (nW _ _).symm,by show(wX _).length≤8000;rw [vY];omega,.inl rfl⟩
 ·rw [aY h0]
  refine⟨(fun r hr=>by cases hr),by simp,?_⟩
  rcases p2 with q|q|q
  ·exact absurd q h0
  ·rw [q];exact .inr (.inl rfl)
  ·rw [q.1];exact .inr (.inr ⟨rfl,q.2⟩)

def qB{α:Type}(l:List (List α))(i:Int):List α:=if i<0 then []else(l[i.toNat]?).getD []
def BU(ks:Nat→List Int)(i:Int):Nat:=(if i<0 then []else ks i.toNat).length
def gu(base:dx)(ks:Nat→List Int):List aj→List (List cu)→List (List cu)×Int
 |[],rows=>(rows,0)
 |n::t,rows=>if(iw n base (qB rows n.A) (qB rows n.B) (BU ks n.B)).2≠0 then([],(iw n base (qB rows n.A) (qB rows n.B) (BU ks n.B)).2)else gu base ks t (rows++[(iw n base (qB rows n.A) (qB rows n.B) (BU ks n.B)).1])
def xQ(rows:List (List cu)):List cu:=(rows[rows.length-1]?).getD []
def Gs(r:List (List cu)×Int):List cu×Int:=if r.2≠0 then([],r.2)else(xQ r.1,0)
def ld(l:bc)(base:dx)(ks:Nat→List Int):List cu×Int:=Gs (gu base ks l.Nodes [])
structure Gw(ks:Nat→List Int)(rows:List (List cu))(i:Nat):Prop where
 len:rows.length=i
 ok: ∀j,j<i→rQ (ks j) ((rows[j]?).getD [])∧((rows[j]?).getD []).length≤8000
theorem Ov{i:Int}(h:0≤i)(h2:i<(rows.length:Int)):cN rows i=some (qB rows i):=by
 obtain⟨k,hk⟩:=D5 h
 subst hk
 have hk:k<rows.length:=by omega
 unfold qB
 rw [bW,aL (by omega)]
 simp [hk]
theorem Gw.at(h:Gw ks rows i)(hx:x= -1∨0≤x∧x<(i:Int)):rQ (if x<0 then []else ks x.toNat) (qB rows x)∧(qB rows x).length≤8000:=by
 unfold qB
 rcases hx with q|q
 ·rw [aY (by omega),aY (by omega)]
  exact⟨(fun r hr=>by cases hr),by simp⟩
 ·rw [aL (by omega),aL (by omega)]
  exact h.ok x.toNat (by omega)
structure wQ(l:bc)(base:dx)(sz:Nat→Nat)(ks:Nat→List Int):Prop where
 known:Dl l sz ks
 right:iP l=true
 nodes: ∀n∈l.Nodes,qC n
 scan: ∀(j:Nat) (n:aj),cN l.Nodes (j:Int)=some n→Ic base n (ks j)
theorem wQ.small(T:wQ l base sz ks):kQ l:=fun n hn=>(T.nodes n hn).small
structure Xj(l:bc)(base:dx)(ks:Nat→List Int)(rows:List (List cu))(j:Nat)(n:aj)(ka kb:List Int):Prop where
 g:qC n
 op:F2 n.Op=true
 kinds:bt n ka kb=some (ks j,true)
 k16:(ks j).length≤16
 ka16:ka.length≤16
 kb16:kb.length≤16
 scan:Ic base n (ks j)
 a:rQ ka (qB rows n.A)
 al:(qB rows n.A).length≤8000
 b:rQ kb (qB rows n.B)
 bl:(qB rows n.B).length≤8000
 w:BU ks n.B=kb.length
 ia:n.Op≠1→cN rows n.A=some (qB rows n.A)
 ib:n.Op=2∨n.Op=7→cN rows n.B=some (qB rows n.B)∧0≤n.B∧n.B<(j:Int)
theorem Wy(T:wQ l base sz ks)(hj:j<l.Nodes.length)(I:Gw ks rows j): ∃n,cN l.Nodes (j:Int)=some n∧Xj l base ks rows j n (if n.A<0 then []else ks n.A.toNat) (if n.B<0 then []else ks n.B.toNat):=by
 obtain⟨n,F⟩:=T.known.all j hj
 have hmem:n∈l.Nodes:=by
  have:=F.node
  rw [bW]at this
  exact rU this
 obtain⟨pA,pB⟩:=n7 F
 have h16: ∀x:Int,(x= -1∨0≤x∧x<(j:Int))→(if x<0 then([]:List Int)else ks x.toNat).length≤16:=by
  intro x hx
  rcases hx with q|q
  ·rw [aY (by omega)];simp
  ·rw [aL (by omega)]
   obtain⟨m,Fm⟩:=T.known.all x.toNat (by omega)
   exact Fm.len
 refine⟨n,F.node,⟨T.nodes n hmem,F.op,F.kinds,F.len,h16 _ pA,h16 _ pB,T.scan j n F.node,(I.at pA).1,(I.at pA).2,(I.at pB).1,(I.at pB).2,rfl,?_,?_⟩⟩
 ·intro h1
  have:0≤n.A∧n.A<(rows.length:Int):=by
   rw [I.len]
   by_cases h27:n.Op=2∨n.Op=7
   ·have:=F.bi h27;omega
   ·have:=F.un h1 (fun h=>h27 (.inl h)) (fun h=>h27 (.inr h));omega
  exact Ov this.1 this.2
 ·intro h27
  have:=F.bi h27
  have hb:0≤n.B∧n.B<(j:Int):=by omega
  exact⟨Ov hb.1 (by rw [I.len];exact hb.2),hb⟩
abbrev ab9:=cS→aj→Option ((List cu×Int)×cS)
def RB:List (Int×ab9):=dj (dj (dj (dj (dj (dj (dj (dj ([]:List (Int×(cS→aj→Option (((List (List ac))×Int)×cS)))) (1:Int) (fun(mc:cS) (mx:aj)=>(kU mc mx).map fun mr=>(mr,mc))) (2:Int) (fun(mc:cS) (mx:aj)=>(jI mc mx).map fun mr=>(mr,mc))) (3:Int) (fun(mc:cS) (mx:aj)=>(jB mc mx).map fun mr=>(mr,mc))) (4:Int) (fun(mc:cS) (mx:aj)=>(jd mc mx).map fun mr=>(mr,mc))) (5:Int) (fun(mc:cS) (mx:aj)=>(jb mc mx).map fun mr=>(mr,mc))) (6:Int) (fun(mc:cS) (mx:aj)=>(iF mc mx).map fun mr=>(mr,mc))) (7:Int) (fun(mc:cS) (mx:aj)=>(ko mc mx).map fun mr=>(mr,mc))) (8:Int) (fun(mc:cS) (mx:aj)=>(kp mc mx).map fun mr=>(mr,mc))
theorem ZN{ks:List Int}(hr:RK ks r)(h: ∀o∈n.Order,0≤o.Col∧o.Col<(ks.length:Int)):Ww n.Order r=true:=by
 unfold Ww
 rw [jZ]
 intro o ho
 have:=h o ho
 rw [←hr.len]at this
 simp [this.1,this.2]
theorem PQ{ka kb:List Int}(M:Xj l base ks rows j n ka kb)(ob:cS)(hB:ob.Base=base)(hR:ob.rows=rows)(hW: ∀i:Int,0≤i→i<(j:Int)→cN ob.width i=some (BU ks i:Int)):((pw RB n.Op).getD fun _ _=>none) ob n=some (uu n base (qB rows n.A) (qB rows n.B) kb.length,ob):=by
 unfold RB
 rw [Rz]
 have hk:=M.kinds
 unfold uu
 have hsm:=M.a.small M.ka16 M.al
 rcases qM M.op with o|o|o|o|o|o|o|o
 ·rw [aY o,aY o]
  obtain⟨_,t1,t2⟩:=IB o hk
  obtain⟨s1,s2,s3⟩:=M.scan o
  show(kU ob n).map _=_
  unfold kU
  have:cN base.Tables n.Table=some (zm base n):=by
   unfold zm
   rw [gO n.Table.toNat (by omega),oO s1]
   rfl
  rw [hB,this]
  rfl
 ·rw [aL (by omega),aY o,aL (by omega),aY o]
  obtain⟨e,ht⟩:=Og o hk
  have hj:Pq n ka kb:=⟨M.g.cond,ym ht,M.ka16,M.kb16⟩
  obtain⟨b1,b2,b3⟩:=M.ib (.inl o)
  show(jI ob n).map _=_
  rw [Un hj M.a M.b M.al M.bl ob (by rw [hR];exact M.ia (by omega)) (by rw [hR];exact b1) (by rw [hW n.B b2 b3,M.w])]
  rfl
 ·rw [aL (by omega),aL (by omega),aY o,aL (by omega),aL (by omega),aY o]
  obtain⟨e,ht⟩:=G6 o hk
  show(jB ob n).map _=_
  unfold jB
  rw [hR,M.ia (by omega),bf,Cm M.g.cond (ym ht) _ [] M.a (by have:=M.al;simp only [pQ];omega)]
  rfl
 ·rw [aL (by omega),aL (by omega),aL (by omega),aY o,aL (by omega),aL (by omega),aL (by omega),aY o]
  obtain⟨p1,p2,p3,p4⟩:=Kz M.g.small o hk
  have hg:LE n ka:=⟨p1,fun g hg=>⟨M.g.args g hg,p2 g hg⟩,M.ka16,by omega,M.g.small.aggs⟩
  show(jd ob n).map _=_
  rw [RR hg M.a M.al ob (by rw [hR];exact M.ia (by omega))]
  rfl
 ·rw [aL (by omega),aL (by omega),aL (by omega),aL (by omega),aY o,aL (by omega),aL (by omega),aL (by omega),aL (by omega),aY o]
  obtain⟨p1,p2⟩:=E4 M.g.small o hk
  show(jb ob n).map _=_
  unfold jb
  rw [hR,M.ia (by omega),bf,N6 (fun e he=>⟨M.g.items e he,p1 e he⟩) (by have:=M.g.small.items;omega) _ [] M.a (by have:=M.al;simp only [pQ];omega)]
  rfl
 ·rw [aL (by omega),aL (by omega),aL (by omega),aL (by omega),aL (by omega),aY o,aL (by omega),aL (by omega),aL (by omega),aL (by omega),aL (by omega),aY o]
  show(iF ob n).map _=_
  unfold iF
  rw [hR,M.ia (by omega),bf,Dt hsm,M.a.allr M.ka16]
  rfl
 ·rw [aL (by omega),aL (by omega),aL (by omega),aL (by omega),aL (by omega),aL (by omega),aY o,aL (by omega),aL (by omega),aL (by omega),aL (by omega),aL (by omega),aL (by omega),aY o]
  obtain⟨b1,b2,b3⟩:=M.ib (.inr o)
  show(ko ob n).map _=_
  unfold ko
  rw [hR,M.ia (by omega),bf,b1,bf,FW _ _ M.al M.bl]
  rfl
 ·rw [aL (by omega),aL (by omega),aL (by omega),aL (by omega),aL (by omega),aL (by omega),aL (by omega),aY o,aL (by omega),aL (by omega),aL (by omega),aL (by omega),aL (by omega),aL (by omega),aL (by omega)]
  obtain⟨p1,p2⟩:=Oe M.g.small o hk
  show(kp ob n).map _=_
  unfold kp
  have ho:NC n.Order (qB rows n.A):=⟨fun r hr=>(M.a r hr).right M.ka16,fun r hr=>ZN (M.a r hr) p2⟩
  rw [hR,M.ia (by omega),bf,Ct ho (by have:=M.al;omega)]
  rfl
theorem Gw.next(h:Gw ks rows i){r:List cu}(hr:rQ (ks i) r)(hl:r.length≤8000):Gw ks (rows++[r]) (i+1):=by
 have hlen:=h.len
 refine⟨by simp [hlen],fun j hj=>?_⟩
 by_cases hji:j<i
 ·rw [xi (by omega)]
  exact h.ok j hji
 ·have:j=i:=by omega
  subst this
  rw [si (by omega),hlen]
  simpa using ⟨hr,hl⟩
theorem EE{l:bc}{base:dx}{sz:Nat→Nat}{ks:Nat→List Int}(T:wQ l base sz ks): ∀(tl:List aj) (i:Nat) (rows:List (List cu)),l.Nodes.drop i=tl→i≤l.Nodes.length→Gw ks rows i→((gu base ks tl rows).2=0→Gw ks (gu base ks tl rows).1 l.Nodes.length)∧((gu base ks tl rows).2=0∨(gu base ks tl rows).2=3∨((gu base ks tl rows).2=140∧l.Nodes.any HX=true))
 |[],i,rows,hd,hi,I=>by
  have h1:=tR hd
  have h2:i=l.Nodes.length:=by omega
  unfold gu
  exact⟨fun _=>h2▸I,.inl rfl⟩
 |n::t,i,rows,hd,hi,I=>by
  obtain⟨h1,h2,h3⟩:=kM hd
  obtain⟨n',hn',M⟩:=Wy T h2 I
  rw [h1]at hn'
  injection hn' with hn'
  subst hn'
  obtain⟨c1,c2,c3⟩:=O3 (base:=base) M.g M.op M.kinds M.ka16 M.kb16 M.scan M.a M.b M.al
  unfold gu
  rw [M.w]
  by_cases h0:(iw n base (qB rows n.A) (qB rows n.B) (if n.B<0 then []else ks n.B.toNat).length).2=0
  ·rw [aL (by simp [h0])]
   exact EE T t (i+1) _ h3 h2 (I.next c1 c2)
  ·rw [aY h0]
   refine⟨fun h=>absurd h h0,?_⟩
   rcases c3 with q|q|q
   ·exact absurd q h0
   ·rw [q];exact .inr (.inl rfl)
   ·rw [q.1]
    refine .inr (.inr ⟨rfl,ud.2 ⟨n,?_,q.2⟩⟩)
    rw [bW]at h1
    exact rU h1



def KX:List ac→List Int→Bool
 |v::t,k::ks=>(fH v&&(v.Kind==0||v.Kind==k))&&KX t ks
 |[],_=>true
 |_::_,[]=>false
def RZ(kinds:List Int)(r:cu):Bool:=decide (r.length=kinds.length)&&KX r kinds
def KW(rows:List cu)(kinds:List Int):Bool:=decide (rows.length≤12)&&rows.all (RZ kinds)
theorem Fn(kinds:List Int)(nx:Option Bool)(r:cu)(hl:r.length=kinds.length): ∀(n i:Nat),r.length-i=n→i≤r.length→mf kinds nx (r.drop i) i=if KX (r.drop i) (kinds.drop i)then nx else some false
 |0,i,h,hi=>by
  rw [DY (by omega)]
  unfold mf KX
  rfl
 |n+1,i,h,hi=>by
  have hlt:i<r.length:=by omega
  have hlk:i<kinds.length:=by omega
  rw [wV hlt,wV hlk]
  unfold mf KX
  rw [Fn kinds nx r hl n (i+1) (by omega) (by omega),nT,bf,bW,oO hlk]
  simp only [bf]
  have e:(r[i].Kind==0)= !(r[i].Kind !=0):=by rw [bne,Bool.not_not]
  have e2:(r[i].Kind==kinds[i])= !(r[i].Kind !=kinds[i]):=by rw [bne,Bool.not_not]
  rw [e,e2]
  cases fH r[i]<;>cases (r[i].Kind !=0)<;>cases (r[i].Kind !=kinds[i])<;>simp
theorem acl(a b:Nat):((a:Int) !=(b:Int))= !decide (a=b):=by
 rw [AC];simp;omega
theorem Fo(kinds:List Int): ∀rows:List cu,mg kinds rows=some (rows.all (RZ kinds))
 |[]=>rfl
 |r::t=>by
  unfold mg
  rw [acl,zM,RZ,Fo kinds t]
  by_cases h:r.length=kinds.length
  ·have:=Fn kinds (some (t.all (RZ kinds))) r h r.length 0 rfl (lF _)
   rw [y4,y4]at this
   rw [y5 h,this]
   cases KX r kinds<;>simp
  ·rw [xc h];simp
theorem Fx(rows:List cu)(kinds:List Int):rJ rows kinds=some (KW rows kinds):=by
 unfold rJ KW
 rw [Fo]
 by_cases h:rows.length≤12
 ·rw [aL (by rw [kX];omega),y5 h];rfl
 ·rw [aY (by rw [kX];omega),xc h];rfl
end Go.Proofs.YtfhhakidodmdfaaGreatDoor

