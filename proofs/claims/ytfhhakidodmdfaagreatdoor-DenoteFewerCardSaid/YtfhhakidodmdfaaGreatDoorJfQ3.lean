/- cU of this claim: L5, L6, L7, L8, L9, L10, L11, L12, L13, L14, J5, J6, J7, J8, J9, J10, J11, Q1, Q2. -/
import Derived.Test.YtfhhakidodmdfaaGreatDoorJfQ2
import Derived.Test.YtfhhakidodmdfaaGreatDoorJfQ1
import Derived.Laws.RangeAny
import Derived.Shelf.Strings.CaseAny
set_option linter.all false
namespace Go.Proofs.YtfhhakidodmdfaaGreatDoor
open Go

def Fn(op:Int):Bool:=decide (1≤op)&&decide (op≤8)
theorem q6{op:Int}(h:Fn op=true):op=1∨op=2∨op=3∨op=4∨op=5∨op=6∨op=7∨op=8:=by
 simp [Fn]at h;omega
def zF(n:aj):Bool:=(vH n).getD false
variable{n:aj}
theorem sU(n:aj):vH n=some (zF n):=by
 unfold zF vH
 repeat' split
 all_goals rfl
variable{l:bc}{α:Type}
theorem acW(l:List α):((l.length:Int)==0)=l.isEmpty:=by cases l<;>simp<;>omega
theorem YI(l:List α):decide ((0:Int)<(l.length:Int))= !l.isEmpty:=by cases l<;>simp<;>omega
variable{r:ci}
theorem R0(n:aj)(h:Fn n.Op=true):((t8 n).bind fun r=>(t7 r).bind fun r1=>some r1)=some (zF n):=by
 obtain⟨op,A,B,Xi,kinds,left,cond,keys,aggs,items,order,limit⟩:=n
 unfold zF vH t8 t7
 simp only [acW,YI]
 rcases q6 h with h|h|h|h|h|h|h|h<;>simp only at h<;>subst h<;>simp<;>(try (by_cases t:Xi=0<;>simp [t]))<;>(try (by_cases lm:limit=0<;>simp [lm]))<;>(try (cases left<;>simp))<;>(try (by_cases e1:kinds=[]<;>simp [e1]))<;>(try (by_cases e2:cond.Nodes=[]<;>simp [e2]))<;>(try (by_cases e3:keys=[]<;>simp [e3]))<;>(try (by_cases e4:aggs=[]<;>simp [e4]))<;>(try (by_cases e5:items=[]<;>simp [e5]))<;>(try (by_cases e6:order=[]<;>simp [e6]))
variable{e:bJ}{k:List Int}
theorem Sf{β:Type}(f1 f2 f3 f4 f5 f6 f7 f8:β)(k:Int):pH (dw (dw (dw (dw (dw (dw (dw (dw ([]:List (Int×β)) 1 f1) 2 f2) 3 f3) 4 f4) 5 f5) 6 f6) 7 f7) 8 f8) k=
  if k=1 then some f1 else if k=2 then some f2 else if k=3 then some f3 else if k=4 then some f4 else if k=5 then some f5 else if k=6 then some f6 else if k=7 then some f7 else if k=8 then some f8 else none:=by
 have e:dw (dw (dw (dw (dw (dw (dw (dw ([]:List (Int×β)) 1 f1) 2 f2) 3 f3) 4 f4) 5 f5) 6 f6) 7 f7) 8 f8=[(1,f1),(2,f2),(3,f3),(4,f4),(5,f5),(6,f6),(7,f7),(8,f8)]:=rfl
 rw [e]
 simp only [pH,eq_comm (b:=k)]
theorem Fz(op:Int):uP op=some (if op=1 then 0 else if op=2∨op=7 then 2 else 1):=by
 unfold uP qo
 by_cases h1:op=1
 ·simp [h1]
 by_cases h2:op=2
 ·simp [h2]
 by_cases h7:op=7
 ·simp [h7]
 simp [h1,h2,h7]
theorem mh(op:Int):yf op=some (if op=1 then 0 else if op=2∨op=7 then 2 else if Fn op then 1 else -1):=by
 unfold yf tR mg
 by_cases h:Fn op=true
 ·rcases q6 h with rfl|rfl|rfl|rfl|rfl|rfl|rfl|rfl<;>rfl
 ·have h' : ¬(1≤op∧op≤8):=fun hh=>h (by simp [Fn];omega)
  have h1: ¬op=1:=by omega
  have h2: ¬op=2:=by omega
  have h3: ¬op=3:=by omega
  have h4: ¬op=4:=by omega
  have h5: ¬op=5:=by omega
  have h6: ¬op=6:=by omega
  have h7: ¬op=7:=by omega
  have h8: ¬op=8:=by omega
  simp [h1,h2,h3,h4,h5,h6,h7,h8,h]
structure Oo(l:bc)(j:Nat)(f:Int)(ks:List Int)(s:Nat):Prop where
 pos:1≤s
 le:s≤j+1
 fst:f=(j:Int)+1-(s:Int)
 size: ∀fu,j+1<fu→bX fu l (j:Int)=some (s:Int)
 len:ks.length≤16
 kinds: ∀fu,j+1<fu→cj fu l (j:Int)=some (ks,true)
structure MA(l:bc)(i:Nat)(first:List Int)(kinds:List (List Int)):Prop where
 fl:first.length=i
 kl:kinds.length=i
 node: ∀j,j<i→ ∃f ks s,first[j]? =some f∧kinds[j]? =some ks∧Oo l j f ks s
variable{first:List Int}{i j:Nat}{ks:Nat→List Int}
theorem MA.push{kinds:List (List Int)}(h:MA l i first kinds){f:Int}{ks:List Int}{s:Nat}(hn:Oo l i f ks s):MA l (i+1) (first++[f]) (kinds++[ks]):=by
 refine⟨by simp [h.fl],by simp [h.kl],fun j hj=>?_⟩
 by_cases hji:j=i
 ·subst hji
  refine⟨f,ks,s,?_,?_,hn⟩
  ·rw [tA (by rw [h.fl];exact dh _),h.fl,zy];rfl
  ·rw [tA (by rw [h.kl];exact dh _),h.kl,zy];rfl
 ·obtain⟨f',ks',s',h1,h2,h3⟩:=h.node j (by omega)
  exact⟨f',ks',s',by rw [Ao (by rw [h.fl];omega)];exact h1,by rw [Ao (by rw [h.kl];omega)];exact h2,h3⟩
def PT(n:aj)(i:Nat):Prop:=
 (n.Op=1→n.A= -1∧n.B= -1)∧(n.Op≠1→0<i∧0≤n.A∧n.A<i)∧(n.Op=2∨n.Op=7→n.B=(i:Int)-1)∧(n.Op≠1→n.Op≠2→n.Op≠7→n.B= -1)
variable{p:Nat}
theorem vC(l:bc){fu:Nat}(hf:0<fu){p:Int}(h:p<0):bX fu l p=some 0:=by
 obtain⟨fu,rfl⟩: ∃k,fu=k+1:=⟨fu-1,by omega⟩
 unfold bX
 rw [aY (by simp [h])]
theorem Oe{kinds:List (List Int)}(hI:MA l i first kinds)(hn:cN l.Nodes (i:Int)=some n)(hi:i<l.Nodes.length)(hl:l.Nodes.length≤1000)(hop:Fn n.Op=true):
  ∃f ok,j3 ⟨l,kinds,first⟩ (i:Int)=some (f,ok)∧((ok=true∧ ∃s:Nat,1≤s∧s≤i+1∧f=(i:Int)+1-(s:Int)∧(∀fu,i+1<fu→bX fu l (i:Int)=some (s:Int))∧PT n i)∨(ok=false∧ ∀fu,i+1<fu→bX fu l (i:Int)=some 0)):=by
 have hstep: ∀fu,i+1<fu→ ∃fu',fu=fu' +1∧i<fu' :=fun fu h=>⟨fu-1,by omega,by omega⟩
 unfold j3
 simp only [hn,be,Fz]
 by_cases h1:n.Op=1
 ·-- nothing below
  simp only [h1,eg]
  rw [aY (by decide)]
  refine⟨_,_,rfl,?_⟩
  by_cases hAB:n.A= -1∧n.B= -1
  ·refine .inl ⟨by simp [hAB],1,dh _,by omega,by omega,fun fu hf=>?_,⟨fun _=>hAB,fun h=>absurd h1 h,fun h=>by omega,fun h=>absurd h1 h⟩⟩
   obtain⟨fu',rfl,_⟩:=hstep fu hf
   unfold bX
   rw [aK (by simp;omega),hn]
   simp only [be,mh,h1,eg]
   rw [aY (by decide),aY (by simp [hAB])];rfl
  ·have hb:(n.A== -1&&n.B== -1)=false:=by rw [rN];intro h;apply hAB;simpa using h
   refine .inr ⟨hb,fun fu hf=>?_⟩
   obtain⟨fu',rfl,_⟩:=hstep fu hf
   unfold bX
   rw [aK (by simp;omega),hn]
   simp only [be,mh,h1,eg]
   rw [aY (by decide),aK (by rw [hb];decide)]
 ·by_cases h27:n.Op=2∨n.Op=7
  ·-- two below
   simp only [h1,h27,eg,d9]
   rw [aK (by decide),aK (by decide)]
   have hsz: ∀fu,i<fu→bX (fu+1) l (i:Int)=if n.B=(i:Int)-1 then((bX fu) l n.B).bind (fun r2=>if((decide ((0:Int)<r2))&&(n.A==(IntKind.i64.wrap (n.B-r2))))then(((bX fu) l n.A).bind fun r3=>if(decide ((0:Int)<r3))then(some (IntKind.i64.wrap ((IntKind.i64.wrap (r3+r2))+(1:Int))))else(some (0:Int)))else(some (0:Int)))else some 0:=by
    intro fu hfu
    conv=>lhs;unfold bX
    rw [aK (by simp;omega),hn]
    simp only [be,mh,h1,h27,eg,d9]
    rw [aK (by decide),aK (by decide),aY (by decide),cv (n:=(i:Int)-1) (by omega) (by omega)]
    by_cases hB:n.B=(i:Int)-1
    ·rw [aY (by simp [hB]),aY hB]
    ·rw [aK (by simpa using hB),aK hB]
   by_cases hB:n.B=(i:Int)-1∧0<i
   ·have hcond:(!((n.B !=IntKind.i64.wrap ((i:Int)-1))||((i:Int)==0)))=true:=by
     rw [cv (by omega) (by omega)]
     have: ¬((i:Int)=0):=by omega
     simp [hB.1,this];omega
    rw [aY hcond]
    obtain⟨fB,kB,sB,g1,g2,g3⟩:=hI.node (i-1) (by omega)
    have hBi:n.B=((i-1:Nat):Int):=by omega
    have hidx:cN first n.B=some fB:=by rw [hBi,bT];exact g1
    rw [hidx]
    have hfB:=g3.fst
    have hsB:=g3.pos
    have hsB2:=g3.le
    simp only [be]
    rw [cv (n:=fB-1) (by omega) (by omega)]
    by_cases hA:n.A=fB-1∧0≤n.A
    ·rw [aK (by simp [hA.1];omega)]
     obtain⟨fA,kA,sA,q1,q2,q3⟩:=hI.node n.A.toNat (by omega)
     have hidA:cN first n.A=some fA:=by
      rw [show n.A=((n.A.toNat:Nat):Int)from by omega,bT];exact q1
     rw [hidA]
     have hfA:=q3.fst
     have hsA:=q3.pos
     have hsA2:=q3.le
     refine⟨fA,true,rfl,.inl ⟨rfl,sA+sB+1,by omega,by omega,by omega,fun fu hf=>?_,⟨fun h=>absurd h h1,fun _=>⟨hB.2,hA.2,by omega⟩,fun _=>hB.1,fun _ h2 h7=>by rcases h27 with h|h;exact absurd h h2;exact absurd h h7⟩⟩⟩
     obtain⟨fu',rfl,hf'⟩:=hstep fu hf
     rw [hsz fu' hf',aY hB.1]
     have e1:=g3.size fu' (by omega)
     rw [←hBi]at e1
     rw [e1]
     simp only [be]
     rw [cv (n:=n.B-(sB:Int)) (by omega) (by omega),aY (by simp;omega)]
     have e2:=q3.size fu' (by omega)
     rw [show((n.A.toNat:Nat):Int)=n.A from by omega]at e2
     rw [e2]
     simp only [be]
     rw [aY (by simp;omega),cv (n:=(sA:Int)+(sB:Int)) (by omega) (by omega),cv (by omega) (by omega)]
     congr 1
    ·have hb:(n.A !=fB-1||decide (n.A<0))=true:=by
      simp only [pZ,qR,kM]
      by_cases h:n.A=fB-1
      ·exact .inr (by omega)
      ·exact .inl h
     rw [aY hb]
     refine⟨0,false,rfl,.inr ⟨rfl,fun fu hf=>?_⟩⟩
     obtain⟨fu',rfl,hf'⟩:=hstep fu hf
     rw [hsz fu' hf',aY hB.1]
     have e1:=g3.size fu' (by omega)
     rw [←hBi]at e1
     rw [e1]
     simp only [be]
     rw [cv (n:=n.B-(sB:Int)) (by omega) (by omega)]
     by_cases h:n.A=fB-1
     ·rw [aY (by simp;omega),vC l (by omega) (by omega)]
      rfl
     ·rw [aK (by simp;omega)]
   ·have hcond:(!((n.B !=IntKind.i64.wrap ((i:Int)-1))||((i:Int)==0)))=false:=by
     rw [cv (by omega) (by omega)]
     by_cases h:n.B=(i:Int)-1
     ·have:i=0:=by omega
      simp [this]
     ·simp [h]
    rw [hcond]
    simp only [gm,d9,be,Bool.true_or,eg]
    refine⟨0,false,rfl,.inr ⟨rfl,fun fu hf=>?_⟩⟩
    obtain⟨fu',rfl,hf'⟩:=hstep fu hf
    rw [hsz fu' hf']
    by_cases h:n.B=(i:Int)-1
    ·rw [aY h]
     rw [vC l (by omega) (by omega)]
     rfl
    ·rw [aK h]
  ·-- one below
   simp only [h1,h27,d9]
   rw [aK (by decide),aY (by decide)]
   have hsz: ∀fu,i<fu→bX (fu+1) l (i:Int)=if n.A=(i:Int)-1∧n.B= -1 then((bX fu) l n.A).bind (fun r1=>if(decide ((0:Int)<r1))then(some (IntKind.i64.wrap (r1+(1:Int))))else(some (0:Int)))else some 0:=by
    intro fu hfu
    conv=>lhs;unfold bX
    rw [aK (by simp;omega),hn]
    simp only [be,mh,h1,h27,hop,eg,d9]
    rw [aK (by decide),aY (by decide),cv (n:=(i:Int)-1) (by omega) (by omega)]
    by_cases hB:n.A=(i:Int)-1∧n.B= -1
    ·rw [aY (by simp [hB]),aY hB]
    ·rw [aK (by simpa using hB),aK hB]
   rw [cv (by omega) (by omega)]
   by_cases hA:(n.A=(i:Int)-1∧n.B= -1)∧0<i
   ·rw [aK (by simp [hA.1];omega)]
    obtain⟨fA,kA,sA,g1,g2,g3⟩:=hI.node (i-1) (by omega)
    have hAi:n.A=((i-1:Nat):Int):=by omega
    have hidx:cN first n.A=some fA:=by rw [hAi,bT];exact g1
    rw [hidx]
    have hfA:=g3.fst
    have hsA:=g3.pos
    have hsA2:=g3.le
    refine⟨fA,true,rfl,.inl ⟨rfl,sA+1,by omega,by omega,by omega,fun fu hf=>?_,⟨fun h=>absurd h h1,fun _=>⟨hA.2,by omega,by omega⟩,fun h=>absurd h h27,fun _ _ _=>hA.1.2⟩⟩⟩
    obtain⟨fu',rfl,hf'⟩:=hstep fu hf
    rw [hsz fu' hf',aY hA.1]
    have e1:=g3.size fu' (by omega)
    rw [←hAi]at e1
    rw [e1]
    simp only [be]
    rw [aY (by simp;omega),cv (by omega) (by omega)]
    rfl
   ·have hb:(n.A !=(i:Int)-1||n.B != -1||(i:Int)==0)=true:=by
     simp only [pZ,qR,sv]
     by_cases h:n.A=(i:Int)-1
     ·by_cases h' :n.B= -1
      ·exact .inr (by omega)
      ·exact .inl (.inr h')
     ·exact .inl (.inl h)
    rw [aY hb]
    refine⟨0,false,rfl,.inr ⟨rfl,fun fu hf=>?_⟩⟩
    obtain⟨fu',rfl,hf'⟩:=hstep fu hf
    rw [hsz fu' hf']
    by_cases h:n.A=(i:Int)-1∧n.B= -1
    ·rw [aY h,vC l (by omega) (by omega)]
     rfl
    ·rw [aK h]
theorem NI{kinds:List (List Int)}(hI:MA l i first kinds)(hn:cN l.Nodes (i:Int)=some n)(hl:l.Nodes.length≤1000)(hi:i<l.Nodes.length){s:Nat}(hs:1≤s)(hsz: ∀fu,i+1<fu→bX fu l (i:Int)=some (s:Int))(hp:PT n i)(ho:zF n=true)(hop:Fn n.Op=true):
  ∃a b,(n.Op≠1→cN kinds n.A=some a)∧(n.Op=2∨n.Op=7→cN kinds n.B=some b)∧a.length≤16∧b.length≤16∧ ∀fu,i+1<fu→cj fu l (i:Int)=gV l (i:Int) n a b:=by
 obtain⟨p1,p2,p3,p4⟩:=hp
 have hsz0:kS l (i:Int)=some (s:Int):=hsz iN (xJ (Es _) (m4 (by omega)))
 have hu: ∀fu,cj (fu+1) l (i:Int)=if(decide ((0:Int)≤n.A))then(((cj fu) l n.A).bind fun r4=>if(!r4.2)then(some ([],false))else(ez (cj fu) l (i:Int) n r4.1))else(ez (cj fu) l (i:Int) n ([])):=by
  intro fu
  conv=>lhs;unfold cj
  rw [hsz0,hn]
  simp only [be,sU,ho]
  have: ¬(s=0):=by omega
  simp [this]
 by_cases h1:n.Op=1
 ·obtain⟨hA,hB⟩:=p1 h1
  refine⟨[],[],fun h=>absurd h1 h,fun h=>by omega,by simp,by simp,fun fu hf=>?_⟩
  obtain⟨fu,rfl⟩: ∃k,fu=k+1:=⟨fu-1,by omega⟩
  rw [hu,aK (by simp [hA])]
  unfold ez
  rw [aK (by simp [hB])]
 ·obtain⟨hi0,hA0,hAi⟩:=p2 h1
  obtain⟨fA,kA,sA,g1,g2,g3⟩:=hI.node n.A.toNat (by omega)
  have eA:((n.A.toNat:Nat):Int)=n.A:=by omega
  have hkA:cN kinds n.A=some kA:=by rw [←eA,bT];exact g2
  by_cases h27:n.Op=2∨n.Op=7
  ·have hB:=p3 h27
   obtain⟨fB,kB,sB,q1,q2,q3⟩:=hI.node (i-1) (by omega)
   have eB:((i-1:Nat):Int)=n.B:=by omega
   have hkB:cN kinds n.B=some kB:=by rw [←eB,bT];exact q2
   refine⟨kA,kB,fun _=>hkA,fun _=>hkB,g3.len,q3.len,fun fu hf=>?_⟩
   obtain⟨fu,rfl⟩: ∃k,fu=k+1:=⟨fu-1,by omega⟩
   rw [hu,aY (by simpa using hA0)]
   have e1:=g3.kinds fu (by omega)
   rw [eA]at e1
   rw [e1]
   simp only [be,mL,gm,d9]
   unfold ez
   rw [aY (by simp;omega)]
   have e2:=q3.kinds fu (by omega)
   rw [eB]at e2
   rw [e2]
   simp only [be,mL,gm,d9]
  ·have hB:=p4 h1 (fun h=>h27 (.inl h)) (fun h=>h27 (.inr h))
   refine⟨kA,[],fun _=>hkA,fun h=>absurd h h27,g3.len,by simp,fun fu hf=>?_⟩
   obtain⟨fu,rfl⟩: ∃k,fu=k+1:=⟨fu-1,by omega⟩
   rw [hu,aY (by simpa using hA0)]
   have e1:=g3.kinds fu (by omega)
   rw [eA]at e1
   rw [e1]
   simp only [be,mL,gm,d9]
   unfold ez
   rw [aK (by simp [hB])]
theorem FH(hn:cN l.Nodes (i:Int)=some n)(hl:i<1000)(h:(∀fu,i+1<fu→bX fu l (i:Int)=some 0)∨((∃s:Int,∀fu,i+1<fu→bX fu l (i:Int)=some s)∧zF n=false)):rX l (i:Int)=some ([],false):=by
 have hF:i+1<iN:=xJ (Es _) (m4 (by omega))
 have e:iN=(iN-1)+1:=by omega
 unfold rX
 rw [e]
 unfold cj kS
 rcases h with h|⟨⟨s,h⟩,ho⟩
 ·rw [h _ hF];simp
 ·rw [h _ hF,hn]
  simp only [be,sU,ho]
  by_cases hs:s=0<;>simp [hs]

def lQ(l:bc):Prop:= ∀n∈l.Nodes,iv n
abbrev acK:=aE→aj→Option (((List Int)×Bool)×aE)
def Dn:List (Int×acK):=(dw (dw (dw (dw (dw (dw (dw (dw ([]:List (Int×(aE→aj→Option (((List Int)×Bool)×aE)))) (1:Int) (fun(mc:aE) (mx:aj)=>(gb mc mx).map fun mr=>(mr,mc))) (2:Int) (fun(mc:aE) (mx:aj)=>(g9 mc mx).map fun mr=>(mr,mc))) (3:Int) (fun(mc:aE) (mx:aj)=>(gc mc mx).map fun mr=>(mr,mc))) (4:Int) (fun(mc:aE) (mx:aj)=>(gK mc mx).map fun mr=>(mr,mc))) (5:Int) (fun(mc:aE) (mx:aj)=>(fH mc mx).map fun mr=>(mr,mc))) (6:Int) (fun(mc:aE) (mx:aj)=>(fd mc mx).map fun mr=>(mr,mc))) (7:Int) (fun(mc:aE) (mx:aj)=>(gI mc mx).map fun mr=>(mr,mc))) (8:Int) (fun(mc:aE) (mx:aj)=>(gJ mc mx).map fun mr=>(mr,mc)))
theorem Sh(op:Int):(pH Dn op).isSome=Fn op:=by
 unfold Dn
 rw [Sf]
 by_cases h:Fn op=true
 ·rw [h]
  rcases q6 h with rfl|rfl|rfl|rfl|rfl|rfl|rfl|rfl<;>rfl
 ·rw [rN.2 h]
  have h' : ¬(1≤op∧op≤8):=fun hh=>h (by simp [Fn];omega)
  have h1: ¬op=1:=by omega
  have h2: ¬op=2:=by omega
  have h3: ¬op=3:=by omega
  have h4: ¬op=4:=by omega
  have h5: ¬op=5:=by omega
  have h6: ¬op=6:=by omega
  have h7: ¬op=7:=by omega
  have h8: ¬op=8:=by omega
  simp [h1,h2,h3,h4,h5,h6,h7,h8]
theorem QB(c:aE)(n:aj)(a b:List Int)(hn:iv n)(hop:Fn n.Op=true)(ha:n.Op≠1→cN c.kinds n.A=some a)(hb:n.Op=2∨n.Op=7→cN c.kinds n.B=some b)(hal:a.length≤16)(hbl:b.length≤16):
  ∃k o k',((pH Dn n.Op).getD (fun _ _=>none)) c n=some ((k,o&&(if n.Op=8 then(c.kinds.length:Int)==IntKind.i64.wrap ((c.Logic.Nodes.length:Int)-(1:Int))else true)),c)∧bo n a b=some (k',o)∧(o=true→k=k'):=by
 have go: ∀(m:Option (List Int×Bool)) (last:Bool),B6 m (bo n a b) last→((pH Dn n.Op).getD (fun _ _=>none)) c n=m.map (fun mr=>(mr,c))→(if n.Op=8 then(c.kinds.length:Int)==IntKind.i64.wrap ((c.Logic.Nodes.length:Int)-(1:Int))else true)=last→ ∃k o k',((pH Dn n.Op).getD (fun _ _=>none)) c n=some ((k,o&&(if n.Op=8 then(c.kinds.length:Int)==IntKind.i64.wrap ((c.Logic.Nodes.length:Int)-(1:Int))else true)),c)∧bo n a b=some (k',o)∧(o=true→k=k'):=by
  intro m last ⟨k,o,k',h1,h2,h3⟩ he hl
  exact⟨k,o,k',by rw [he,h1,hl];rfl,h2,h3⟩
 unfold Dn at go ⊢
 rw [Sf]at go ⊢
 rcases q6 hop with h|h|h|h|h|h|h|h
 ·exact go _ _ (Hn c n a b hn h) (by simp [h]) (by simp [h])
 ·exact go _ _ (QI c n a b hn h (ha (by omega)) (hb (.inl h)) hal hbl) (by simp [h]) (by simp [h])
 ·exact go _ _ (LD c n a b hn h (ha (by omega))) (by simp [h]) (by simp [h])
 ·exact go _ _ (NJ c n a b hn h (ha (by omega))) (by simp [h]) (by simp [h])
 ·exact go _ _ (IN c n a b hn h (ha (by omega))) (by simp [h]) (by simp [h])
 ·exact go _ _ (GT c n a b h (ha (by omega))) (by simp [h]) (by simp [h])
 ·exact go _ _ (MI c n a b h (ha (by omega)) (hb (.inr h)) hal) (by simp [h]) (by simp [h])
 ·exact go _ _ (Nq c n a b hn h (ha (by omega))) (by simp [h]) (by simp [h])
variable{x:Int}
theorem Qz{Sg:Type}(yld:(Int×Bool)→Sg→Option (Bool×Sg)){kinds:List (List Int)}(hI:MA l i first kinds){tl:List aj}(hd:l.Nodes.drop i=n::tl)(hS:lQ l)(hl:l.Nodes.length≤60)(st:Sg):
  ∃first' kinds' ok,bF yld (n::tl) i st ⟨l,kinds,first⟩=((yld ((i:Int),ok) st).bind fun r2=>if((!r2.1)||(!ok))then some (r2.2,⟨l,kinds',first'⟩)else bF yld tl (i+1) r2.2 ⟨l,kinds',first'⟩)∧(∃x,rX l (i:Int)=some (x,ok))∧(ok=true→MA l (i+1) first' kinds'):=by
 obtain⟨hn,hi,_⟩:=kj hd
 have hfl:=hI.fl
 have hkl:=hI.kl
 have hSn:iv n:=hS n (by
  rw [bT]at hn
  exact rO hn)
 have hF:i+1<iN:=xJ (Es _) (m4 (by omega))
 have hu:bF yld (n::tl) i st ⟨l,kinds,first⟩=(if(pH Dn n.Op).isSome then((t8 n).bind fun r=>(t7 r).bind fun r1=>some r1)else some false).bind fun t=>if t then((j3 ⟨l,kinds,first⟩ (i:Int)).bind fun r4=>(app first ([r4.1])).bind fun l7=>d5 yld (bF yld tl) i n st r4.2 ⟨l,kinds,l7⟩)else(d5 yld (bF yld tl) i n st t ⟨l,kinds,first⟩):=rfl
 rw [hu,Sh]
 have hk2: ∀(ok1:Bool) (k:List Int) (f' :List Int),gz yld (bF yld tl) i st ok1 k ⟨l,kinds,f'⟩=((yld ((i:Int),ok1&&decide (k.length≤16)) st).bind fun r2=>if((!r2.1)||(!(ok1&&decide (k.length≤16))))then some (r2.2,⟨l,kinds++[k],f'⟩)else bF yld tl (i+1) r2.2 ⟨l,kinds++[k],f'⟩):=by
  intro ok1 k f'
  unfold gz
  rw [cq (by simp;omega)]
  have:decide ((k.length:Int)≤16)=decide (k.length≤16):=by rw [AZ];simp;omega
  simp only [be,this]
 have hk1: ∀(f' :List Int),d5 yld (bF yld tl) i n st false ⟨l,kinds,f'⟩=((yld ((i:Int),false) st).bind fun r2=>if((!r2.1)||(!false))then some (r2.2,⟨l,kinds++[[]],f'⟩)else bF yld tl (i+1) r2.2 ⟨l,kinds++[[]],f'⟩):=by
  intro f'
  unfold d5
  rw [aK (by decide),hk2]
  rfl
 by_cases hop:Fn n.Op=true
 ·rw [aY hop,R0 n hop]
  simp only [be]
  obtain⟨f,ok,hb1,hb2⟩:=Oe hI hn hi (by omega) hop
  cases ho:zF n with
  |false=>
   simp only [gm,d9]
   rw [hk1]
   refine⟨first,kinds++[[]],false,rfl,⟨[],FH hn (by omega) (.inr ⟨?_,ho⟩)⟩,by simp⟩
   rcases hb2 with⟨_,s,_,_,_,h,_⟩|⟨_,h⟩
   ·exact⟨s,h⟩
   ·exact⟨0,h⟩
  |true=>
   simp only [eg]
   rw [hb1]
   simp only [be]
   rw [cq (by simp;omega)]
   simp only [be]
   rcases hb2 with⟨hok,s,hs,hs2,hf,hsz,hp⟩|⟨hok,h⟩
   ·subst hok
    obtain⟨a,b,ha,hb,hal,hbl,hK⟩:=NI hI hn (by omega) hi hs hsz hp ho hop
    obtain⟨k,o,k',m1,m2,m3⟩:=QB ⟨l,kinds,first++[f]⟩ n a b hSn hop ha hb hal hbl
    have hk1' :d5 yld (bF yld tl) i n st true ⟨l,kinds,first++[f]⟩=((((pH Dn n.Op).getD (fun _ _=>none)) ⟨l,kinds,first++[f]⟩ n).bind fun r3=>gz yld (bF yld tl) i st r3.1.2 r3.1.1 r3.2):=rfl
    rw [hk1',m1]
    simp only [be]
    rw [hk2]
    have hlast:((kinds.length:Int)==IntKind.i64.wrap ((l.Nodes.length:Int)-1))=((i:Int)==IntKind.i64.wrap ((l.Nodes.length:Int)-1)):=by rw [hkl]
    have hKk: ∀fu,i+1<fu→ ∃x,cj fu l (i:Int)=some (x,(o&&(if n.Op=8 then(kinds.length:Int)==IntKind.i64.wrap ((l.Nodes.length:Int)-(1:Int))else true))&&decide (k.length≤16))∧(((o&&(if n.Op=8 then(kinds.length:Int)==IntKind.i64.wrap ((l.Nodes.length:Int)-(1:Int))else true))&&decide (k.length≤16))=true→x=k):=by
     intro fu hf
     rw [hK fu hf]
     unfold gV
     rw [m2]
     simp only [be]
     rw [hlast]
     cases o with
     |false=>
      simp only [Ev]
      split
      ·exact⟨_,rfl,by simp⟩
      ·exact⟨_,rfl,by simp⟩
     |true=>
      have:=m3 rfl
      subst this
      simp only [u9]
      by_cases h8:n.Op=8
      ·by_cases hL:(i:Int)=IntKind.i64.wrap ((l.Nodes.length:Int)-1)
       ·by_cases h16:k.length≤16
        ·rw [aK (by simp [←hL];omega)]
         exact⟨k,by simp [h8,hL,h16],fun _=>rfl⟩
        ·rw [aY (by simp;omega)]
         exact⟨[],by simp [h16],by simp [h16]⟩
       ·rw [aY (by simp [h8,hL])]
        exact⟨[],by simp [h8,hL],by simp [h8,hL]⟩
      ·by_cases h16:k.length≤16
       ·rw [aK (by simp [h8];omega)]
        exact⟨k,by simp [h8,h16],fun _=>rfl⟩
       ·rw [aY (by simp;omega)]
        exact⟨[],by simp [h16],by simp [h16]⟩
    refine⟨first++[f],kinds++[k],_,rfl,?_,fun hok=>?_⟩
    ·obtain⟨x,h1,_⟩:=hKk iN hF
     exact⟨x,h1⟩
    ·refine hI.push (s:=s) ⟨hs,hs2,hf,hsz,?_,fun fu hfu=>?_⟩
     ·simp at hok;exact hok.2
     ·obtain⟨x,h1,h2⟩:=hKk fu hfu
      rw [h1,h2 hok,hok]
   ·subst hok
    rw [hk1]
    exact⟨first++[f],kinds++[[]],false,rfl,⟨[],FH hn (by omega) (.inl h)⟩,by simp⟩
 ·rw [aK hop]
  simp only [be,gm,d9]
  rw [hk1]
  refine⟨first,kinds++[[]],false,rfl,⟨[],FH hn (by omega) (.inl fun fu hf=>?_)⟩,by simp⟩
  obtain⟨fu,rfl⟩: ∃k,fu=k+1:=⟨fu-1,by omega⟩
  unfold bX
  rw [aK (by simp;omega),hn]
  simp only [be,mh]
  have h1: ¬n.Op=1:=fun h=>hop (by rw [h];rfl)
  have h2: ¬n.Op=2:=fun h=>hop (by rw [h];rfl)
  have h7: ¬n.Op=7:=fun h=>hop (by rw [h];rfl)
  simp [h1,h2,h7,hop]
theorem UW(hS:lQ l)(hl:l.Nodes.length≤60): ∀(tl:List aj) (i:Nat) (first:List Int) (kinds:List (List Int)),MA l i first kinds→l.Nodes.drop i=tl→i+tl.length=l.Nodes.length→
  ∃st ob,bF (xm (fun x s=>pg x s.1 s.2.1 s.2.2)) tl i (none,(false,(0:Int),false)) ⟨l,kinds,first⟩=some (st,ob)∧ob.Logic=l∧
   ((st=(none,(false,(0:Int),false))∧MA l l.Nodes.length ob.first ob.kinds∧fh l tl i=fh l [] l.Nodes.length)∨(∃j:Nat,st=(some 0,(false,(j:Int),true))∧fh l tl i=some (j:Int))):=by
 intro tl
 induction tl with
 |nil=>
  intro i first kinds hI hd hi
  simp only [pY,xD]at hi
  subst hi
  exact⟨_,_,rfl,rfl,.inl ⟨rfl,hI,rfl⟩⟩
 |cons n tl ih=>
  intro i first kinds hI hd hi
  simp only [iY]at hi
  obtain⟨f',k',ok,h1,⟨x,h2⟩,h3⟩:=Qz (xm (fun x s=>pg x s.1 s.2.1 s.2.2)) hI hd hS hl (none,(false,(0:Int),false))
  rw [h1]
  have hW:fh l (n::tl) i=if(!ok)then some (i:Int)else fh l tl (i+1):=by
   conv=>lhs;unfold fh
   rw [h2];rfl
  rw [hW]
  cases ok with
  |false=>exact⟨_,_,rfl,rfl,.inr ⟨i,rfl,rfl⟩⟩
  |true=>
   obtain⟨st,ob,g1,g2,g3⟩:=ih (i+1) f' k' (h3 rfl) (kj hd).2.2 (by omega)
   refine⟨st,ob,?_,g2,?_⟩
   ·exact g1
   ·simpa using g3
theorem MA.nil(l:bc):MA l 0 [] []:=⟨rfl,rfl,fun j h=>absurd h (Nat.not_lt_zero _)⟩
structure TT(l:bc)(ob:aE):Prop where
 logic:ob.Logic=l
 pos:1≤l.Nodes.length
 le:l.Nodes.length≤60
 inv:MA l l.Nodes.length ob.first ob.kinds
 whole:kS l ((l.Nodes.length:Int)-1)=some (l.Nodes.length:Int)
theorem UX(hS:lQ l): ∃ob j ok,pI l=some (ob,j,ok)∧rW l=some (if ok then -1 else j)∧(0≤j)∧(ok=true→TT l ob∧j=(l.Nodes.length:Int)-1):=by
 unfold pI rW
 by_cases h:l.Nodes.length<1∨60<l.Nodes.length
 ·rw [aY (by simp;omega),aY (by simp;omega)]
  exact⟨_,_,_,rfl,rfl,Int.le_refl _,by simp⟩
 ·rw [aK (by simp;omega),aK (by simp;omega)]
  unfold qp
  simp only [be]
  unfold lV
  obtain⟨st,ob,h1,h2,h3⟩:=UW hS (by omega) l.Nodes 0 [] [] (MA.nil l) rfl (by simp)
  have h1' :bF (xm (fun x s=>pg x s.1 s.2.1 s.2.2)) (⟨l,[],[]⟩:aE).Logic.Nodes 0 (none,(false,(0:Int),false)) ⟨l,[],[]⟩=some (st,ob):=h1
  rw [h1']
  simp only [be]
  rcases h3 with⟨rfl,hI,hW⟩|⟨j,rfl,hW⟩
  ·simp only [Option.isNone_none,eg]
   rw [cv (by omega) (by omega)]
   obtain⟨f,ks,s,g1,g2,g3⟩:=hI.node (l.Nodes.length-1) (by omega)
   have e:((l.Nodes.length-1:Nat):Int)=(l.Nodes.length:Int)-1:=by omega
   have hid:cN ob.first ((l.Nodes.length:Int)-1)=some f:=by rw [←e,bT];exact g1
   rw [hid]
   simp only [be]
   have hsz:kS l ((l.Nodes.length:Int)-1)=some (s:Int):=by
    have:=g3.size iN (xJ (Es _) (m4 (by omega)))
    rw [e]at this;exact this
   have hf:=g3.fst
   refine⟨_,_,_,rfl,?_,by omega,fun hok=>?_⟩
   ·rw [hW]
    unfold fh
    rw [cv (by omega) (by omega),hsz]
    simp only [be]
    by_cases hs:s=l.Nodes.length
    ·rw [aK (by simp [hs]),aY (by simp;omega)]
    ·rw [aY (by simp;omega),aK (by simp;omega)]
   ·have hs:s=l.Nodes.length:=by simp at hok;omega
    exact⟨⟨h2,by omega,by omega,hI,by rw [hsz,hs]⟩,rfl⟩
  ·simp only [Option.isNone_some,gm,d9]
   refine⟨ob,(j:Int),false,rfl,by rw [hW];rfl,by omega,by simp⟩

theorem vR{n:Nat}(h:n≤900000):n<iN:=xJ (Es _) (m4 (by omega))
def Cd(d x:Int):Int:=if 0≤x then IntKind.i64.wrap (x+d)else x
def yb(d:Int)(n:aj):aj:={n with A:=Cd d n.A,B:=Cd d n.B}
theorem iv.sh(h:iv n)(d:Int):iv (yb d n):=⟨h.cond,h.kinds,h.keys,h.aggs,h.items,h.order,h.args,h.exprs⟩
theorem iv.at(h:iv n)(a b:Int):iv {n with A:=a,B:=b}:=⟨h.cond,h.kinds,h.keys,h.aggs,h.items,h.order,h.args,h.exprs⟩
theorem set_same{xs:List α}{e:α}(h:xs[i]? =some e):xs.set i e=xs:=by
 apply JT
 intro j
 rw [List.getElem?_set]
 split
 ·rename_i hj;subst hj
  split
  ·exact h.symm
  ·rename_i h2;rw [Ez (by omega)]
 ·rfl
theorem s5(h:iv n):nu n=some n:=by
 have hK:=h.kinds
 have hk:=h.keys
 have hA:=h.aggs
 have hI:=h.items
 have hO:=h.order
 have hc:=h.cond
 have hcl: ∀{l:List bp},l.length≤5000→cn l=some l:=fun{l} hl=>by
  unfold cn;rw [cq (by simp;omega)];rfl
 unfold nu
 rw [s7 _ (by omega),s7 _ (by omega)]
 simp only [be]
 have e1:d4 n.Order=some n.Order:=by unfold d4;rw [cq (by simp;omega)];rfl
 rw [e1]
 simp only [be]
 rw [hcl hc]
 simp only [be]
 have e2:fg n.Aggs=some n.Aggs:=by unfold fg;rw [cq (by simp;omega)];rfl
 rw [e2]
 simp only [be]
 have e3:ep n.Items=some n.Items:=by unfold ep;rw [cq (by simp;omega)];rfl
 rw [e3]
 simp only [be]
 have key2: ∀(tl:List bJ) (i:Nat),n.Items.drop i=tl→(∀e∈tl,e.Nodes.length≤5000)→nr tl i n=some n:=by
  intro tl
  induction tl with
  |nil=>intro i _ _;rfl
  |cons x tl ih=>
   intro i hd hs
   obtain⟨h1,h2,h3⟩:=kj hd
   unfold nr
   rw [h1]
   simp only [be]
   rw [hcl (hs x (kZ ..))]
   simp only [be,A2]
   rw [bT]at h1
   have e4:n.Items.set i ({x with Nodes:=x.Nodes}:bJ)=n.Items:=set_same h1
   rw [e4]
   exact ih (i+1) h3 (fun e he=>hs e (kN _ he))
 have key1: ∀(tl:List hU) (i:Nat),n.Aggs.drop i=tl→(∀e∈tl,e.Arg.Nodes.length≤5000)→nt tl i n=some n:=by
  intro tl
  induction tl with
  |nil=>intro i _ _;exact key2 n.Items 0 rfl h.exprs
  |cons x tl ih=>
   intro i hd hs
   obtain⟨h1,h2,h3⟩:=kj hd
   unfold nt
   rw [h1]
   simp only [be]
   rw [hcl (hs x (kZ ..))]
   simp only [be,A2]
   rw [bT]at h1
   have e4:n.Aggs.set i ({x with Arg:=({x.Arg with Nodes:=x.Arg.Nodes}:bJ)}:hU)=n.Aggs:=set_same h1
   rw [e4]
   exact ih (i+1) h3 (fun e he=>hs e (kN _ he))
 exact key1 n.Aggs 0 rfl h.args
theorem sD(h:iv n)(d:Int):oT n d=some (yb d n):=by
 unfold oT pr yb Cd
 by_cases hA:0≤n.A<;>by_cases hB:0≤n.B
 ·rw [aY (by simpa using hA),aY (by simpa using hB),aY hA,aY hB]
  exact s5 (h.at _ _)
 ·rw [aY (by simpa using hA),aK (by simpa using hB),aY hA,aK hB]
  exact s5 (h.at _ _)
 ·rw [aK (by simpa using hA),aY (by simpa using hB),aK hA,aY hB]
  exact s5 (h.at _ _)
 ·rw [aK (by simpa using hA),aK (by simpa using hB),aK hA,aK hB]
  exact s5 (h.at _ _)
def ip(l:bc):Bool:=decide ((rW l).getD 0<0)
theorem rU(h:lQ l):Dk l=some (ip l)∧(∃j,mG l=some (if ip l then(0,0)else(j,230)))∧(∃ob j,pI l=some (ob,j,ip l)∧(ip l=true→TT l ob∧j=(l.Nodes.length:Int)-1)):=by
 obtain⟨ob,j,ok,h1,h2,h3,h4⟩:=UX h
 have e:ip l=ok:=by
  unfold ip
  rw [h2]
  cases ok<;>simp<;>omega
 refine⟨?_,⟨j,?_⟩,ob,j,?_⟩
 ·unfold Dk ip
  rw [h2];rfl
 ·unfold mG
  rw [h1,e]
  cases ok<;>rfl
 ·rw [e]
  exact⟨h1,h4⟩
theorem Bk(hA:n.A≤100000)(hB:n.B≤100000):yb 0 n=n:=by
 have h: ∀x:Int,x≤100000→Cd 0 x=x:=by
  intro x hx
  unfold Cd
  by_cases h:0≤x
  ·rw [aY h,Int.add_zero,cv (by omega) (by omega)]
  ·rw [aK h]
 unfold yb
 rw [h _ hA,h _ hB]
theorem US{d:Int}{ns:List aj}(h: ∀n∈ns,iv n): ∀n∈ns.map (yb d),iv n:=by
 intro n hn
 obtain⟨m,hm,rfl⟩:=vq.1 hn
 exact(h m hm).sh d

structure vl(l:bc)(sz:Nat→Nat)(ks:Nat→List Int)(j:Nat)(n:aj):Prop where
 node:cN l.Nodes (j:Int)=some n
 op:Fn n.Op=true
 own:zF n=true
 lf:n.Op=1→n.A= -1∧n.B= -1∧sz j=1
 un:n.Op≠1→n.Op≠2→n.Op≠7→0<j∧n.A=(j:Int)-1∧n.B= -1∧sz j=sz (j-1)+1
 bi:n.Op=2∨n.Op=7→0<j∧n.B=(j:Int)-1∧sz (j-1)<j∧n.A=(j:Int)-1-(sz (j-1):Int)∧sz j=sz (j-1-sz (j-1))+sz (j-1)+1
 kinds:bo n (if n.A<0 then []else ks n.A.toNat) (if n.B<0 then []else ks n.B.toNat)=some (ks j,true)
 last:n.Op=8→j+1=l.Nodes.length
 len:(ks j).length≤16
 pos:1≤sz j
 le:sz j≤j+1
theorem Hk(hn:cN l.Nodes (j:Int)=some n)(hj:j<l.Nodes.length)(hl:l.Nodes.length≤1000)(fu:Nat):bX (fu+1) l (j:Int)=
  if n.Op=1 then(if n.A= -1∧n.B= -1 then some 1 else some 0)
  else if n.Op=2∨n.Op=7 then(if n.B=(j:Int)-1 then((bX fu) l n.B).bind (fun r2=>if((decide ((0:Int)<r2))&&(n.A==(IntKind.i64.wrap (n.B-r2))))then(((bX fu) l n.A).bind fun r3=>if(decide ((0:Int)<r3))then(some (IntKind.i64.wrap ((IntKind.i64.wrap (r3+r2))+(1:Int))))else(some (0:Int)))else(some (0:Int)))else some 0)
  else if Fn n.Op=true then(if n.A=(j:Int)-1∧n.B= -1 then((bX fu) l n.A).bind (fun r1=>if(decide ((0:Int)<r1))then(some (IntKind.i64.wrap (r1+(1:Int))))else(some (0:Int)))else some 0)
  else some 0:=by
 conv=>lhs;unfold bX
 rw [aK (by simp;omega),hn]
 simp only [be,mh]
 by_cases h1:n.Op=1
 ·simp only [h1,eg]
  rw [aY (by decide)]
  by_cases hAB:n.A= -1∧n.B= -1
  ·rw [aY hAB,aY (by simp [hAB])]
  ·rw [aK hAB,aK (by simpa using hAB)]
 by_cases h27:n.Op=2∨n.Op=7
 ·simp only [h1,h27,eg,d9]
  rw [aK (by decide),aK (by decide),aY (by decide),cv (n:=(j:Int)-1) (by omega) (by omega)]
  by_cases hB:n.B=(j:Int)-1
  ·rw [aY (by simp [hB]),aY hB]
  ·rw [aK (by simpa using hB),aK hB]
 by_cases hop:Fn n.Op=true
 ·simp only [h1,h27,hop,eg,d9]
  rw [aK (by decide),aY (by decide),cv (n:=(j:Int)-1) (by omega) (by omega)]
  by_cases hB:n.A=(j:Int)-1∧n.B= -1
  ·rw [aY (by simp [hB]),aY hB]
  ·rw [aK (by simpa using hB),aK hB]
 ·simp only [h1,h27,hop,d9]
  rw [aK (by decide),aK (by decide),aK (by decide)]
  rfl
theorem BC{s:Int}(hn:cN l.Nodes (j:Int)=some n)(hs:kS l (j:Int)=some s)(hs0:s≠0)(ho:zF n=true)(fu:Nat):cj (fu+1) l (j:Int)=if(decide ((0:Int)≤n.A))then(((cj fu) l n.A).bind fun r4=>if(!r4.2)then(some ([],false))else(ez (cj fu) l (j:Int) n r4.1))else(ez (cj fu) l (j:Int) n ([])):=by
 conv=>lhs;unfold cj
 rw [hs,hn]
 simp only [be,sU,ho]
 have:(s==0)=false:=by simpa using hs0
 simp [this]
def xB(first:List Int)(j:Nat):Nat:=((j:Int)+1-(first[j]?).getD 0).toNat
def NH(kinds:List (List Int))(j:Nat):List Int:=(kinds[j]?).getD []
theorem MA.at{kinds:List (List Int)}(h:MA l i first kinds)(hj:j<i):Oo l j ((j:Int)+1-(xB first j:Int)) (NH kinds j) (xB first j)∧first[j]? =some ((j:Int)+1-(xB first j:Int)):=by
 obtain⟨f,k,s,h1,h2,h3⟩:=h.node j hj
 have e1:NH kinds j=k:=by unfold NH;rw [h2];rfl
 have hf:=h3.fst
 have hp:=h3.pos
 have e2:xB first j=s:=by unfold xB;rw [h1];simp only [G3];omega
 rw [e1,e2,←hf]
 exact⟨h3,h1⟩
theorem LF{kinds:List (List Int)}(hI:MA l l.Nodes.length first kinds)(hl:l.Nodes.length≤60)(hj:j<l.Nodes.length): ∃n,vl l (xB first) (NH kinds) j n:=by
 obtain⟨N0,_⟩:=hI.at hj
 have hn:cN l.Nodes (j:Int)=some l.Nodes[j]:=by rw [bT,oM hj]
 obtain⟨n,hnn⟩: ∃n,n=l.Nodes[j]:=⟨_,rfl⟩
 rw [←hnn]at hn
 have hpos:=N0.pos
 have hsz:=N0.size (j+3) (by omega)
 rw [Hk hn hj (by omega)]at hsz
 have hnone: ∀{x:Int},x=0→ ¬(some x=some (xB first j:Int)):=by
  intro x hx h
  injection h with h
  omega
 -- the places
 have P:Fn n.Op=true∧(n.Op=1→n.A= -1∧n.B= -1∧xB first j=1)∧(n.Op≠1→n.Op≠2→n.Op≠7→0<j∧n.A=(j:Int)-1∧n.B= -1∧xB first j=xB first (j-1)+1)∧(n.Op=2∨n.Op=7→0<j∧n.B=(j:Int)-1∧xB first (j-1)<j∧n.A=(j:Int)-1-(xB first (j-1):Int)∧xB first j=xB first (j-1-xB first (j-1))+xB first (j-1)+1):=by
  by_cases h1:n.Op=1
  ·rw [aY h1]at hsz
   by_cases hAB:n.A= -1∧n.B= -1
   ·rw [aY hAB]at hsz
    injection hsz with hsz
    exact⟨by rw [h1];rfl,fun _=>⟨hAB.1,hAB.2,by omega⟩,fun h=>absurd h1 h,fun h=>by omega⟩
   ·rw [aK hAB]at hsz;exact absurd hsz (hnone rfl)
  rw [aK h1]at hsz
  by_cases h27:n.Op=2∨n.Op=7
  ·rw [aY h27]at hsz
   by_cases hB:n.B=(j:Int)-1
   ·rw [aY hB]at hsz
    by_cases hj0:j=0
    ·rw [vC l (by omega) (by omega)]at hsz
     exact absurd hsz (hnone rfl)
    ·obtain⟨NB,_⟩:=hI.at (j:=j-1) (by omega)
     have eB:((j-1:Nat):Int)=n.B:=by omega
     have hszB:=NB.size (j+2) (by omega)
     have hpB:=NB.pos
     have hlB:=NB.le
     rw [eB]at hszB
     rw [hszB]at hsz
     simp only [be]at hsz
     rw [cv (n:=n.B-_) (by omega) (by omega)]at hsz
     by_cases hA:n.A=n.B-(xB first (j-1):Int)
     ·rw [aY (by simp [hA];omega)]at hsz
      by_cases hA0:n.A<0
      ·rw [vC l (by omega) hA0]at hsz
       exact absurd hsz (hnone rfl)
      ·obtain⟨NA,_⟩:=hI.at (j:=j-1-xB first (j-1)) (by omega)
       have eA:((j-1-xB first (j-1):Nat):Int)=n.A:=by omega
       have hszA:=NA.size (j+2) (by omega)
       have hpA:=NA.pos
       have hlA:=NA.le
       rw [eA]at hszA
       rw [hszA]at hsz
       simp only [be]at hsz
       rw [aY (by simp;omega),cv (n:=(xB first (j-1-xB first (j-1)):Int)+(xB first (j-1):Int)) (by omega) (by omega),cv (by omega) (by omega)]at hsz
       injection hsz with hsz
       refine⟨?_,fun h=>absurd h h1,fun _ h2 h7=>by rcases h27 with h|h;exact absurd h h2;exact absurd h h7,fun _=>⟨by omega,hB,by omega,by omega,by omega⟩⟩
       rcases h27 with h|h<;>rw [h]<;>rfl
     ·rw [aK (by simp;intro _;exact hA)]at hsz
      exact absurd hsz (hnone rfl)
   ·rw [aK hB]at hsz;exact absurd hsz (hnone rfl)
  rw [aK h27]at hsz
  by_cases hop:Fn n.Op=true
  ·rw [aY hop]at hsz
   by_cases hA:n.A=(j:Int)-1∧n.B= -1
   ·rw [aY hA]at hsz
    by_cases hj0:j=0
    ·rw [vC l (by omega) (by omega)]at hsz
     exact absurd hsz (hnone rfl)
    ·obtain⟨NA,_⟩:=hI.at (j:=j-1) (by omega)
     have eA:((j-1:Nat):Int)=n.A:=by omega
     have hszA:=NA.size (j+2) (by omega)
     have hpA:=NA.pos
     have hlA:=NA.le
     rw [eA]at hszA
     rw [hszA]at hsz
     simp only [be]at hsz
     rw [aY (by simp;omega),cv (by omega) (by omega)]at hsz
     injection hsz with hsz
     exact⟨hop,fun h=>absurd h h1,fun _ _ _=>⟨by omega,hA.1,hA.2,by omega⟩,fun h=>absurd h h27⟩
   ·rw [aK hA]at hsz;exact absurd hsz (hnone rfl)
  ·rw [aK hop]at hsz;exact absurd hsz (hnone rfl)
 obtain⟨p0,p1,p2,p3⟩:=P
 -- what it has of its own, and its kinds
 have hk:=N0.kinds (j+3) (by omega)
 have hszR:kS l (j:Int)=some (xB first j:Int):=N0.size iN (vR (by omega))
 have ho:zF n=true:=by
  cases ho:zF n with
  |true=>rfl
  |false=>
   exfalso
   unfold cj at hk
   rw [hszR,hn]at hk
   simp only [be,sU,ho]at hk
   have: ¬(xB first j=0):=by omega
   simp [this]at hk
 have hpl:n.A<(j:Int)∧n.B<(j:Int):=by
  by_cases h1:n.Op=1
  ·obtain⟨a,b,_⟩:=p1 h1;omega
  by_cases h27:n.Op=2∨n.Op=7
  ·obtain⟨a,b,c,d,_⟩:=p3 h27;omega
  ·obtain⟨a,b,c,_⟩:=p2 h1 (fun h=>h27 (.inl h)) (fun h=>h27 (.inr h));omega
 rw [BC hn hszR (by omega) ho]at hk
 have hkA: ∀(p:Int),0≤p→p<(j:Int)→cj (j+2) l p=some (NH kinds p.toNat,true):=by
  intro p hp0 hpj
  obtain⟨NA,_⟩:=hI.at (j:=p.toNat) (by omega)
  have:=NA.kinds (j+2) (by omega)
  rw [show((p.toNat:Nat):Int)=p from by omega]at this
  exact this
 have hk1: ∀a,ez (cj (j+2)) l (j:Int) n a=gV l (j:Int) n a (if n.B<0 then []else NH kinds n.B.toNat):=by
  intro a
  unfold ez
  by_cases hB:0≤n.B
  ·rw [aY (by simpa using hB),hkA n.B hB hpl.2,aK (by omega)]
   rfl
  ·rw [aK (by simpa using hB),aY (by omega)]
 have hk2:gV l (j:Int) n (if n.A<0 then []else NH kinds n.A.toNat) (if n.B<0 then []else NH kinds n.B.toNat)=some (NH kinds j,true):=by
  by_cases hA:0≤n.A
  ·rw [aY (by simpa using hA),hkA n.A hA hpl.1]at hk
   simp only [be,mL,gm,d9]at hk
   rw [hk1]at hk
   rw [aK (show¬n.A<0 by omega)]
   exact hk
  ·rw [aK (by simpa using hA),hk1]at hk
   rw [aY (show n.A<0 by omega)]
   exact hk
 unfold gV at hk2
 cases hr:bo n (if n.A<0 then []else NH kinds n.A.toNat) (if n.B<0 then []else NH kinds n.B.toNat)with
 |none=>rw [hr]at hk2;cases hk2
 |some r=>
  rw [hr]at hk2
  simp only [be]at hk2
  split at hk2
  ·simp at hk2
  ·rename_i hc
   injection hk2 with hk2
   injection hk2 with e1 e2
   refine⟨n,hn,p0,ho,p1,p2,p3,?_,fun h8=>?_,N0.len,N0.pos,N0.le⟩
   ·rw [hr,←e1,←e2]
   ·simp only [pZ,my,sv,qR,kM,not_or,not_and,Decidable.not_not]at hc
    have:=hc.1 h8
    rw [cv (by omega) (by omega)]at this
    omega
variable{sz:Nat→Nat}
theorem QP{m:Nat}(hl:l.Nodes.length≤60)(hm:m≤l.Nodes.length)(h: ∀j,j<m→ ∃n,vl l sz ks j n): ∀(j:Nat),j<m→(∀fu,j+1<fu→bX fu l (j:Int)=some (sz j:Int))∧ ∀fu,j+1<fu→cj fu l (j:Int)=some (ks j,true):=by
 intro j
 induction j using Nat.strongRecOn with
 |ind j ih=>
  intro hj
  obtain⟨n,F⟩:=h j hj
  have hpl:n.A<(j:Int)∧n.B<(j:Int):=by
   by_cases h1:n.Op=1
   ·obtain⟨a,b,_⟩:=F.lf h1;omega
   by_cases h27:n.Op=2∨n.Op=7
   ·obtain⟨a,b,c,d,_⟩:=F.bi h27;omega
   ·obtain⟨a,b,c,_⟩:=F.un h1 (fun h=>h27 (.inl h)) (fun h=>h27 (.inr h));omega
  have hS: ∀fu,j+1<fu→bX fu l (j:Int)=some (sz j:Int):=by
   intro fu hf
   obtain⟨fu,rfl⟩: ∃k,fu=k+1:=⟨fu-1,by omega⟩
   rw [Hk F.node (by omega) (by omega)]
   by_cases h1:n.Op=1
   ·obtain⟨a,b,c⟩:=F.lf h1
    rw [aY h1,aY ⟨a,b⟩,c];rfl
   rw [aK h1]
   by_cases h27:n.Op=2∨n.Op=7
   ·obtain⟨a,b,c,d,e⟩:=F.bi h27
    obtain⟨nB,FB⟩:=h (j-1) (by omega)
    obtain⟨nA,FA⟩:=h (j-1-sz (j-1)) (by omega)
    have hB:=(ih (j-1) (by omega) (by omega)).1 fu (by omega)
    have hA:=(ih (j-1-sz (j-1)) (by omega) (by omega)).1 fu (by omega)
    rw [show((j-1:Nat):Int)=n.B from by omega]at hB
    rw [show((j-1-sz (j-1):Nat):Int)=n.A from by omega]at hA
    have q1:=FB.pos
    have q2:=FB.le
    have q3:=FA.pos
    have q4:=FA.le
    rw [aY h27,aY b,hB]
    simp only [be]
    rw [cv (n:=n.B-_) (by omega) (by omega),aY (by simp;omega),hA]
    simp only [be]
    rw [aY (by simp;omega),cv (n:=(sz (j-1-sz (j-1)):Int)+(sz (j-1):Int)) (by omega) (by omega),cv (by omega) (by omega),e]
    rfl
   ·obtain⟨a,b,c,d⟩:=F.un h1 (fun h=>h27 (.inl h)) (fun h=>h27 (.inr h))
    obtain⟨nA,FA⟩:=h (j-1) (by omega)
    have hA:=(ih (j-1) (by omega) (by omega)).1 fu (by omega)
    rw [show((j-1:Nat):Int)=n.A from by omega]at hA
    have q1:=FA.pos
    have q2:=FA.le
    rw [aK h27,aY F.op,aY ⟨b,c⟩,hA]
    simp only [be]
    rw [aY (by simp;omega),cv (by omega) (by omega),d]
    rfl
  refine⟨hS,fun fu hf=>?_⟩
  obtain⟨fu,rfl⟩: ∃k,fu=k+1:=⟨fu-1,by omega⟩
  have hszR:kS l (j:Int)=some (sz j:Int):=hS iN (vR (by omega))
  have hp:=F.pos
  rw [BC F.node hszR (by omega) F.own]
  have hkA: ∀(p:Int),0≤p→p<(j:Int)→cj fu l p=some (ks p.toNat,true):=by
   intro p hp0 hpj
   have:=(ih p.toNat (by omega) (by omega)).2 fu (by omega)
   rw [show((p.toNat:Nat):Int)=p from by omega]at this
   exact this
  have hk1: ∀a,ez (cj fu) l (j:Int) n a=gV l (j:Int) n a (if n.B<0 then []else ks n.B.toNat):=by
   intro a
   unfold ez
   by_cases hB:0≤n.B
   ·rw [aY (by simpa using hB),hkA n.B hB hpl.2,aK (by omega)]
    rfl
   ·rw [aK (by simpa using hB),aY (by omega)]
  have hk2:gV l (j:Int) n (if n.A<0 then []else ks n.A.toNat) (if n.B<0 then []else ks n.B.toNat)=some (ks j,true):=by
   unfold gV
   rw [F.kinds]
   simp only [be]
   rw [aK]
   have hlen:=F.len
   simp only [pZ,my,sv,qR,kM,not_or,not_and,Decidable.not_not]
   refine⟨fun h8=>?_,by omega⟩
   have:=F.last h8
   rw [cv (by omega) (by omega)]
   omega
  by_cases hA:0≤n.A
  ·rw [aY (by simpa using hA),hkA n.A hA hpl.1]
   simp only [be,mL,gm,d9]
   rw [hk1]
   rw [aK (show¬n.A<0 by omega)]at hk2
   exact hk2
  ·rw [aK (by simpa using hA),hk1]
   rw [aY (show n.A<0 by omega)]at hk2
   exact hk2
theorem Dx(hl:l.Nodes.length≤60)(hp:1≤l.Nodes.length)(h: ∀j,j<l.Nodes.length→ ∃n,vl l sz ks j n)(hw:sz (l.Nodes.length-1)=l.Nodes.length):ip l=true:=by
 have H:=QP hl (dh _) h
 unfold ip rW
 rw [aK (by simp;omega)]
 have key: ∀(tl:List aj) (i:Nat),l.Nodes.drop i=tl→i+tl.length=l.Nodes.length→fh l tl i=some (-1):=by
  intro tl
  induction tl with
  |nil=>
   intro i _ _
   unfold fh
   have:=(H (l.Nodes.length-1) (by omega)).1 iN (vR (by omega))
   rw [cv (by omega) (by omega),show(l.Nodes.length:Int)-1=((l.Nodes.length-1:Nat):Int)from by omega]
   unfold kS
   rw [this,hw]
   simp
  |cons n tl ih=>
   intro i hd hi
   simp only [iY]at hi
   obtain⟨_,h2,h3⟩:=kj hd
   unfold fh rX
   rw [(H i h2).2 iN (vR (by omega))]
   simp only [be,mL,gm,d9]
   exact ih (i+1) h3 (by omega)
 rw [key l.Nodes 0 rfl (by simp)]
 rfl

structure acN(n:aj):Prop where
 cond:0<n.Cond.Nodes.length→kh n.Cond.Nodes=true
 items: ∀e∈n.Items,0<e.Nodes.length→kh e.Nodes=true
 args: ∀g∈n.Aggs,0<g.Arg.Nodes.length→kh g.Arg.Nodes=true
def Ki(e:bJ):Bool:= !e.Nodes.isEmpty&&e.Nodes.any ZJ
def Rx(g:hU):Bool:=if g.Tag=3 then true else Ki g.Arg
def Im(n:aj):Bool:=Ki n.Cond||n.Items.any Ki||n.Aggs.any Rx

def AB(l:bc)(e p:Nat):bc:=⟨((l.Nodes.take (p+1)).drop e).map (yb (-(e:Int)))⟩
theorem wI{e:Nat}(hp:p<l.Nodes.length):(AB l e p).Nodes.length=p+1-e:=by
 unfold AB;simp;omega
theorem IQ(h:lQ l)(e p:Nat):lQ (AB l e p):=
 US fun n hn=>h n (List.mem_of_mem_take (List.mem_of_mem_drop hn))
theorem Ol(hS:lQ l)(hl:l.Nodes.length≤60){e:Nat}(hp:p<l.Nodes.length)(he:e≤100): ∀(tl:List aj) (i fu:Nat) (out:bc),(l.Nodes.take (p+1)).drop i=tl→i+tl.length=p+1→tl.length<fu→out.Nodes.length≤i→nN l (p:Int) (e:Int) fu (i:Int) out=some (⟨out.Nodes++tl.map (yb (-(e:Int)))⟩,0):=by
 intro tl
 induction tl with
 |nil=>
  intro i fu out hd hi hf _
  obtain⟨fu,rfl⟩: ∃k,fu=k+1:=⟨fu-1,by omega⟩
  simp only [pY,xD]at hi
  rw [nN,aK (by simp;omega)]
  simp
 |cons x tl ih=>
  intro i fu out hd hi hf ho
  simp only [iY]at hi hf
  obtain⟨fu,rfl⟩: ∃k,fu=k+1:=⟨fu-1,by omega⟩
  obtain⟨h1,h2,h3⟩:=kj hd
  have h1' :cN l.Nodes (i:Int)=some x:=by
   rw [bT]at h1 ⊢
   rw [Ch (by omega)]at h1
   exact h1
  have hx:iv x:=hS x (by rw [bT]at h1';exact rO h1')
  rw [nN,aY (by simp;omega),h1']
  simp only [be]
  rw [cv (n:=(0:Int)-(e:Int)) (by omega) (by omega),sD hx]
  simp only [be]
  rw [cq (by simp;omega),cv (by omega) (by omega),show((i:Int)+1)=((i+1:Nat):Int)from by omega]
  simp only [be]
  rw [ih (i+1) fu _ h3 (by omega) (by omega) (by simp;omega)]
  simp

theorem Lq(n:aj)(d:Int): ∀(fu:Nat) (ok:Bool) (i:Int),cO (yb d n) fu ok i=cO n fu ok i:=by
 intro fu
 induction fu with
 |zero=>intros;rfl
 |succ fu ih=>intros;simp only [cO,ih];rfl
theorem Lm(n:aj)(d:Int)(a:List Int): ∀(fu:Nat) (out:List Int) (ok:Bool) (i:Int),cX (yb d n) a fu out ok i=cX n a fu out ok i:=by
 intro fu
 induction fu with
 |zero=>intros;rfl
 |succ fu ih=>intros;simp only [cX,ih];rfl
theorem Lo(n:aj)(d:Int)(a:List Int): ∀(fu:Nat) (out:List Int) (i:Int),cY (yb d n) a fu out i=cY n a fu out i:=by
 intro fu
 induction fu with
 |zero=>intros;rfl
 |succ fu ih=>intros;simp only [cY,ih,Lm];rfl
theorem Lk(n:aj)(d:Int)(a:List Int): ∀(fu:Nat) (out:List Int) (ok:Bool) (i:Int),cW (yb d n) a fu out ok i=cW n a fu out ok i:=by
 intro fu
 induction fu with
 |zero=>intros;rfl
 |succ fu ih=>intros;simp only [cW,ih];rfl
theorem Li(n:aj)(d:Int)(a:List Int): ∀(fu:Nat) (ok:Bool) (i:Int),cB (yb d n) a fu ok i=cB n a fu ok i:=by
 intro fu
 induction fu with
 |zero=>intros;rfl
 |succ fu ih=>intros;simp only [cB,ih];rfl
theorem FG(n:aj)(d:Int)(a b:List Int):bo (yb d n) a b=bo n a b:=by
 unfold bo
 simp only [Lq,Lo,Lk,Li]
 rfl
theorem OT(n:aj)(d:Int):zF (yb d n)=zF n:=rfl
section
abbrev C3(l:bc)(sz:Nat→Nat)(ks:Nat→List Int):Prop:= ∀j,j<l.Nodes.length→ ∃n,vl l sz ks j n
theorem aao(H:C3 l sz ks): ∀(p:Nat),p<l.Nodes.length→ ∀q,p+1-sz p≤q→q≤p→p+1-sz p≤q+1-sz q:=by
 intro p
 induction p using Nat.strongRecOn with
 |ind p ih=>
  intro hp q h1 h2
  by_cases hq:q=p
  ·subst hq;exact dh _
  obtain⟨n,F⟩:=H p hp
  by_cases c1:n.Op=1
  ·obtain⟨_,_,e⟩:=F.lf c1
   omega
  by_cases c27:n.Op=2∨n.Op=7
  ·obtain⟨a,b,c,d,e⟩:=F.bi c27
   obtain⟨nA,FA⟩:=H (p-1-sz (p-1)) (by omega)
   have hpA:=FA.pos
   have hlA:=FA.le
   by_cases hB:p-1+1-sz (p-1)≤q
   ·have:=ih (p-1) (by omega) (by omega) q hB (by omega)
    omega
   ·have:=ih (p-1-sz (p-1)) (by omega) (by omega) q (by omega) (by omega)
    omega
  ·obtain⟨a,b,c,d⟩:=F.un c1 (fun h=>c27 (.inl h)) (fun h=>c27 (.inr h))
   have:=ih (p-1) (by omega) (by omega) q (by omega) (by omega)
   omega
theorem YO(H:C3 l sz ks)(hp:p<l.Nodes.length)(h1:p+1-sz p≤i)(h2:i≤p)(F:vl l sz ks i n):(n.A= -1∨((p+1-sz p:Nat):Int)≤n.A∧n.A<(i:Int))∧(n.B= -1∨((p+1-sz p:Nat):Int)≤n.B∧n.B<(i:Int)):=by
 have hn:=aao H p hp i h1 h2
 by_cases c1:n.Op=1
 ·obtain⟨a,b,_⟩:=F.lf c1
  exact⟨.inl a,.inl b⟩
 by_cases c27:n.Op=2∨n.Op=7
 ·obtain⟨a,b,c,d,e⟩:=F.bi c27
  obtain⟨nA,FA⟩:=H (i-1-sz (i-1)) (by omega)
  have hpA:=FA.pos
  have hlA:=FA.le
  exact⟨.inr (by omega),.inr (by omega)⟩
 ·obtain⟨a,b,c,d⟩:=F.un c1 (fun h=>c27 (.inl h)) (fun h=>c27 (.inr h))
  obtain⟨nA,FA⟩:=H (i-1) (by omega)
  have hpA:=FA.pos
  exact⟨.inr (by omega),.inl c⟩
theorem sP{d:Int}(h:x= -1):Cd d x= -1:=by unfold Cd;rw [aK (by omega),h]
theorem Iv{e:Int}(h:0≤e)(h2:e≤x)(h3:x≤100000):Cd (-e) x=x-e:=by
 unfold Cd
 rw [aY (by omega),cv (by omega) (by omega)]
 omega
theorem Fi(H:C3 l sz ks)(hl:l.Nodes.length≤60)(hp:p<l.Nodes.length)(hs:sz p≤p+1):C3 (AB l (p+1-sz p) p) (fun j=>sz (p+1-sz p+j)) (fun j=>ks (p+1-sz p+j)):=by
 obtain⟨e,he⟩: ∃e,e=p+1-sz p:=⟨_,rfl⟩
 rw [←he]
 intro j hj
 rw [wI hp]at hj
 obtain⟨n,F⟩:=H (e+j) (by omega)
 have hin:=YO H hp (i:=e+j) (by omega) (by omega) F
 have hnest:=aao H p hp (e+j) (by omega) (by omega)
 rw [←he]at hin hnest
 obtain⟨hA,hB⟩:=hin
 refine⟨yb (-(e:Int)) n,⟨?_,F.op,by rw [OT];exact F.own,fun c1=>?_,fun c1 c2 c7=>?_,fun c27=>?_,?_,fun c8=>?_,F.len,F.pos,?_⟩⟩
 ·have h1:=F.node
  rw [bT]at h1 ⊢
  unfold AB
  simp only
  rw [C9,xK,Ch (by omega),h1]
  rfl
 ·obtain⟨a,b,c⟩:=F.lf c1
  exact⟨sP a,sP b,c⟩
 ·obtain⟨a,b,c,d⟩:=F.un c1 c2 c7
  obtain⟨nA,FA⟩:=H (e+j-1) (by omega)
  have hpA:=FA.pos
  have eA:Cd (-(e:Int)) n.A=n.A-(e:Int):=Iv (by omega) (by omega) (by omega)
  refine⟨by omega,?_,sP c,?_⟩
  ·show Cd (-(e:Int)) n.A=_
   rw [eA];omega
  ·show sz (e+j)=sz (e+(j-1))+1
   rw [d,show e+j-1=e+(j-1)from by omega]
 ·obtain⟨a,b,c,d,g⟩:=F.bi c27
  obtain⟨nA,FA⟩:=H (e+j-1-sz (e+j-1)) (by omega)
  have hpA:=FA.pos
  have eA:Cd (-(e:Int)) n.A=n.A-(e:Int):=Iv (by omega) (by omega) (by omega)
  have eB:Cd (-(e:Int)) n.B=n.B-(e:Int):=Iv (by omega) (by omega) (by omega)
  have ej:e+(j-1)=e+j-1:=by omega
  refine⟨by omega,?_,?_,?_,?_⟩
  ·show Cd (-(e:Int)) n.B=_
   rw [eB];omega
  ·show sz (e+(j-1))<j
   rw [ej];omega
  ·show Cd (-(e:Int)) n.A=(j:Int)-1-(sz (e+(j-1)):Int)
   rw [eA,ej];omega
  ·show sz (e+j)=sz (e+(j-1-sz (e+(j-1))))+sz (e+(j-1))+1
   rw [ej,g,show e+(j-1-sz (e+j-1))=e+j-1-sz (e+j-1)from by omega]
 ·rw [FG]
  have key: ∀x:Int,(x= -1∨(e:Int)≤x∧x<((e+j:Nat):Int))→(if Cd (-(e:Int)) x<0 then([]:List Int)else ks (e+(Cd (-(e:Int)) x).toNat))=if x<0 then []else ks x.toNat:=by
   intro x hx
   rcases hx with hx|hx
   ·rw [sP hx,aY (by decide),aY (by omega)]
   ·rw [Iv (by omega) hx.1 (by omega),aK (by omega),aK (by omega)]
    congr 1
    omega
  have h1:=F.kinds
  rw [←key n.A hA,←key n.B hB]at h1
  exact h1
 ·have:=F.last c8
  rw [wI hp]
  omega
 ·show sz (e+j)≤j+1
  have:=F.le
  omega
theorem Nj(H:C3 l sz ks)(hl:l.Nodes.length≤60)(hp:p<l.Nodes.length)(hs:sz p≤p+1)(hs1:1≤sz p):ip (AB l (p+1-sz p) p)=true:=by
 have hlen:=wI (l:=l) (e:=p+1-sz p) hp
 refine Dx (by rw [hlen];omega) (by rw [hlen];omega) (Fi H hl hp hs) ?_
 rw [hlen]
 show sz (p+1-sz p+(p+1-(p+1-sz p)-1))=_
 rw [show p+1-sz p+(p+1-(p+1-sz p)-1)=p from by omega]
 omega
end
theorem ND(nx:Nat→aj→bc→bc→Option (bc×Int))(i:Nat)(n:aj)(x out:bc): ∀(tl:List aj) (out1:bc),(∀m∈tl,iv m)→out1.Nodes.length+tl.length≤100000→nM nx i n x out tl out1=(if((i:Int)==(0:Int))then nx (i+1) (aj.mk n.Op (IntKind.i64.wrap (((out1.Nodes++tl.map (yb (out.Nodes.length:Int))).length:Int)-(1:Int))) n.B n.Table n.Kinds n.Left n.Cond n.Keys n.Aggs n.Items n.Order n.Limit) x ⟨out1.Nodes++tl.map (yb (out.Nodes.length:Int))⟩else nx (i+1) (aj.mk n.Op n.A (IntKind.i64.wrap (((out1.Nodes++tl.map (yb (out.Nodes.length:Int))).length:Int)-(1:Int))) n.Table n.Kinds n.Left n.Cond n.Keys n.Aggs n.Items n.Order n.Limit) x ⟨out1.Nodes++tl.map (yb (out.Nodes.length:Int))⟩):=by
 intro tl
 induction tl with
 |nil=>intro out1 _ _;unfold nM;simp only [List.map_nil,sw]
 |cons m tl ih2=>
  intro out1 hm hl1
  simp only [iY]at hl1
  rw [nM,sD (hm m (kZ ..))]
  simp only [be]
  rw [cq (by simp;omega)]
  simp only [be]
  rw [ih2 _ (fun z hz=>hm z (kN _ hz)) (by simp;omega)]
  simp only [vt,jX,wl,kz]
theorem QE{x out a:bc}(ha:lQ a)(hr:ip a=true)(hl:a.Nodes.length≤1000)(ho:out.Nodes.length≤1000)(parts:List bc)(i:Nat):iA (a::parts) i n x out=(if((i:Int)==(0:Int))then iA parts (i+1) (aj.mk n.Op (IntKind.i64.wrap (((out.Nodes++a.Nodes.map (yb (out.Nodes.length:Int))).length:Int)-(1:Int))) n.B n.Table n.Kinds n.Left n.Cond n.Keys n.Aggs n.Items n.Order n.Limit) x ⟨out.Nodes++a.Nodes.map (yb (out.Nodes.length:Int))⟩else iA parts (i+1) (aj.mk n.Op n.A (IntKind.i64.wrap (((out.Nodes++a.Nodes.map (yb (out.Nodes.length:Int))).length:Int)-(1:Int))) n.Table n.Kinds n.Left n.Cond n.Keys n.Aggs n.Items n.Order n.Limit) x ⟨out.Nodes++a.Nodes.map (yb (out.Nodes.length:Int))⟩):=by
 conv=>lhs;unfold iA
 obtain⟨_,⟨j,h2⟩,_⟩:=rU ha
 rw [h2,hr]
 simp only [eg,be]
 rw [aK (by decide),ND _ i n x out a.Nodes out ha (by omega)]

theorem acX{k:Int}(h:k4 k):(decide (0≤k)&&decide (k≤3))=true:=by simp;unfold k4 at h;omega
theorem zf{a b:List Int}(ha:zG a=true)(hb:zG b=true):zG (a++b)=true:=by unfold zG at*;rw [G1,ha,hb];rfl
theorem Ef{k:Int}(h:k4 k):zG [k]=true:=by rw [BD,acX h];rfl
theorem qE{xs ys zs:List α}(h:app xs ys=some zs):zs=xs++ys:=by
 unfold app at h
 split at h
 ·injection h with h;exact h.symm
 ·cases h
theorem Ls(e:bJ)(kinds:List Int):k4 (fR e kinds).1:=by
 unfold fR
 split
 ·split
  ·rename_i hk
   split
   ·cases ht:mM e.Nodes with
    |none=>exact .inl rfl
    |some t=>
     obtain⟨hw,_,_⟩:=kp ht
     simp only [be]
     cases hd:kd kinds t with
     |none=>exact .inl rfl
     |some k=>exact O7 (fun k=>ze hk) t hw hd
   ·exact .inl rfl
  ·exact .inl rfl
 ·exact .inl rfl
theorem ZK(g:hU)(kinds:List Int):k4 (B4 g kinds).1:=by
 have hk:=Ls g.Arg kinds
 unfold B4 lg
 rw [lJ]
 simp only [be]
 repeat' split
 all_goals first|exact hk|simp [k4]
theorem Su{a:List Int}{i k:Int}(ha:zG a=true)(h:cN a i=some k):k4 k:=by
 obtain⟨_,h2⟩:=nv h
 exact ze ha (rO h2)
theorem YK(n:aj)(a:List Int): ∀(fu:Nat) (out:List Int) (ok:Bool) (i:Int) (k:List Int) (o:Bool),zG out=true→cX n a fu out ok i=some (k,o)→zG k=true:=by
 intro fu
 induction fu with
 |zero=>intro _ _ _ _ _ _ h;cases h
 |succ fu ih=>
  intro out ok i k o ho h
  rw [cX]at h
  split at h
  ·cases hx:cN n.Aggs i with
   |none=>rw [hx]at h;cases h
   |some g=>
    rw [hx]at h
    simp only [be,pF]at h
    cases ha:app out [(B4 g a).1]with
    |none=>rw [ha]at h;cases h
    |some z=>
     rw [ha]at h
     exact ih _ _ _ _ _ (by rw [qE ha];exact zf ho (Ef (ZK g a))) h
  ·injection h with h
   injection h with h _
   rw [←h];exact ho
theorem YL(n:aj)(a:List Int)(hka:zG a=true): ∀(fu:Nat) (out:List Int) (i:Int) (k:List Int) (o:Bool),zG out=true→cY n a fu out i=some (k,o)→zG k=true:=by
 intro fu
 induction fu with
 |zero=>intro _ _ _ _ _ h;cases h
 |succ fu ih=>
  intro out i k o ho h
  rw [cY]at h
  split at h
  ·cases hx:cN n.Keys i with
   |none=>rw [hx]at h;cases h
   |some g=>
    rw [hx]at h
    simp only [be]at h
    split at h
    ·injection h with h;injection h with h _;rw [←h];rfl
    ·cases hy:cN a g with
     |none=>rw [hy]at h;cases h
     |some y=>
      rw [hy]at h
      simp only [be]at h
      cases ha:app out [y]with
      |none=>rw [ha]at h;cases h
      |some z=>
       rw [ha]at h
       exact ih _ _ _ _ (by rw [qE ha];exact zf ho (Ef (Su hka hy))) h
  ·exact YK n a _ _ _ _ _ _ ho h
theorem YJ(n:aj)(a:List Int): ∀(fu:Nat) (out:List Int) (ok:Bool) (i:Int) (k:List Int) (o:Bool),zG out=true→cW n a fu out ok i=some (k,o)→zG k=true:=by
 intro fu
 induction fu with
 |zero=>intro _ _ _ _ _ _ h;cases h
 |succ fu ih=>
  intro out ok i k o ho h
  rw [cW]at h
  split at h
  ·cases hx:cN n.Items i with
   |none=>rw [hx]at h;cases h
   |some g=>
    rw [hx]at h
    simp only [be,lJ]at h
    cases ha:app out [(fR g a).1]with
    |none=>rw [ha]at h;cases h
    |some z=>
     rw [ha]at h
     exact ih _ _ _ _ _ (by rw [qE ha];exact zf ho (Ef (Ls g a))) h
  ·injection h with h
   injection h with h _
   rw [←h];exact ho
theorem aat(n:aj)(a:List Int): ∀(fu:Nat) (ok:Bool) (i:Int) (k:List Int) (o:Bool),cB n a fu ok i=some (k,o)→k=a:=by
 intro fu
 induction fu with
 |zero=>intro _ _ _ _ h;cases h
 |succ fu ih=>
  intro ok i k o h
  rw [cB]at h
  split at h
  ·generalize (if ok=true then(cN n.Order i).bind fun e10=>some (decide ((0:Int)≤e10.Col))else some false)=z at h
   cases z with
   |none=>cases h
   |some z=>
    simp only [be]at h
    generalize (if z=true then(cN n.Order i).bind fun e11=>some (decide (e11.Col<(a.length:Int)))else some false)=y at h
    cases y with
    |none=>cases h
    |some y=>exact ih _ _ _ _ h
  ·injection h with h
   injection h with h _
   exact h.symm
theorem aav(n:aj): ∀(fu:Nat) (ok:Bool) (i:Int) (k:List Int) (o:Bool),cO n fu ok i=some (k,o)→k=n.Kinds:=by
 intro fu
 induction fu with
 |zero=>intro _ _ _ _ h;cases h
 |succ fu ih=>
  intro ok i k o h
  rw [cO]at h
  split at h
  ·generalize (if ok=true then(cN n.Kinds i).bind fun e10=>some (decide ((1:Int)≤e10))else some false)=z at h
   cases z with
   |none=>cases h
   |some z=>
    simp only [be]at h
    generalize (if z=true then(cN n.Kinds i).bind fun e11=>some (decide (e11≤(3:Int)))else some false)=y at h
    cases y with
    |none=>cases h
    |some y=>exact ih _ _ _ _ h
  ·injection h with h
   injection h with h _
   exact h.symm
theorem aau(b:List Int): ∀(tl:List Int) (i:Nat) (out:List Int) (ok:Bool) (k:List Int) (o:Bool),zG tl=true→zG b=true→zG out=true→dB b tl i out ok=some (k,o)→zG k=true∧k.length=out.length+tl.length:=by
 intro tl
 induction tl with
 |nil=>
  intro i out ok k o _ _ ho h
  rw [dB]at h
  injection h with h
  injection h with h _
  rw [←h];exact⟨ho,rfl⟩
 |cons x tl ih=>
  intro i out ok k o ht hb ho h
  rw [BD,my]at ht
  have step: ∀z:Int,k4 z→iH b (dB b tl) i out ok z=some (k,o)→zG k=true∧k.length=out.length+(tl.length+1):=by
   intro z hz hk
   unfold iH at hk
   cases ha:app out [z]with
   |none=>rw [ha]at hk;cases hk
   |some w=>
    rw [ha]at hk
    simp only [be]at hk
    generalize (if ok=true then(cN b (i:Int)).bind fun e7=>(if(!(e7==z))=true then(cN b (i:Int)).bind fun e8=>some (e8==(0:Int))else some true).bind fun t3=>some t3 else some false)=q at hk
    cases q with
    |none=>cases hk
    |some q=>
     have:=ih (i+1) w q k o ht.2 hb (by rw [qE ha];exact zf ho (Ef hz)) hk
     rw [qE ha]at this
     simp only [jg,iY,pY]at this
     exact⟨this.1,by omega⟩
  rw [dB]at h
  split at h
  ·cases hx:cN b (i:Int)with
   |none=>rw [hx]at h;cases h
   |some y=>
    rw [hx]at h
    exact step y (Su hb hx) h
  ·exact step x (by have:=ht.1;simp at this;unfold k4;omega) h
theorem QH{a b:List Int}(hs:iv n)(hop:Fn n.Op=true)(ha:zG a=true)(hb:zG b=true)(h:bo n a b=some (k,true)):zG k=true:=by
 have h0:=h
 unfold bo at h
 rcases q6 hop with c|c|c|c|c|c|c|c
 ·rw [aY (by simp [c])]at h
  rw [aav n _ _ _ _ _ h]
  obtain⟨k1,o,k',g1,g2,_⟩:=Hn default n a b hs c
  rw [h0]at g2
  injection g2 with g2
  injection g2 with _ g2
  subst g2
  unfold gb at g1
  split at g1
  ·have hc:cE n.Kinds jD=some (n.Kinds.any fun k=> !(((k==(1:Int))||(k==(2:Int)))||(k==(3:Int)))):=j9 (fun v=>rfl) _
   rw [hc]at g1
   simp only [be,xM]at g1
   injection g1 with g1
   injection g1 with _ g1
   rw [DM,JR]at g1
   unfold zG
   rw [jW]
   intro z hz
   have:=g1 z hz
   simp at this
   simp;omega
  ·simp at g1
 ·rw [aK (by simp [c]),aY (by simp [c])]at h
  cases h1:app ([]:List Int) a with
  |none=>rw [h1]at h;cases h
  |some l1=>
   rw [h1]at h
   simp only [be]at h
   cases h2:app l1 b with
   |none=>rw [h2]at h;cases h
   |some l2=>
    rw [h2]at h
    simp only [be,mf]at h
    injection h with h
    injection h with h _
    rw [←h,qE h2,qE h1]
    exact zf (zf rfl ha) hb
 ·rw [aK (by simp [c]),aK (by simp [c]),aY (by simp [c])]at h
  simp only [be,mf]at h
  injection h with h
  injection h with h _
  rw [←h];exact ha
 ·rw [aK (by simp [c]),aK (by simp [c]),aK (by simp [c]),aY (by simp [c])]at h
  exact YL n a ha _ _ _ _ _ rfl h
 ·rw [aK (by simp [c]),aK (by simp [c]),aK (by simp [c]),aK (by simp [c]),aY (by simp [c])]at h
  exact YJ n a _ _ _ _ _ _ rfl h
 ·rw [aK (by simp [c]),aK (by simp [c]),aK (by simp [c]),aK (by simp [c]),aK (by simp [c]),aY (by simp [c])]at h
  injection h with h
  injection h with h _
  rw [←h];exact ha
 ·rw [aK (by simp [c]),aK (by simp [c]),aK (by simp [c]),aK (by simp [c]),aK (by simp [c]),aK (by simp [c]),aY (by simp [c])]at h
  split at h
  ·injection h with h;injection h with _ h;cases h
  ·exact(aau b a 0 [] true k true ha hb rfl h).1
 ·rw [aK (by simp [c]),aK (by simp [c]),aK (by simp [c]),aK (by simp [c]),aK (by simp [c]),aK (by simp [c]),aK (by simp [c])]at h
  rw [aat n a _ _ _ _ _ h];exact ha
section
variable{d:bc}{sz' :Nat→Nat}{ks' :Nat→List Int}
theorem mF(F:vl l sz ks j n):(n.A= -1∨0≤n.A∧n.A<(j:Int))∧(n.B= -1∨0≤n.B∧n.B<(j:Int)):=by
 by_cases c1:n.Op=1
 ·obtain⟨a,b,_⟩:=F.lf c1
  exact⟨.inl a,.inl b⟩
 by_cases c27:n.Op=2∨n.Op=7
 ·obtain⟨a,b,c,d,e⟩:=F.bi c27
  exact⟨.inr (by omega),.inr (by omega)⟩
 ·obtain⟨a,b,c,d⟩:=F.un c1 (fun h=>c27 (.inl h)) (fun h=>c27 (.inr h))
  exact⟨.inr (by omega),.inl c⟩
theorem WW(hS:lQ l)(H:C3 l sz ks): ∀j,j<l.Nodes.length→zG (ks j)=true:=by
 intro j
 induction j using Nat.strongRecOn with
 |ind j ih=>
  intro hj
  obtain⟨n,F⟩:=H j hj
  have hn:iv n:=hS n (by have:=F.node;rw [bT]at this;exact rO this)
  obtain⟨hA,hB⟩:=mF F
  refine QH hn F.op ?_ ?_ F.kinds
  ·split
   ·rfl
   ·exact ih _ (by omega) (by omega)
  ·split
   ·rfl
   ·exact ih _ (by omega) (by omega)
theorem Bl{e:Nat}(h:0≤x)(h2:x≤10000)(h3:e≤10000):Cd (e:Int) x=x+e:=by
 unfold Cd
 rw [aY h,cv (by omega) (by omega)]
theorem Ku{e:Nat}(F:vl l sz ks j n)(h8:n.Op≠8)(hidx:cN d.Nodes ((e+j:Nat):Int)=some (yb (e:Int) n))(hj:e+j≤1000)(hs: ∀x,x≤j→sz' (e+x)=sz x)(hk: ∀x,x≤j→ks' (e+x)=ks x):vl d sz' ks' (e+j) (yb (e:Int) n):=by
 obtain⟨hA,hB⟩:=mF F
 refine⟨hidx,F.op,by rw [OT];exact F.own,fun c1=>?_,fun c1 c2 c7=>?_,fun c27=>?_,?_,fun c8=>absurd c8 h8,by rw [hk j (dh _)];exact F.len,by rw [hs j (dh _)];exact F.pos,by rw [hs j (dh _)];have:=F.le;omega⟩
 ·obtain⟨a,b,c⟩:=F.lf c1
  exact⟨sP a,sP b,by rw [hs j (dh _)];exact c⟩
 ·obtain⟨a,b,c,g⟩:=F.un c1 c2 c7
  refine⟨by omega,?_,sP c,?_⟩
  ·show Cd (e:Int) n.A=_
   rw [Bl (by omega) (by omega) (by omega)];omega
  ·rw [hs j (dh _),show e+j-1=e+(j-1)from by omega,hs (j-1) (by omega)];exact g
 ·obtain⟨a,b,c,g,q⟩:=F.bi c27
  have ej:e+j-1=e+(j-1):=by omega
  refine⟨by omega,?_,?_,?_,?_⟩
  ·show Cd (e:Int) n.B=_
   rw [Bl (by omega) (by omega) (by omega)];omega
  ·rw [ej,hs (j-1) (by omega)];omega
  ·show Cd (e:Int) n.A=_
   rw [ej,hs (j-1) (by omega),Bl (by omega) (by omega) (by omega)];omega
  ·rw [hs j (dh _),ej,hs (j-1) (by omega),show e+(j-1)-sz (j-1)=e+(j-1-sz (j-1))from by omega,hs _ (by omega)];exact q
 ·rw [FG,hk j (dh _)]
  have key: ∀x:Int,(x= -1∨0≤x∧x<(j:Int))→(if Cd (e:Int) x<0 then([]:List Int)else ks' (Cd (e:Int) x).toNat)=if x<0 then []else ks x.toNat:=by
   intro x hx
   rcases hx with hx|hx
   ·rw [sP hx,aY (by decide),aY (by omega)]
   ·rw [Bl (by omega) (by omega) (by omega),aK (by omega),aK (by omega),show(x+(e:Int)).toNat=e+x.toNat from by omega,hk _ (by omega)]
  have h1:=F.kinds
  rw [←key n.A hA,←key n.B hB]at h1
  exact h1
theorem Ys{e m:Nat}(H:C3 l sz ks)(H' :C3 d sz' ks')(hm:m≤l.Nodes.length)(hl:l.Nodes.length≤200)(he:e≤200)(hd:e+m≤d.Nodes.length)(hn: ∀j,j<m→ ∀n,cN l.Nodes (j:Int)=some n→cN d.Nodes ((e+j:Nat):Int)=some (yb (e:Int) n)): ∀j,j<m→sz' (e+j)=sz j∧ks' (e+j)=ks j:=by
 intro j
 induction j using Nat.strongRecOn with
 |ind j ih=>
  intro hj
  obtain⟨n,F⟩:=H j (by omega)
  obtain⟨n',F'⟩:=H' (e+j) (by omega)
  have hnn:n' =yb (e:Int) n:=by
   have h1:=hn j hj n F.node
   rw [F'.node]at h1
   injection h1
  subst hnn
  obtain⟨hA,hB⟩:=mF F
  constructor
  ·by_cases c1:n.Op=1
   ·rw [(F'.lf c1).2.2,(F.lf c1).2.2]
   by_cases c27:n.Op=2∨n.Op=7
   ·obtain⟨a,b,c,g,q⟩:=F.bi c27
    obtain⟨a',b',c',g',q'⟩:=F'.bi c27
    have ej:e+j-1=e+(j-1):=by omega
    rw [ej,(ih (j-1) (by omega) (by omega)).1,show e+(j-1)-sz (j-1)=e+(j-1-sz (j-1))from by omega,(ih (j-1-sz (j-1)) (by omega) (by omega)).1]at q'
    rw [q',q]
   ·obtain⟨a,b,c,g⟩:=F.un c1 (fun h=>c27 (.inl h)) (fun h=>c27 (.inr h))
    obtain⟨a',b',c',g'⟩:=F'.un c1 (fun h=>c27 (.inl h)) (fun h=>c27 (.inr h))
    rw [show e+j-1=e+(j-1)from by omega,(ih (j-1) (by omega) (by omega)).1]at g'
    rw [g',g]
  ·have key: ∀x:Int,(x= -1∨0≤x∧x<(j:Int))→(if Cd (e:Int) x<0 then([]:List Int)else ks' (Cd (e:Int) x).toNat)=if x<0 then []else ks x.toNat:=by
    intro x hx
    rcases hx with hx|hx
    ·rw [sP hx,aY (by decide),aY (by omega)]
    ·rw [Bl (by omega) (by omega) (by omega),aK (by omega),aK (by omega),show(x+(e:Int)).toNat=e+x.toNat from by omega,(ih x.toNat (by omega) (by omega)).2]
   have h1:=F'.kinds
   have hA' :(yb (e:Int) n).A=Cd (e:Int) n.A:=rfl
   have hB' :(yb (e:Int) n).B=Cd (e:Int) n.B:=rfl
   rw [FG,hA',hB',key n.A hA,key n.B hB,F.kinds]at h1
   injection h1 with h1
   injection h1 with h1 _
   exact h1.symm
end
structure Aj(l:bc)(sz:Nat→Nat)(ks:Nat→List Int):Prop where
 pos:1≤l.Nodes.length
 le:l.Nodes.length≤60
 all:C3 l sz ks
 whole:sz (l.Nodes.length-1)=l.Nodes.length
 kinds:sd l=some (ks (l.Nodes.length-1),0)
theorem BB(hS:lQ l)(h:ip l=true): ∃sz ks,Aj l sz ks:=by
 obtain⟨_,_,ob,j,r3,r4⟩:=rU hS
 obtain⟨hL,hj⟩:=r4 h
 have hle:=hL.le
 have hpos:=hL.pos
 obtain⟨N0,_⟩:=hL.inv.at (j:=l.Nodes.length-1) (by omega)
 refine⟨xB ob.first,NH ob.kinds,hpos,hle,fun j hj=>LF hL.inv hle hj,?_,?_⟩
 ·have e1:=N0.size iN (vR (by omega))
  have e2:=hL.whole
  unfold kS at e2
  rw [show(l.Nodes.length:Int)-1=((l.Nodes.length-1:Nat):Int)from by omega,e1]at e2
  injection e2 with e2
  omega
 ·unfold sd
  rw [r3,h]
  simp only [be,mL,gm,d9]
  have hk:cN ob.kinds j=some (NH ob.kinds (l.Nodes.length-1)):=by
   rw [hj,show(l.Nodes.length:Int)-1=((l.Nodes.length-1:Nat):Int)from by omega,bT]
   unfold NH
   rw [oM (by rw [hL.inv.kl];omega)];rfl
  rw [hk]
  simp only [be]
  rw [s7 _ (by have:=N0.len;omega)]
  rfl
theorem Lg{sz' :Nat→Nat}{ks' :Nat→List Int}(hS:lQ l)(K:Aj l sz ks)(H:C3 l sz' ks'):ks' (l.Nodes.length-1)=ks (l.Nodes.length-1)∧sz' (l.Nodes.length-1)=l.Nodes.length:=by
 have hle:=K.le
 have hpos:=K.pos
 have:=Ys (l:=l) (d:=l) (e:=0) (m:=l.Nodes.length) K.all H (dh _) (by omega) (by omega) (by omega) (fun j hj n hn=>by
  obtain⟨n',F⟩:=K.all j hj
  have e:n' =n:=by have:=F.node;rw [hn]at this;injection this with this;exact this.symm
  subst e
  obtain⟨hA,hB⟩:=mF F
  rw [qS,hn]
  have hz:=Bk (n:=n') (by omega) (by omega)
  rw [show((0:Nat):Int)=0 from rfl,hz]) (l.Nodes.length-1) (by omega)
 simp only [qS]at this
 exact⟨this.2,by rw [this.1];exact K.whole⟩

def GV(x y:Int)(n:aj):aj:={n with A:=x,B:=y}
theorem Lr(n:aj)(x y:Int): ∀(fu:Nat) (ok:Bool) (i:Int),cO (GV x y n) fu ok i=cO n fu ok i:=by
 intro fu
 induction fu with
 |zero=>intros;rfl
 |succ fu ih=>intros;simp only [cO,ih];rfl
theorem Ln(n:aj)(x y:Int)(a:List Int): ∀(fu:Nat) (out:List Int) (ok:Bool) (i:Int),cX (GV x y n) a fu out ok i=cX n a fu out ok i:=by
 intro fu
 induction fu with
 |zero=>intros;rfl
 |succ fu ih=>intros;simp only [cX,ih];rfl
theorem Lp(n:aj)(x y:Int)(a:List Int): ∀(fu:Nat) (out:List Int) (i:Int),cY (GV x y n) a fu out i=cY n a fu out i:=by
 intro fu
 induction fu with
 |zero=>intros;rfl
 |succ fu ih=>intros;simp only [cY,ih,Ln];rfl
theorem Ll(n:aj)(x y:Int)(a:List Int): ∀(fu:Nat) (out:List Int) (ok:Bool) (i:Int),cW (GV x y n) a fu out ok i=cW n a fu out ok i:=by
 intro fu
 induction fu with
 |zero=>intros;rfl
 |succ fu ih=>intros;simp only [cW,ih];rfl
theorem Lj(n:aj)(x y:Int)(a:List Int): ∀(fu:Nat) (ok:Bool) (i:Int),cB (GV x y n) a fu ok i=cB n a fu ok i:=by
 intro fu
 induction fu with
 |zero=>intros;rfl
 |succ fu ih=>intros;simp only [cB,ih];rfl
theorem Sm(n:aj)(x y:Int)(a b:List Int):bo (GV x y n) a b=bo n a b:=by
 unfold bo
 simp only [Lr,Lp,Ll,Lj]
 rfl
theorem UD(n:aj)(x y:Int):zF (GV x y n)=zF n:=rfl
def d1(n:aj)(a:bc):bc:=⟨a.Nodes++[GV ((a.Nodes.length:Int)-1) (-1) n]⟩
def d2(n:aj)(a b:bc):bc:=⟨(a.Nodes++b.Nodes.map (yb (a.Nodes.length:Int)))++[GV ((a.Nodes.length:Int)-1) ((a.Nodes.length:Int)+(b.Nodes.length:Int)-1) n]⟩
theorem N6(n:aj)(a:bc):(d1 n a).Nodes.length=a.Nodes.length+1:=by simp [d1]
theorem NF{x out:bc}(hn:iv n)(hA:n.A≤100000)(hB:n.B≤100000)(ho:lQ out)(hl:out.Nodes.length≤4000)(i:Nat):iA [] i n x out=some (if ip ⟨out.Nodes++[n]⟩then(⟨out.Nodes++[n]⟩,0)else(⟨[]⟩,230)):=by
 unfold iA
 rw [sD hn,Bk hA hB]
 simp only [be]
 rw [cq (by simp;omega)]
 simp only [be]
 have hs:lQ (⟨out.Nodes++[n]⟩:bc):=by
  intro m hm
  rcases zA.1 hm with h|h
  ·exact ho m h
  ·rw [A3.1 h];exact hn
 obtain⟨_,⟨j,h2⟩,_⟩:=rU hs
 have h2' :mG ({out with Nodes:=out.Nodes++[n]}:bc)=_:=h2
 rw [h2']
 cases hr:ip (⟨out.Nodes++[n]⟩:bc)<;>simp
theorem UV{a:bc}(K:Aj a sz ks):a.Nodes.map (yb ((([]:List aj).length:Nat):Int))=a.Nodes:=by
 conv=>rhs;rw [←List.map_id a.Nodes]
 refine G8 fun m hm=>?_
 obtain⟨j,hj,rfl⟩:=List.mem_iff_getElem.1 hm
 obtain⟨n,F⟩:=K.all j hj
 have hn:=F.node
 rw [bT,oM hj]at hn
 injection hn with hn
 rw [hn]
 obtain⟨hA,hB⟩:=mF F
 have hle:=K.le
 exact Bk (by omega) (by omega)
theorem FF{a:bc}(hn:iv n)(ha:lQ a)(hra:ip a=true):wL n [a]=some (if ip (d1 n a)then(d1 n a,0)else(⟨[]⟩,230)):=by
 obtain⟨sza,ksa,Ka⟩:=BB ha hra
 have la:=Ka.le
 have pa:=Ka.pos
 unfold wL
 rw [QE ha hra (by omega) (by simp),aY (by simp),UV Ka]
 simp only [kz]
 rw [cv (n:=(a.Nodes.length:Int)-1) (by omega) (by omega)]
 rw [NF]
 ·rfl
 ·exact hn.at _ _
 ·show(a.Nodes.length:Int)-1≤_
  omega
 ·show(-1:Int)≤_
  omega
 ·exact ha
 ·show a.Nodes.length≤_
  omega
theorem aaX{a:bc}(hj:j<a.Nodes.length):cN (d1 n a).Nodes (j:Int)=cN a.Nodes (j:Int):=by
 rw [bT,bT]
 unfold d1
 simp only
 rw [Ao hj]
theorem aaW{a:bc}:cN (d1 n a).Nodes (a.Nodes.length:Int)=some (GV ((a.Nodes.length:Int)-1) (-1) n):=by
 rw [bT]
 unfold d1
 simp only
 rw [tA (dh _),zy]
 rfl
theorem CA{a:bc}(K:Aj a sz ks)(F:vl a sz ks j n)(hj:j<a.Nodes.length):yb ((0:Nat):Int) n=n:=by
 obtain⟨hA,hB⟩:=mF F
 have hle:=K.le
 exact Bk (by omega) (by omega)
theorem acU{a:bc}(K:Aj a sz ks){r:aj}(hr:cN a.Nodes ((a.Nodes.length-1:Nat):Int)=some r)(h8:r.Op≠8)(F:vl a sz ks j n):n.Op≠8:=by
 intro h
 have hl:=F.last h
 have hn:=F.node
 rw [show j=a.Nodes.length-1 from by omega,hr]at hn
 injection hn with hn
 rw [hn]at h8
 exact h8 h
theorem aaY{a:bc}{sza:Nat→Nat}{ksa:Nat→List Int}(Ka:Aj a sza ksa){ra:aj}(hra:cN a.Nodes ((a.Nodes.length-1:Nat):Int)=some ra)(ha8:ra.Op≠8)(hop:Fn n.Op=true)(h1:n.Op≠1)(h2:n.Op≠2)(h7:n.Op≠7)(ho:zF n=true)(hk:bo n (ksa (a.Nodes.length-1)) []=some (k,true))(hkl:k.length≤16)(hlen:a.Nodes.length+1≤60):ip (d1 n a)=true∧ ∃sz ks,C3 (d1 n a) sz ks∧ks a.Nodes.length=k:=by
 have pa:=Ka.pos
 obtain⟨la,hla⟩: ∃la,la=a.Nodes.length:=⟨_,rfl⟩
 have hdl:=N6 n a
 obtain⟨sz,hsz⟩: ∃sz:Nat→Nat,sz=fun j=>if j<la then sza j else la+1:=⟨_,rfl⟩
 obtain⟨ks,hks⟩: ∃ks:Nat→List Int,ks=fun j=>if j<la then ksa j else k:=⟨_,rfl⟩
 have s1: ∀x,x<la→sz x=sza x∧ks x=ksa x:=fun x hx=>by rw [hsz,hks];simp [hx]
 have s3:sz la=la+1∧ks la=k:=by
  rw [hsz,hks]
  simp
 rw [←hla]at hdl hlen
 have wa:=Ka.whole
 rw [←hla]at wa hra hk pa
 have H:C3 (d1 n a) sz ks:=by
  intro j hj
  rw [hdl]at hj
  by_cases c1:j<la
  ·obtain⟨m,F⟩:=Ka.all j (by omega)
   have hm8:m.Op≠8:=acU Ka (r:=ra) (by rw [←hla];exact hra) ha8 F
   have hidx:cN (d1 n a).Nodes ((0+j:Nat):Int)=some (yb ((0:Nat):Int) m):=by
    rw [qS,aaX (by omega),F.node,CA Ka F (by omega)]
   have G:=Ku (d:=d1 n a) (sz' :=sz) (ks' :=ks) (e:=0) F hm8 hidx (by omega) (fun x hx=>by rw [qS];exact(s1 x (by omega)).1) (fun x hx=>by rw [qS];exact(s1 x (by omega)).2)
   rw [qS]at G
   exact⟨_,G⟩
  ·have hje:j=la:=by omega
   subst hje
   have eA:(GV ((j:Int)-1) (-1) n).A=(j:Int)-1:=rfl
   have eB:(GV ((j:Int)-1) (-1) n).B= -1:=rfl
   have b2:=s1 (j-1) (by omega)
   refine⟨GV ((j:Int)-1) (-1) n,⟨by rw [hla];exact aaW,hop,by rw [UD];exact ho,fun c=>absurd c h1,fun _ _ _=>?_,fun c=>?_,?_,fun c=>by rw [hdl],by rw [s3.2];exact hkl,by rw [s3.1];omega,by rw [s3.1];omega⟩⟩
   ·refine⟨by omega,eA,eB,?_⟩
    rw [s3.1,b2.1,wa]
   ·rcases c with c|c
    ·exact absurd c h2
    ·exact absurd c h7
   ·rw [Sm,eA,eB,aK (by omega),aY (by omega),show((j:Int)-1).toNat=j-1 from by omega,b2.2,s3.2]
    exact hk
 exact⟨Dx (by omega) (by omega) H (by rw [hdl,show la+1-1=la from by omega,s3.1]),sz,ks,H,by rw [←hla];exact s3.2⟩

theorem QF(K:Aj l sz ks):(ks (l.Nodes.length-1)).length≤16:=by
 have:=K.pos
 obtain⟨n,F⟩:=K.all (l.Nodes.length-1) (by omega)
 exact F.len
def tk:aj:=⟨(6:Int),(0:Int),(0:Int),(0:Int),[],false,⟨[]⟩,[],[],[],[],(0:Int)⟩
theorem FY(k:List Int):bo tk k []=some (k,true):=by
 unfold bo
 rw [aK (by decide),aK (by decide),aK (by decide),aK (by decide),aK (by decide),aY (by decide)]

theorem vy(h:i≤100000):IntKind.i64.wrap ((i:Int)+1)=((i+1:Nat):Int):=by rw [pN (by omega) (by omega)];omega
theorem O4(n:aj): ∀(fu:Nat) (ok:Bool) (i:Int) (k:List Int),cO n fu ok i=some (k,true)→ok=true∧0≤n.Table∧n.Table≤3∧k=n.Kinds
 |0,_,_,_,h=>by unfold cO at h;cases h
 |fu+1,ok,i,k,h=>by
  unfold cO at h
  split at h
  ·cases ok with
   |false=>
    simp only [gm,d9,be]at h
    exact absurd (O4 n fu false _ k h).1 (by simp)
   |true=>
    simp only [eg]at h
    cases hx:cN n.Kinds i with
    |none=>rw [hx]at h;cases h
    |some e=>
     rw [hx]at h
     simp only [be]at h
     split at h
     ·exact⟨rfl,(O4 n fu _ _ k h).2⟩
     ·exact⟨rfl,(O4 n fu _ _ k h).2⟩
  ·injection h with h
   injection h with h h2
   simp only [my,kM]at h2
   exact⟨h2.1.1.1.1,h2.1.1.1.2,h2.1.1.2,h.symm⟩
theorem Xr(n:aj)(a:List Int)(hs:n.Aggs.length≤5000): ∀(l:List hU) (fu:Nat) (out:List Int) (ok:Bool) (i:Nat) (k:List Int),n.Aggs.drop i=l→cX n a fu out ok (i:Int)=some (k,true)→ok=true∧(∀g∈l,(B4 g a).2=true)∧k=out++(l.map fun g=>(B4 g a).1)∧n.Keys.length≤3
 |_,0,_,_,_,_,_,h=>by unfold cX at h;cases h
 |[],fu+1,out,ok,i,k,hd,h=>by
  unfold cX at h
  have:=uk hd
  rw [aK (by rw [kM];omega)]at h
  injection h with h
  injection h with h h2
  simp only [my,kM]at h2
  exact⟨h2.1.1.1,by simp,by simp [h],by have:=h2.1.1.2;omega⟩
 |g::t,fu+1,out,ok,i,k,hd,h=>by
  obtain⟨h1,h2,h3⟩:=kj hd
  unfold cX at h
  rw [aY (by rw [kM];omega),h1,be,pF,be,vy (by omega)]at h
  cases ha:app out [(B4 g a).1]with
  |none=>rw [ha]at h;cases h
  |some z=>
   rw [ha,be]at h
   obtain⟨p1,p2,p3,p4⟩:=Xr n a hs t fu z _ (i+1) k h3 h
   rw [my]at p1
   refine⟨p1.1,?_,?_,p4⟩
   ·intro y hy
    rcases fx.1 hy with q|q
    ·rw [q];exact p1.2
    ·exact p2 y q
   ·rw [p3,qE ha];simp
def FI(a:List Int)(c:Int):Int:=(a[c.toNat]?).getD 0
theorem Sr{a:List Int}{c:Int}(h:0≤c)(h2:c<(a.length:Int)):cN a c=some (FI a c):=by
 obtain⟨k,hk⟩:=EA h
 subst hk
 have hk:k<a.length:=by omega
 unfold FI
 rw [hJ k rfl]
 simp [hk]
theorem Xq(n:aj)(a:List Int)(hs:n.Keys.length≤5000)(hs2:n.Aggs.length≤5000): ∀(l:List Int) (fu:Nat) (out:List Int) (i:Nat) (k:List Int),n.Keys.drop i=l→cY n a fu out (i:Int)=some (k,true)→(∀c∈l,0≤c∧c<(a.length:Int))∧(∀g∈n.Aggs,(B4 g a).2=true)∧k=(out++l.map (FI a))++(n.Aggs.map fun g=>(B4 g a).1)∧n.Keys.length≤3
 |_,0,_,_,_,_,h=>by unfold cY at h;cases h
 |[],fu+1,out,i,k,hd,h=>by
  unfold cY at h
  have:=uk hd
  rw [aK (by rw [kM];omega)]at h
  obtain⟨_,p2,p3,p4⟩:=Xr n a hs2 n.Aggs iN out true 0 k (by simp) h
  exact⟨by simp,p2,by simpa using p3,p4⟩
 |c::t,fu+1,out,i,k,hd,h=>by
  obtain⟨h1,h2,h3⟩:=kj hd
  unfold cY at h
  rw [aY (by rw [kM];omega),h1,be,vy (by omega)]at h
  by_cases hc:0≤c∧c<(a.length:Int)
  ·rw [aK (by simp only [pZ,kM];omega),Sr hc.1 hc.2,be]at h
   cases ha:app out [FI a c]with
   |none=>rw [ha]at h;cases h
   |some z=>
    rw [ha,be]at h
    obtain⟨p1,p2,p3,p4⟩:=Xq n a hs hs2 t fu z (i+1) k h3 h
    refine⟨?_,p2,?_,p4⟩
    ·intro y hy
     rcases fx.1 hy with q|q
     ·rw [q];exact hc
     ·exact p1 y q
    ·rw [p3,qE ha];simp
  ·rw [aY (by simp only [pZ,kM];omega)]at h
   injection h with h
   injection h with h h2
   cases h2
theorem Xp(n:aj)(a:List Int)(hs:n.Items.length≤5000): ∀(l:List bJ) (fu:Nat) (out:List Int) (ok:Bool) (i:Nat) (k:List Int),n.Items.drop i=l→cW n a fu out ok (i:Int)=some (k,true)→ok=true∧(∀e∈l,(fR e a).2=0)∧k=out++l.map fun e=>(fR e a).1
 |_,0,_,_,_,_,_,h=>by unfold cW at h;cases h
 |[],fu+1,out,ok,i,k,hd,h=>by
  unfold cW at h
  have:=uk hd
  rw [aK (by rw [kM];omega)]at h
  injection h with h
  injection h with h h2
  simp only [my,kM]at h2
  exact⟨h2.1.1,by simp,by simp [h]⟩
 |g::t,fu+1,out,ok,i,k,hd,h=>by
  obtain⟨h1,h2,h3⟩:=kj hd
  unfold cW at h
  rw [aY (by rw [kM];omega),h1,be,lJ,be,vy (by omega)]at h
  cases ha:app out [(fR g a).1]with
  |none=>rw [ha]at h;cases h
  |some z=>
   rw [ha,be]at h
   obtain⟨p1,p2,p3⟩:=Xp n a hs t fu z _ (i+1) k h3 h
   simp only [my,sv]at p1
   refine⟨p1.1,?_,?_⟩
   ·intro y hy
    rcases fx.1 hy with q|q
    ·rw [q];exact p1.2
    ·exact p2 y q
   ·rw [p3,qE ha];simp
theorem OZ(n:aj)(a:List Int)(hs:n.Order.length≤5000): ∀(l:List fq) (fu:Nat) (ok:Bool) (i:Nat) (k:List Int),n.Order.drop i=l→cB n a fu ok (i:Int)=some (k,true)→ok=true∧k=a∧ ∀o∈l,0≤o.Col∧o.Col<(a.length:Int)
 |_,0,_,_,_,_,h=>by unfold cB at h;cases h
 |[],fu+1,ok,i,k,hd,h=>by
  unfold cB at h
  have:=uk hd
  rw [aK (by rw [kM];omega)]at h
  injection h with h
  injection h with h h2
  simp only [my,kM]at h2
  exact⟨h2.1.1.1,h.symm,by simp⟩
 |o::t,fu+1,ok,i,k,hd,h=>by
  obtain⟨h1,h2,h3⟩:=kj hd
  unfold cB at h
  rw [aY (by rw [kM];omega),h1,vy (by omega)]at h
  cases ok with
  |false=>
   simp only [gm,d9,be]at h
   exact absurd (OZ n a hs t fu false (i+1) k h3 h).1 (by simp)
  |true=>
   simp only [eg,be]at h
   by_cases hc:0≤o.Col
   ·rw [aY (by simpa using hc),be]at h
    obtain⟨p1,p2,p3⟩:=OZ n a hs t fu _ (i+1) k h3 h
    refine⟨rfl,p2,?_⟩
    intro y hy
    rcases fx.1 hy with q|q
    ·rw [q];exact⟨hc,by simpa using p1⟩
    ·exact p3 y q
   ·rw [aK (by simpa using hc),be]at h
    exact absurd (OZ n a hs t fu false (i+1) k h3 h).1 (by simp)
def Pe(x y k:Int):Prop:=(x=k∨x=0)∧(y=k∨y=0)
theorem O3(b:List Int)(hb:b.length≤5000): ∀(l:List Int) (i:Nat) (out:List Int) (ok:Bool) (k:List Int),l.length+i=b.length→dB b l i out ok=some (k,true)→ok=true∧ ∃t:List Int,k=out++t∧t.length=l.length∧ ∀(j:Nat) (x y z:Int),l[j]? =some x→b[i+j]? =some y→t[j]? =some z→Pe x y z
 |[],i,out,ok,k,_,h=>by
  unfold dB at h
  injection h with h
  injection h with h h2
  exact⟨h2,[],by simp [h],rfl,by simp⟩
 |x::l,i,out,ok,k,hl,h=>by
  rw [iY]at hl
  have hib:i<b.length:=by omega
  have hi:cN b (i:Int)=some b[i]:=by rw [hJ i rfl,oM hib]
  have key: ∀k0:Int,iH b (dB b l) i out ok k0=some (k,true)→ok=true∧(b[i]=k0∨b[i]=0)∧ ∃t:List Int,k=out++k0::t∧t.length=l.length∧ ∀(j:Nat) (x y z:Int),l[j]? =some x→b[i+1+j]? =some y→t[j]? =some z→Pe x y z:=by
   intro k0 h
   unfold iH at h
   cases ha:app out [k0]with
   |none=>rw [ha]at h;cases h
   |some z=>
    rw [ha,be,hi]at h
    cases ok with
    |false=>
     simp only [gm,d9,be]at h
     exact absurd (O3 b hb l (i+1) z false k (by omega) h).1 (by simp)
    |true=>
     simp only [eg,be]at h
     by_cases he:b[i]=k0
     ·rw [aK (by simp [he]),be,be]at h
      obtain⟨_,t,p1,p2,p3⟩:=O3 b hb l (i+1) z _ k (by omega) h
      exact⟨rfl,.inl he,t,by rw [p1,qE ha];simp,p2,p3⟩
     ·rw [aY (by simp [he]),be,be]at h
      obtain⟨p0,t,p1,p2,p3⟩:=O3 b hb l (i+1) z _ k (by omega) h
      exact⟨rfl,.inr (by simpa using p0),t,by rw [p1,qE ha];simp,p2,p3⟩
  have fin: ∀k0:Int,(x=k0∨x=0)→iH b (dB b l) i out ok k0=some (k,true)→ok=true∧ ∃t:List Int,k=out++t∧t.length=(x::l).length∧ ∀(j:Nat) (x1 y z:Int),(x::l)[j]? =some x1→b[i+j]? =some y→t[j]? =some z→Pe x1 y z:=by
   intro k0 hx h
   obtain⟨p0,p1,t,p2,p3,p4⟩:=key k0 h
   refine⟨p0,k0::t,p2,by simp [p3],?_⟩
   intro j x1 y z h1 h2 h3
   cases j with
   |zero=>
    simp only [Gs,A9]at h1 h3
    rw [xD,oM hib,A9]at h2
    subst h1;subst h3;subst h2
    exact⟨hx,p1⟩
   |succ j=>
    rw [OA]at h1 h3
    exact p4 j x1 y z h1 (by rw [←h2];congr 1;omega) h3
  unfold dB at h
  by_cases hx:x=0
  ·rw [aY (by simpa using hx),hi,be]at h
   exact fin _ (.inr hx) h
  ·rw [aK (by simpa using hx)]at h
   exact fin _ (.inl rfl) h
theorem I1{a b:List Int}(hop:n.Op=1)(h:bo n a b=some (k,true)):k=n.Kinds∧0≤n.Table∧n.Table≤3:=by
 unfold bo at h
 rw [aY (by simpa using hop)]at h
 obtain⟨_,h1,h2,h3⟩:=O4 n _ _ _ _ h
 exact⟨h3,h1,h2⟩
theorem OY{a b:List Int}(hop:n.Op=2)(h:bo n a b=some (k,true)):k=a++b∧Io n.Cond (a++b)=true:=by
 unfold bo at h
 rw [aK (by rw [hop];decide),aY (by simpa using hop)]at h
 cases h1:app ([]:List Int) a with
 |none=>rw [h1]at h;cases h
 |some l=>
  rw [h1,be]at h
  cases h2:app l b with
  |none=>rw [h2]at h;cases h
  |some o=>
   have e1:=qE h1
   have e2:=qE h2
   rw [h2,be,mf,be]at h
   injection h with h
   injection h with h h3
   subst h
   rw [e1,kz]at e2
   rw [e2]at h3 ⊢
   exact⟨rfl,h3⟩
theorem Hx{a b:List Int}(hop:n.Op=3)(h:bo n a b=some (k,true)):k=a∧Io n.Cond a=true:=by
 unfold bo at h
 rw [aK (by rw [hop];decide),aK (by rw [hop];decide),aY (by simpa using hop),mf,be]at h
 injection h with h
 injection h with h h3
 exact⟨h.symm,h3⟩
theorem La{a b:List Int}(hs:iv n)(hop:n.Op=4)(h:bo n a b=some (k,true)):(∀c∈n.Keys,0≤c∧c<(a.length:Int))∧(∀g∈n.Aggs,(B4 g a).2=true)∧k=n.Keys.map (FI a)++(n.Aggs.map fun g=>(B4 g a).1)∧n.Keys.length≤3:=by
 unfold bo at h
 rw [aK (by rw [hop];decide),aK (by rw [hop];decide),aK (by rw [hop];decide),aY (by simpa using hop)]at h
 have:=Xq n a hs.keys hs.aggs n.Keys iN [] 0 k (by simp) h
 simpa using this
theorem Fv{a b:List Int}(hs:iv n)(hop:n.Op=5)(h:bo n a b=some (k,true)):(∀e∈n.Items,(fR e a).2=0)∧k=n.Items.map fun e=>(fR e a).1:=by
 unfold bo at h
 rw [aK (by rw [hop];decide),aK (by rw [hop];decide),aK (by rw [hop];decide),aK (by rw [hop];decide),aY (by simpa using hop)]at h
 have:=Xp n a hs.items n.Items iN [] true 0 k (by simp) h
 simpa using this.2
theorem Lb{a b:List Int}(hop:n.Op=6)(h:bo n a b=some (k,true)):k=a:=by
 unfold bo at h
 rw [aK (by rw [hop];decide),aK (by rw [hop];decide),aK (by rw [hop];decide),aK (by rw [hop];decide),aK (by rw [hop];decide),aY (by simpa using hop)]at h
 injection h with h
 injection h with h _
 exact h.symm
theorem Sa{a b:List Int}(hal:a.length≤5000)(hop:n.Op=7)(h:bo n a b=some (k,true)):a.length=b.length∧k.length=a.length∧ ∀(j:Nat) (x y z:Int),a[j]? =some x→b[j]? =some y→k[j]? =some z→Pe x y z:=by
 unfold bo at h
 rw [aK (by rw [hop];decide),aK (by rw [hop];decide),aK (by rw [hop];decide),aK (by rw [hop];decide),aK (by rw [hop];decide),aK (by rw [hop];decide),aY (by simpa using hop)]at h
 by_cases he:a.length=b.length
 ·rw [aK (by simp [he])]at h
  obtain⟨_,t,p1,p2,p3⟩:=O3 b (by omega) a 0 [] true k (by omega) h
  rw [kz]at p1
  subst p1
  refine⟨he,p2,fun j x y z h1 h2 h3=>p3 j x y z h1 (by rw [qS];exact h2) h3⟩
 ·rw [aY (by simp only [qR,o8];omega)]at h
  injection h with h
  injection h with h h2
  cases h2
theorem I0{a b:List Int}(hs:iv n)(hop:n.Op=8)(h:bo n a b=some (k,true)):k=a∧ ∀o∈n.Order,0≤o.Col∧o.Col<(a.length:Int):=by
 unfold bo at h
 rw [aK (by rw [hop];decide),aK (by rw [hop];decide),aK (by rw [hop];decide),aK (by rw [hop];decide),aK (by rw [hop];decide),aK (by rw [hop];decide),aK (by rw [hop];decide)]at h
 have:=OZ n a hs.order n.Order iN true 0 k (by simp) h
 exact this.2

theorem Bi{f:α→α→Int}(h:DK f){p:List α}(hp:p.Pairwise fun a b=>f a b<0):p.Nodup:=by
 unfold List.Nodup
 refine hp.imp ?_
 intro a b hab he
 subst he
 have:=h.self a
 omega
theorem Gy [DecidableEq α]{f:α→α→Int}(h:DK f){p q:List α}(hp:p.Pairwise fun a b=>f a b<0)(hq:q.Pairwise fun a b=>f a b<0)(hm: ∀z,z∈p↔z∈q):p=q:=by
 have hpq:p.Perm q:=(List.perm_ext_iff_of_nodup (Bi h hp) (Bi h hq)).2 hm
 exact zW h (hp.imp fun h=>by omega) (hq.imp fun h=>by omega) hpq
theorem E0{α κ:Type} [DecidableEq κ](key:α→κ)(kf:List α→κ): ∀(R:List (List α)),(∀y∈R,∀z∈y,key z=kf y)→R.Pairwise (fun a b=>kf a≠kf b)→ ∀y∈R,R.flatten.filter (fun z=>decide (key z=kf y))=y
 |[],_,_,y,hy=>by cases hy
 |x::t,h1,h2,y,hy=>by
  rw [Cf]at h2
  rw [List.flatten_cons,List.filter_append]
  have ht: ∀w∈t,∀z∈w,key z=kf w:=fun w hw=>h1 w (kN _ hw)
  rcases fx.1 hy with q|q
  ·subst q
   have e1:y.filter (fun z=>decide (key z=kf y))=y:=by
    rw [List.filter_eq_self]
    intro z hz
    rw [kM]
    exact h1 y (kZ ..) z hz
   have e2:t.flatten.filter (fun z=>decide (key z=kf y))=[]:=by
    rw [List.filter_eq_nil_iff]
    intro z hz
    obtain⟨w,hw,hz⟩:=List.mem_flatten.1 hz
    rw [kM,ht w hw z hz]
    exact fun e=>h2.1 w hw e.symm
   rw [e1,e2,sw]
  ·have e1:x.filter (fun z=>decide (key z=kf y))=[]:=by
    rw [List.filter_eq_nil_iff]
    intro z hz
    rw [kM,h1 x (kZ ..) z hz]
    exact h2.1 y q
   rw [e1,kz]
   exact E0 key kf t ht h2.2 y q
def uT(c:List Int)(l:List ci):List iw:=(pj (oa (l.map (gL c)))).map fun k=>⟨k,oa (l.filter fun r=>decide (gL c r=k))⟩
theorem Kx(c:List Int){l:List ci}(hl:l.length≤8000):(vD (GW c) l.length (rQ (yz c) l)).map (HE c)=uT c l:=by
 have hC:=Ly c
 have hL:=tJ hC l (by omega)
 have hP:=iC (yz c) l
 generalize hLe:rQ (yz c) l=L at hL hP
 have hlen:L.length=l.length:=hP.length_eq
 have hflat:=Hp (GW c) l.length L (by omega)
 have hkeys:=Ho c l.length L hL
 have hmem:=EW (GW c) l.length L
 generalize vD (GW c) l.length L=R at hflat hkeys hmem
 have hkey: ∀y∈R,∀z∈y,gL c z=(HE c y).Key:=by
  intro y hy z hz
  obtain⟨x,t,e,_,h2⟩:=hmem y hy
  subst e
  show gL c z=gL c x
  rcases fx.1 hz with q|q
  ·rw [q]
  ·have:=(h2 z q).2
   unfold GW at this
   exact(JU this).symm
 have hpw:R.Pairwise fun a b=>(HE c a).Key≠(HE c b).Key:=by
  rw [List.pairwise_map]at hkeys
  refine hkeys.imp ?_
  intro a b hab he
  rw [he,fK.self]at hab
  omega
 have hfil:=E0 (gL c) (fun y=>(HE c y).Key) R hkey hpw
 rw [hflat]at hfil
 have hrows: ∀g∈R.map (HE c),g=⟨g.Key,oa (l.filter fun r=>decide (gL c r=g.Key))⟩:=by
  intro g hg
  obtain⟨y,hy,e⟩:=vq.1 hg
  subst e
  have hf:=hfil y hy
  have e:y=oa (l.filter fun r=>decide (gL c r=(HE c y).Key)):=by
   refine zW fK ?_ (tJ fK _ (by have:=JW (fun r=>decide (gL c r=(HE c y).Key)) l;omega)) ?_
   ·have hs:s6 (yz c) y:=by
     have:s6 (yz c) (L.filter fun z=>decide (gL c z=(HE c y).Key)):=List.Pairwise.filter _ hL
     rw [hf]at this
     exact this
    refine List.Pairwise.imp_of_mem ?_ hs
    intro a b ha hb hab
    unfold yz at hab
    rw [hkey y hy a ha,hkey y hy b hb,fK.self]at hab
    exact hab
   ·have hp:=(hP.filter fun z=>decide (gL c z=(HE c y).Key))
    rw [hf]at hp
    exact hp.trans (iC dV _).symm
  have hR:HE c y=⟨(HE c y).Key,y⟩:=rfl
  rw [hR]
  simp only []
  rw [←e]
 have hk:(R.map (HE c)).map (fun g=>g.Key)=pj (oa (l.map (gL c))):=by
  refine Gy fK ?_ (BX fK (tJ fK _ (by simp;omega))) ?_
  ·rw [List.pairwise_map];exact hkeys
  ·intro z
   rw [tm,(iC dV _).mem_iff,List.map_map,vq,vq]
   constructor
   ·rintro⟨y,hy,e⟩
    obtain⟨x,t,e2,hx,_⟩:=hmem y hy
    exact⟨x,hP.mem_iff.1 hx,by rw [←e,e2];rfl⟩
   ·rintro⟨x,hx,e⟩
    have hx:=hP.mem_iff.2 hx
    rw [←hflat]at hx
    obtain⟨y,hy,hxy⟩:=List.mem_flatten.1 hx
    exact⟨y,hy,by rw [←e];exact(hkey y hy x hxy).symm⟩
 unfold uT
 rw [←hk,List.map_map]
 conv=>lhs;rw [←List.map_id (R.map (HE c))]
 exact G8 fun g hg=>hrows g hg
theorem GC{l:List ci}(h:HU l){c:List Int}(hr:uq l=true)(hc:Bz l c=true):tP l c=some (uT c l,0):=by
 have ha:wZ l c=0:=by unfold wZ;rw [hr,hc];rfl
 rw [GD h,aY ha,Kx c h.len]

def RK:List Int→ci→Prop
 |[],[]=>True
 |k::ks,v::vs=>Pl v∧re v k∧RK ks vs
 |[],_::_=>False
 |_::_,[]=>False
theorem RK.len: ∀{ks:List Int} {r:ci},RK ks r→r.length=ks.length
 |[],[],_=>rfl
 |k::ks,v::vs,h=>by rw [iY,iY,h.2.2.len]
 |[],_::_,h=>h.elim
 |_::_,[],h=>h.elim
theorem RK.pl: ∀{ks:List Int} {r:ci},RK ks r→ ∀v∈r,Pl v
 |[],[],_,v,hv=>by cases hv
 |k::ks,w::vs,h,v,hv=>by
  rcases fx.1 hv with q|q
  ·rw [q];exact h.1
  ·exact h.2.2.pl v q
 |[],_::_,h,_,_=>h.elim
 |_::_,[],h,_,_=>h.elim
theorem RK.kindR: ∀{ks:List Int} {r:ci},RK ks r→kindR ks r
 |[],[],_=>fun j k h=>by simp at h
 |k::ks,v::vs,h=>fun j x hx=>by
  cases j with
  |zero=>
   simp only [Gs,A9]at hx
   subst hx
   exact⟨v,rfl,h.1,h.2.1⟩
  |succ j=>
   rw [OA]at hx
   exact h.2.2.kindR j x hx
 |[],_::_,h=>h.elim
 |_::_,[],h=>h.elim
theorem RK.rg{ks:List Int}(h:RK ks r):Uy r:=fun v hv=>(h.pl v hv).r64
theorem RK.right{ks:List Int}(h:RK ks r)(hk:ks.length≤16):dM r=true:=by
 unfold dM
 rw [my,kM,jW]
 exact⟨by rw [h.len];exact hk,fun v hv=>(h.pl v hv).right⟩
theorem RK.app: ∀{a b:List Int} {x y:ci},RK a x→RK b y→RK (a++b) (x++y)
 |[],_,[],_,_,h=>h
 |k::ks,b,v::vs,y,h,h2=>⟨h.1,h.2.1,h.2.2.app h2⟩
 |[],_,_::_,_,h,_=>h.elim
 |_::_,_,[],_,h,_=>h.elim
theorem Mf: ∀(ks:List Int),RK ks (List.replicate ks.length zV)
 |[]=>trivial
 |k::ks=>⟨.z,.inr rfl,Mf ks⟩
theorem RK.map(f:α→ac)(g:α→Int): ∀(l:List α),(∀e∈l,Pl (f e)∧re (f e) (g e))→RK (l.map g) (l.map f)
 |[],_=>trivial
 |e::t,h=>⟨(h e (kZ ..)).1,(h e (kZ ..)).2,RK.map f g t fun x hx=>h x (kN _ hx)⟩
theorem RK.at: ∀{ks:List Int} {r:ci},RK ks r→ ∀(j:Nat),j<ks.length→Pl ((r[j]?).getD zV)∧re ((r[j]?).getD zV) ((ks[j]?).getD 0)
 |[],[],_,j,h=>by simp at h
 |k::ks,v::vs,h,j,hj=>by
  cases j with
  |zero=>exact⟨h.1,h.2.1⟩
  |succ j=>simpa using h.2.2.at j (by simpa using hj)
 |[],_::_,h,_,_=>h.elim
 |_::_,[],h,_,_=>h.elim
theorem RK.as: ∀{a k:List Int} {r:ci},RK a r→k.length=a.length→(∀(j:Nat) (x z:Int),a[j]? =some x→k[j]? =some z→x=z∨x=0)→RK k r
 |[],[],[],_,_,_=>trivial
 |x::a,z::k,v::vs,h,hl,hk=>by
  refine⟨h.1,?_,h.2.2.as (by simpa using hl) fun j x z h1 h2=>hk (j+1) x z (by simpa using h1) (by simpa using h2)⟩
  have:=hk 0 x z rfl rfl
  have h2:=h.2.1
  unfold re at h2 ⊢
  omega
 |[],_::_,_,_,hl,_=>by simp at hl
 |_::_,[],_,_,hl,_=>by simp at hl
 |[],[],_::_,h,_,_=>h.elim
 |_::_,_::_,[],h,_,_=>h.elim
def su(ks:List Int)(l:List ci):Prop:= ∀r∈l,RK ks r
theorem su.perm{ks:List Int}{a b:List ci}(h:su ks a)(hp:a.Perm b):su ks b:=fun r hr=>h r (hp.mem_iff.2 hr)
theorem su.allr{ks:List Int}{l:List ci}(h:su ks l)(hk:ks.length≤16):uq l=true:=by
 unfold uq
 rw [jW]
 exact fun r hr=>(h r hr).right hk
theorem su.small{ks:List Int}{l:List ci}(h:su ks l)(hk:ks.length≤16)(hl:l.length≤8000):HU l:=⟨hl,fun r hr=>by rw [(h r hr).len];omega⟩
theorem su.rg{ks:List Int}{l:List ci}(h:su ks l):E7 l:=fun r hr=>(h r hr).rg
structure Re(e:bJ):Prop where
 len:e.Nodes.length≤200
 rg:IE e.Nodes
def XA(e:bJ)(r:ci):ac:=(o6 r e.Nodes).1
def wO(e:bJ)(r:ci):Bool:=(o6 r e.Nodes).2==140
theorem Wz(he:Re e){ks:List Int}(hk:(fR e ks).2=0)(hr:RK ks r):((o6 r e.Nodes).2=0∧wO e r=false∧Pl (XA e r)∧re (XA e r) (fR e ks).1)∨(o6 r e.Nodes=(zV,140)∧wO e r=true∧XA e r=zV∧e.Nodes.any ZJ=true):=by
 rcases QG e.Nodes he.len he.rg ks hk r hr.kindR hr.rg hr.len with h|h
 ·exact .inl ⟨h.1,by unfold wO;rw [h.1];rfl,h.2.1,h.2.2⟩
 ·have:o6 r e.Nodes=(zV,140):=by
   rcases zj (r:=r) he.rg hr.rg with q|q|q
   ·rw [q.1]at h;exact absurd h.1 (by decide)
   ·exact absurd h.1 q.2.1
   ·exact q
  exact .inr ⟨this,by unfold wO;rw [this];rfl,by unfold XA;rw [this],h.2⟩
def Xd(v:ac):Bool:=v.Kind==1&&v.N==1
theorem zQ{v:ac}(h:Pl v):wt v=some (Xd v):=by
 have e:py true=some (bV true):=rfl
 unfold wt
 rw [e,be]
 congr 1
 cases h with
 |z=>rfl
 |b b=>cases b<;>rfl
 |i n _=>rfl
 |s s _=>rfl
def pV(e:bJ)(r:ci):Bool:=Xd (XA e r)
theorem yS{ks:List Int}(h:Io e ks=true):(fR e ks).2=0:=by
 unfold Io at h
 rw [my,sv]at h
 exact h.1
theorem Lv(he:Re e){ks:List Int}(hk:(fR e ks).2=0)(hr:RK ks r):qB e r=some (pV e r,if wO e r then 140 else 0):=by
 unfold qB
 rw [wS e r (by have:=he.len;omega) he.rg hr.rg,be]
 unfold pV
 rcases Wz he hk hr with q|q
 ·rw [show(o6 r e.Nodes).1=XA e r from rfl,zQ q.2.2.1,be,q.1,q.2.1];rfl
 ·rw [q.1,q.2.1,q.2.2.1,zQ .z];rfl
theorem CD{n:aj}(he:Re n.Cond){ks:List Int}(hk:(fR n.Cond ks).2=0): ∀(l out:List ci),su ks l→out.length+l.length≤1000000→gg n l out=some (if l.any (wO n.Cond)then([],140)else(out++l.filter (pV n.Cond),0))
 |[],out,_,_=>by unfold gg;simp
 |r::t,out,h,hl=>by
  rw [iY]at hl
  unfold gg
  have hr:=h r (kZ ..)
  have ht:su ks t:=fun x hx=>h x (kN _ hx)
  rw [Lv he hk hr,be,vu,List.filter_cons]
  by_cases hf:wO n.Cond r=true
  ·rw [hf];rfl
  ·rw [rN.2 hf]
   simp only [gm,d9,zP,rM]
   by_cases hh:pV n.Cond r=true
   ·rw [aY hh,aY hh,cq (by simp;omega),be,CD he hk t _ ht (by simp only [jg,Am];omega),jX,Hb]
   ·rw [aK hh,aK hh,CD he hk t _ ht (by omega)]
def KG(items:List bJ)(r:ci):ci:=items.map fun e=>XA e r
def I8(items:List bJ)(r:ci):Bool:=items.any fun e=>wO e r
theorem OR(nx:List ci→Option (List ci×Int)){ks:List Int}{r:ci}(hr:RK ks r)(out:List ci)(ho:out.length≤1000000): ∀(items:List bJ) (y:ci),(∀e∈items,Re e∧(fR e ks).2=0)→y.length+items.length≤1000000→gT nx r out items y=if I8 items r then some ([],140)else nx (out++[y++KG items r])
 |[],y,_,_=>by unfold gT;rw [cq (by simp;omega)];simp [I8,KG]
 |e::t,y,h,hl=>by
  rw [iY]at hl
  unfold gT
  obtain⟨he,hk⟩:=h e (kZ ..)
  have ht:=fun x hx=>h x (kN e hx)
  rw [wS e r (by have:=he.len;omega) he.rg hr.rg,be]
  have e1:I8 (e::t) r=(wO e r||I8 t r):=rfl
  rw [e1]
  rcases Wz he hk hr with q|q
  ·rw [aK (by rw [q.1];decide),cq (by simp;omega),be,OR nx hr out ho t _ ht (by simp only [jg,Am];omega),q.2.1]
   simp [KG,XA]
  ·rw [q.1,q.2.1];rfl
theorem OS{n:aj}{ks:List Int}(hi: ∀e∈n.Items,Re e∧(fR e ks).2=0)(hil:n.Items.length≤100000): ∀(l out:List ci),su ks l→out.length+l.length≤1000000→fJ n l out=some (if l.any (I8 n.Items)then([],140)else(out++l.map (KG n.Items),0))
 |[],out,_,_=>by unfold fJ;simp
 |r::t,out,h,hl=>by
  rw [iY]at hl
  unfold fJ
  have hr:=h r (kZ ..)
  have ht:su ks t:=fun x hx=>h x (kN _ hx)
  rw [OR _ hr out (by omega) n.Items [] hi (by simp;omega),vu]
  by_cases hf:I8 n.Items r=true
  ·rw [hf];rfl
  ·rw [rN.2 hf]
   simp only [gm,d9,rM,kz]
   rw [OS hi hil t _ ht (by simp only [jg,Am];omega)]
   simp

variable{rows:List (List ci)}
theorem Oj{g:hU}(hg:Re g.Arg){ks:List Int}(h:(B4 g ks).2=true){rows:List ci}(hr:su ks rows)(hl:rows.length≤8000):((w9 g rows).2=0∧Pl (w9 g rows).1∧re (w9 g rows).1 (B4 g ks).1)∨(w9 g rows=(zV,140)∧Rx g=true):=by
 obtain⟨s1,s2⟩:=Er g ks
 rw [←s1]at h
 rw [←s2 h]
 unfold PQ at h ⊢
 unfold w9
 have hi: ∀n:Nat,n≤8000→Pl (iV (n:Int))∧re (iV (n:Int)) 2:=fun n hn=>⟨.i _ (by unfold r64;omega),.inl rfl⟩
 by_cases h1:g.Tag=1
 ·rw [aY h1,aY h1]
  exact .inl ⟨rfl,hi _ hl⟩
 ·rw [aK h1]at h ⊢
  rw [aK h1]
  have hk:(fR g.Arg ks).2=0:=by
   by_cases h2:g.Tag=2
   ·rw [aY h2]at h;simpa using h
   ·rw [aK h2]at h
    by_cases h3:g.Tag=3
    ·rw [aY h3]at h;simp only [my,sv]at h;exact h.1
    ·rw [aK h3]at h
     by_cases h4:g.Tag=4∨g.Tag=5
     ·rw [aY h4]at h;simpa using h
     ·rw [aK h4]at h;cases h
  have hb:D4 g.Arg.Nodes rows=false:=by
   unfold D4
   rw [JR]
   intro r hm
   rcases Wz hg hk (hr r hm)with q|q
   ·rw [q.1];decide
   ·rw [q.1];decide
  have hvs: ∀v∈BO g.Arg.Nodes rows,Pl v∧v.Kind=(fR g.Arg ks).1:=by
   intro v hv
   refine⟨Jv hg.rg hr.rg v hv,?_⟩
   unfold BO at hv
   obtain⟨r,hm,he⟩:=List.mem_filterMap.1 hv
   split at he
   ·rename_i hc
    injection he with he
    rcases Wz hg hk (hr r hm)with q|q
    ·rw [←he]
     exact q.2.2.2.resolve_right hc.2
    ·rw [q.1]at hc;exact absurd hc.1 (by decide)
   ·cases he
  have hlen:=Pz g.Arg.Nodes rows
  have ho:sC g.Tag (BO g.Arg.Nodes rows)=false:=by
   unfold sC
   by_cases h3:g.Tag=3
   ·rw [aK (by omega),aY h3]at h
    simp only [my,sv,pZ]at h
    rw [h3]
    simp only [G4,u9]
    rw [JR]
    intro v hv
    have hkv:=(hvs v hv).2
    have hne:v.Kind≠0:=by
     unfold BO at hv
     obtain⟨r,hm,he⟩:=List.mem_filterMap.1 hv
     split at he
     ·rename_i hc;injection he with he;rw [←he];exact hc.2
     ·cases he
    simp only [qR,o8,Classical.not_not]
    omega
   ·have:(g.Tag==3)=false:=by simpa using h3
    rw [this];rfl
  rw [hb,ho]
  simp only [Bool.or_self,gm,d9]
  by_cases hf:DZ g.Arg.Nodes rows=true
  ·rw [aY hf]
   refine .inr ⟨rfl,?_⟩
   unfold Rx
   split
   ·rfl
   ·unfold DZ at hf
    obtain⟨r,hm,hq⟩:=uB.1 hf
    rcases Wz hg hk (hr r hm)with q|q
    ·rw [q.1]at hq;cases hq
    ·unfold Ki
     rw [q.2.2.2,xM]
     cases hn:g.Arg.Nodes with
     |nil=>have:=q.2.2.2;rw [hn]at this;cases this
     |cons x t=>rfl
  ·rw [aK hf]
   unfold SK
   rw [aK (by decide)]
   by_cases h2:g.Tag=2
   ·rw [aY h2,aY h2]
    exact .inl ⟨rfl,hi _ (by omega)⟩
   ·rw [aK h2,aK h2]
    by_cases h3:g.Tag=3
    ·rw [aY h3,aY h3]
     unfold RI
     split
     ·exact .inl ⟨rfl,.z,.inr rfl⟩
     ·by_cases hs:r64 (qW (BO g.Arg.Nodes rows))
      ·rw [aY hs];exact .inl ⟨rfl,.i _ hs,.inl rfl⟩
      ·rw [aK hs];exact .inr ⟨rfl,by unfold Rx;rw [aY h3]⟩
    ·rw [aK h3,aK h3]
     have h45:g.Tag=4∨g.Tag=5:=by
      rw [aK h2,aK h3]at h
      by_cases h4:g.Tag=4∨g.Tag=5
      ·exact h4
      ·rw [aK h4]at h;cases h
     rw [aY h45]
     refine .inl ⟨rfl,?_⟩
     by_cases hz:BO g.Arg.Nodes rows=[]
     ·rw [hz];exact⟨.z,.inr rfl⟩
     ·have:=hvs _ (TD g.Tag _ hz)
      exact⟨this.1,.inl this.2⟩
def Uw(aggs:List hU)(g:iw):ci:=g.Key++aggs.map fun a=>(w9 a g.Rows).1
def I9(aggs:List hU)(g:iw):Bool:=aggs.any fun a=>(w9 a g.Rows).2==140
def GOK(aggs:List hU)(g:iw):Prop:= ∀a∈aggs,mw a g.Rows=some (w9 a g.Rows)∧sx a g.Rows=some (w9 a g.Rows)∧((w9 a g.Rows).2=0∨w9 a g.Rows=(zV,140))
theorem Sx(nx:List ci→Option (List ci×Int))(g:iw)(out:List ci)(ho:out.length≤1000000): ∀(aggs:List hU) (x:ci),GOK aggs g→x.length+aggs.length≤1000000→iT nx g out aggs x=if I9 aggs g then some ([],140)else nx (out++[x++aggs.map fun a=>(w9 a g.Rows).1])
 |[],x,_,_=>by unfold iT;rw [cq (by simp;omega)];simp [I9]
 |a::t,x,h,hl=>by
  rw [iY]at hl
  unfold iT
  obtain⟨h1,_,h3⟩:=h a (kZ ..)
  have ht:GOK t g:=fun x hx=>h x (kN a hx)
  have e1:I9 (a::t) g=((w9 a g.Rows).2==140||I9 t g):=rfl
  rw [h1,be,e1]
  rcases h3 with q|q
  ·rw [aK (by rw [q];decide),cq (by simp;omega),be,Sx nx g out ho t _ ht (by simp only [jg,Am];omega),q]
   simp
  ·rw [q];rfl
theorem Rf(r:ci)(h:r.length≤1000):cA r=some r:=C2 r (by omega)
theorem Sy{n:aj}(ha:n.Aggs.length≤100000): ∀(gs:List iw) (out:List ci),(∀g∈gs,GOK n.Aggs g∧g.Key.length≤1000)→out.length+gs.length≤1000000→fD n gs out=some (if gs.any (I9 n.Aggs)then([],140)else(out++gs.map (Uw n.Aggs),0))
 |[],out,_,_=>by unfold fD;simp
 |g::t,out,h,hl=>by
  rw [iY]at hl
  unfold fD
  obtain⟨h1,h2⟩:=h g (kZ ..)
  have ht:=fun x hx=>h x (kN g hx)
  rw [Rf _ h2,be,Sx _ g out (by omega) n.Aggs g.Key h1 (by omega),vu]
  by_cases hf:I9 n.Aggs g=true
  ·rw [hf];rfl
  ·rw [rN.2 hf]
   simp only [gm,d9,rM]
   rw [Sy ha t _ ht (by simp only [jg,Am];omega)]
   simp [Uw]
theorem Ko{r:ci}: ∀{c:List Int} (out:ci),(∀e∈c,0≤e∧e<(r.length:Int))→out.length+c.length≤1000→mD r c out=some (out++c.map (atR r))
 |[],out,_,_=>by unfold mD;simp
 |e::t,out,h,hl=>by
  rw [iY]at hl
  unfold mD
  have he:=h e (kZ ..)
  rw [I6 he.1 he.2,be,cq (by simp;omega),be,Ko _ (fun x hx=>h x (kN _ hx)) (by simp only [jg,Am];omega)]
  simp
theorem RF{c:List Int}(h:oy r c=true):gL c r=c.map (atR r):=by
 unfold oy at h
 rw [my,kM,jW]at h
 have:ot r c=some ([]++c.map (atR r)):=Ko [] (fun e he=>by have:=h.2 e he;simpa using this) (by simp;omega)
 unfold gL
 rw [this];rfl
theorem RK.key{ks:List Int}(h:RK ks r): ∀c:List Int,(∀e∈c,0≤e∧e<(ks.length:Int))→RK (c.map (FI ks)) (c.map (atR r)):=fun c hc=>
 RK.map (atR r) (FI ks) c fun e he=>by
  obtain⟨h1,h2⟩:=hc e he
  exact h.at e.toNat (by omega)
def gP(c:List Int)(l:List ci):List iw:=if c=[]∧uT c l=[]then [⟨[],[]⟩]else uT c l
structure Mn(n:aj)(ks:List Int):Prop where
 cols: ∀c∈n.Keys,0≤c∧c<(ks.length:Int)
 ags: ∀g∈n.Aggs,Re g.Arg∧(B4 g ks).2=true
 len:ks.length≤16
 keys:n.Keys.length≤16
 naggs:n.Aggs.length≤5000
theorem OW{ks:List Int}(h:Mn n ks){l:List ci}(hr:su ks l):Bz l n.Keys=true:=by
 unfold Bz
 simp only [my,kM,jW]
 refine⟨⟨h.keys,fun e he=>(h.cols e he).1⟩,fun r hm=>?_⟩
 unfold oy
 simp only [my,kM,jW]
 refine⟨h.keys,fun e he=>?_⟩
 have:=(hr r hm).len
 have:=h.cols e he
 omega
theorem Yt{g:hU}{ks:List Int}(h:(B4 g ks).2=true):g.Tag=1∨g.Tag=2∨g.Tag=3∨g.Tag=4∨g.Tag=5:=by
 rw [←(Er g ks).1]at h
 unfold PQ at h
 by_cases h1:g.Tag=1
 ·exact .inl h1
 ·by_cases h2:g.Tag=2
  ·exact .inr (.inl h2)
  ·by_cases h3:g.Tag=3
   ·exact .inr (.inr (.inl h3))
   ·by_cases h4:g.Tag=4∨g.Tag=5
    ·exact .inr (.inr (.inr h4))
    ·rw [aK h1,aK h2,aK h3,aK h4]at h;cases h
theorem ZO{ks:List Int}(h:Mn n ks){key:ci}{rows:List ci}(hr:su ks rows)(hl:rows.length≤8000):GOK n.Aggs ⟨key,rows⟩:=by
 intro a ha
 obtain⟨h1,h2⟩:=h.ags a ha
 refine⟨zK a (by have:=h1.len;omega) h1.rg (Yt h2) hr.rg (by show rows.length≤90000;omega),Az a h1.rg hr.rg (by show rows.length≤90000;omega),?_⟩
 rcases Oj h1 h2 hr hl with q|q
 ·exact .inl q.1
 ·exact .inr q.1
theorem Yv{ks:List Int}(h:Mn n ks){key:ci}{rows:List ci}(hr:su ks rows)(hl:rows.length≤8000)(hk:RK (n.Keys.map (FI ks)) key):RK (n.Keys.map (FI ks)++n.Aggs.map fun g=>(B4 g ks).1) (Uw n.Aggs ⟨key,rows⟩):=by
 refine hk.app (RK.map _ _ _ fun a ha=>?_)
 obtain⟨h1,h2⟩:=h.ags a ha
 rcases Oj h1 h2 hr hl with q|q
 ·exact q.2
 ·show Pl (w9 a rows).1∧re (w9 a rows).1 _
  rw [q.1];exact⟨.z,.inr rfl⟩
theorem FL{ks:List Int}(h:Mn n ks){l:List ci}(hr:su ks l)(hl:l.length≤8000): ∀g∈gP n.Keys l,∃key rows,g=⟨key,rows⟩∧su ks rows∧rows.length≤8000∧RK (n.Keys.map (FI ks)) key:=by
 intro g hg
 unfold gP at hg
 split at hg
 ·rename_i hc
  have hc1:=hc.1
  simp only [A3]at hg
  subst hg
  refine⟨[],[],rfl,(fun r hr=>by cases hr),by simp,?_⟩
  rw [hc1];trivial
 ·unfold uT at hg
  obtain⟨k,hk,e⟩:=vq.1 hg
  subst e
  refine⟨_,_,rfl,?_,?_,?_⟩
  ·intro r hm
   rw [(iC dV _).mem_iff]at hm
   exact hr r (Ew.1 hm).1
  ·rw [oQ]
   have:=JW (fun r=>decide (gL n.Keys r=k)) l
   omega
  ·rw [tm,(iC dV _).mem_iff]at hk
   obtain⟨r,hm,e⟩:=vq.1 hk
   have hoc:=zc (OW h hr) hm
   rw [←e,RF hoc]
   exact(hr r hm).key n.Keys h.cols
theorem SC(c:List Int)(l:List ci)(hl:l.length≤8000):(gP c l).length≤8000:=by
 unfold gP
 split
 ·simp
 ·unfold uT
  rw [C7]
  have:=CP (oa (l.map (gL c)))
  rw [oQ,C7]at this
  omega
def yy(n:aj)(l:List ci):List ci×Int:=if(gP n.Keys l).any (I9 n.Aggs)then([],140)else((gP n.Keys l).map (Uw n.Aggs),0)
theorem Sz{ks:List Int}(h:Mn n ks){l:List ci}(hr:su ks l)(hl:l.length≤8000)(ob:cZ)(hA:cN ob.rows n.A=some l):jp ob n=some (yy n l):=by
 unfold jp
 rw [hA,be,GC (hr.small h.len hl) (hr.allr h.len) (OW h hr),be]
 rw [aK (by show¬((0:Int) !=0)=true;decide)]
 have hgs: ∀g∈gP n.Keys l,GOK n.Aggs g∧g.Key.length≤1000:=by
  intro g hg
  obtain⟨key,rows,e,p1,p2,p3⟩:=FL h hr hl g hg
  subst e
  refine⟨ZO h p1 p2,?_⟩
  have:=p3.len
  have hk:=h.keys
  rw [C7]at this
  show key.length≤1000
  omega
 have main:fD n (gP n.Keys l) []=some (yy n l):=by
  rw [Sy (by have:=h.naggs;omega) _ [] hgs (by have:=SC n.Keys l hl;simp only [pY];omega)]
  rfl
 rw [←main]
 unfold lW gP
 by_cases hc:n.Keys=[]∧uT n.Keys l=[]
 ·rw [aY (by rw [hc.2,hc.1];rfl),aY hc]
 ·rw [aK,aK hc]
  intro hh
  simp only [my,sv]at hh
  exact hc ⟨uD (by omega),uD (by omega)⟩
theorem SA{ks:List Int}(h:Mn n ks){l:List ci}(hr:su ks l)(hl:l.length≤8000):su (n.Keys.map (FI ks)++n.Aggs.map fun g=>(B4 g ks).1) (yy n l).1∧(yy n l).1.length≤8000∧((yy n l).2=0∨yy n l=([],140)∧n.Aggs.any Rx=true):=by
 unfold yy
 by_cases hf:(gP n.Keys l).any (I9 n.Aggs)=true
 ·rw [aY hf]
  refine⟨(fun r hr=>by cases hr),by simp,.inr ⟨rfl,?_⟩⟩
  obtain⟨g,hg,hfg⟩:=uB.1 hf
  obtain⟨key,rows,e,p1,p2,p3⟩:=FL h hr hl g hg
  subst e
  unfold I9 at hfg
  obtain⟨a,ha,hq⟩:=uB.1 hfg
  obtain⟨h1,h2⟩:=h.ags a ha
  rcases Oj h1 h2 p1 p2 with q|q
  ·rw [q.1]at hq;cases hq
  ·exact uB.2 ⟨a,ha,q.2⟩
 ·rw [aK hf]
  refine⟨?_,by rw [C7];exact SC _ _ hl,.inl rfl⟩
  intro r hm
  obtain⟨g,hg,e⟩:=vq.1 hm
  obtain⟨key,rows,e2,p1,p2,p3⟩:=FL h hr hl g hg
  subst e2
  rw [←e]
  exact Yv h p1 p2 p3

def se(e:bJ)(b:List ci)(x:ci):List ci:=(b.map fun y=>x++y).filter (pV e)
def zI(e:bJ)(b:List ci)(x:ci):Bool:=b.any fun y=>pV e (x++y)
def GP(e:bJ)(b:List ci)(x:ci):Bool:=b.any fun y=>wO e (x++y)
def Lu(e:bJ)(b:List ci)(w:Nat)(left:Bool)(x:ci):List ci:=if left&& !zI e b x then [x++List.replicate w zV]else []
theorem HB(e:bJ)(b:List ci)(x:ci):(se e b x).length≤b.length:=by
 unfold se
 have:=JW (pV e) (b.map fun y=>x++y)
 rw [C7]at this
 exact this
theorem Du{α β:Type}(f:α→List β)(m:Nat)(h: ∀x,(f x).length≤m): ∀l:List α,(l.flatMap f).length≤l.length*m
 |[]=>by simp
 |x::t=>by
  rw [List.flatMap_cons,jg,iY,u8,Nat.one_mul]
  have:=Du f m h t
  have:=h x
  omega
theorem TV(n:Int)(h0:0≤n)(h:n≤68719476736):gM n=some []:=by
 unfold gM iG
 rw [aK (by simp;omega)]
 have e:IntKind.i64.wrap (n-IntKind.i64.wrap ((0:Int)-0))=n:=by
  rw [cv (n:=(0:Int)-0) (by omega) (by omega),cv (by omega) (by omega)];omega
 rw [e]
 by_cases hp:0<n
 ·rw [aY (by simpa using hp)]
  unfold Xv oe
  rw [aY hp]
  simp only [be]
  rw [aY ⟨h0,h⟩]
  simp only [be]
  rw [show dE (List.replicate n.toNat (⟨0,0,0,[]⟩:ac)) 0 0=some []from by unfold dE;rw [aY (by simp;omega)];simp]
  rfl
 ·rw [aK (by simpa using hp)];rfl
theorem Gn(a b:ci)(ha:a.length≤8000)(hb:b.length≤8000):dC [a,b]=some (a++b):=by
 unfold dC
 simp only [fa]
 rw [cv (n:=(0:Int)+(a.length:Int)) (by omega) (by omega),aK (by simp),cv (by omega) (by omega),aK (by simp;omega),TV _ (by omega) (by omega)]
 simp only [be,eZ]
 rw [cq (by simp;omega)]
 simp only [be,kz]
 rw [cq (by omega)]
 rfl
abbrev JS:=Option Nat×(List ci×List Bool×Int×List ci)
def vQ(n:aj):Int×ci→JS→Option (Bool×JS):=xm (fun x s=>hT n x s.1 s.2.1 s.2.2.1 s.2.2.2)
theorem Ut(p q:List α)(w v:α):(p++w::q).set p.length v=p++v::q:=by
 induction p with
 |nil=>rfl
 |cons x t ih=>simp [ih]
theorem Pb(p q:List α)(w:α):cN (p++w::q) (p.length:Int)=some w:=by
 rw [Sw];simp
theorem Fj{n:aj}(he:Re n.Cond){ka kb:List Int}(hk:(fR n.Cond (ka++kb)).2=0)(hka:ka.length≤16)(hkb:kb.length≤16)(nx:Nat→JS→Option JS){x:ci}(hx:RK ka x): ∀(bs xs:List ci) (pre:List Bool) (m:Bool) (post:List Bool),su kb bs→xs.length+bs.length≤1000000→
  if GP n.Cond bs x then∃q:List ci×List Bool,fS (vQ n) nx pre.length x bs (none,(xs,pre++m::post,0,[]))=some (some 0,(q.1,q.2,140,[]))
  else fS (vQ n) nx pre.length x bs (none,(xs,pre++m::post,0,[]))=nx (pre.length+1) (none,(xs++se n.Cond bs x,pre++(m||zI n.Cond bs x)::post,0,[]))
 |[],xs,pre,m,post,_,_=>by
  have:GP n.Cond [] x=false:=rfl
  rw [this,aK (by decide)]
  unfold fS
  simp [se,zI]
 |y::t,xs,pre,m,post,hb,hl=>by
  rw [iY]at hl
  have hy:=hb y (kZ ..)
  have ht:su kb t:=fun z hz=>hb z (kN _ hz)
  have hxy:RK (ka++kb) (x++y):=hx.app hy
  have hlx:=hx.len
  have hly:=hy.len
  have e1:GP n.Cond (y::t) x=(wO n.Cond (x++y)||GP n.Cond t x):=rfl
  have e2:se n.Cond (y::t) x=(if pV n.Cond (x++y)=true then(x++y)::se n.Cond t x else se n.Cond t x):=by
   unfold se
   rw [vt,List.filter_cons]
  have e3:zI n.Cond (y::t) x=(pV n.Cond (x++y)||zI n.Cond t x):=rfl
  have step:fS (vQ n) nx pre.length x (y::t) (none,(xs,pre++m::post,0,[]))=(hT n ((pre.length:Int),x++y) xs (pre++m::post) 0 []).bind fun r=>if(!r.1.isNone)=true then some r else fS (vQ n) nx pre.length x t r:=by
   conv=>lhs;unfold fS
   rw [Gn x y (by omega) (by omega),be]
   unfold vQ xm
   simp only []
   cases hT n ((pre.length:Int),x++y) xs (pre++m::post) 0 []with
   |none=>rfl
   |some r=>rfl
  have hbody:hT n ((pre.length:Int),x++y) xs (pre++m::post) 0 []=some (if wO n.Cond (x++y)then(some 0,(xs,pre++m::post,140,[]))else if pV n.Cond (x++y)then(none,(xs++[x++y],pre++true::post,0,[]))else(none,(xs,pre++m::post,0,[]))):=by
   unfold hT
   rw [Lv he hk hxy,be]
   by_cases hf:wO n.Cond (x++y)=true
   ·rw [hf];rfl
   ·rw [rN.2 hf]
    simp only [gm,d9,zP]
    by_cases hh:pV n.Cond (x++y)=true
    ·rw [aY hh,aY hh,Pb,be,A2,Ut,be,cq (by simp;omega),be]
    ·rw [aK hh,aK hh]
  rw [e1,step,hbody,be]
  by_cases hf:wO n.Cond (x++y)=true
  ·rw [hf]
   simp only [eg,Bool.true_or]
   exact⟨(xs,pre++m::post),rfl⟩
  ·rw [rN.2 hf]
   simp only [gm,d9,rM]
   by_cases hh:pV n.Cond (x++y)=true
   ·rw [aY hh]
    simp only [Option.isNone_none,mL,gm,d9]
    have ih:=Fj he hk hka hkb nx hx t (xs++[x++y]) pre true post ht (by simp only [jg,Am];omega)
    rw [e2,aY hh,e3,hh]
    simpa using ih
   ·rw [aK hh]
    simp only [Option.isNone_none,mL,gm,d9]
    have ih:=Fj he hk hka hkb nx hx t xs pre m post ht (by omega)
    rw [e2,aK hh,e3,rN.2 hh,rM]
    exact ih
theorem KL{n:aj}(he:Re n.Cond){ka kb:List Int}(hk:(fR n.Cond (ka++kb)).2=0)(hka:ka.length≤16)(hkb:kb.length≤16){b:List ci}(hb:su kb b): ∀(a xs:List ci) (pre:List Bool),su ka a→xs.length+a.length*b.length+b.length≤1000000→
  if a.any (GP n.Cond b)then∃q:List ci×List Bool,dO b (vQ n) a pre.length (none,(xs,pre++List.replicate a.length false,0,[]))=some (some 0,(q.1,q.2,140,[]))
  else dO b (vQ n) a pre.length (none,(xs,pre++List.replicate a.length false,0,[]))=some (none,(xs++a.flatMap (se n.Cond b),pre++a.map (zI n.Cond b),0,[]))
 |[],xs,pre,_,_=>by
  rw [List.any_nil,aK (by decide)]
  unfold dO
  simp
 |x::t,xs,pre,ha,hl=>by
  rw [iY,u8,Nat.one_mul]at hl
  have hx:=ha x (kZ ..)
  have ht:su ka t:=fun z hz=>ha z (kN _ hz)
  have h2:=Fj he hk hka hkb (dO b (vQ n) t) hx b xs pre false (List.replicate t.length false) hb (by omega)
  have er:List.replicate (x::t).length false=false::List.replicate t.length false:=rfl
  rw [er,vu]
  unfold dO
  by_cases hf:GP n.Cond b x=true
  ·rw [hf]at h2 ⊢
   simpa using h2
  ·rw [rN.2 hf]at h2 ⊢
   simp only [gm,d9,rM]at h2 ⊢
   have ih:=KL he hk hka hkb hb t (xs++se n.Cond b x) (pre++[zI n.Cond b x]) ht (by have:=HB n.Cond b x;simp only [jg];omega)
   rw [h2]
   simp only [jg,Am,jX,Hb]at ih ⊢
   rw [List.flatMap_cons,vt]
   exact ih
theorem O8{ob:cZ}{n:aj}{w:Nat}(hw:w≤16)(hB:cN ob.width n.B=some (w:Int))(e:bJ)(b:List ci)(st:JS)(u:Unit): ∀(t:List ci) (pre:List Bool) (out:List ci),(∀x∈t,x.length≤16)→st.2.2.1=pre++t.map (zI e b)→out.length+t.length≤1000000→hM ob n (st,u) t pre.length out=some (out++t.flatMap (Lu e b w n.Left),0)
 |[],pre,out,_,_,_=>by unfold hM;simp
 |x::t,pre,out,hx,hs,hl=>by
  rw [iY]at hl
  unfold hM
  have hxl:=hx x (kZ ..)
  have ht:=fun z hz=>hx z (kN x hz)
  rw [vt]at hs
  have hi:cN st.2.2.1 (pre.length:Int)=some (zI e b x):=by rw [hs,Pb]
  have ih:=O8 hw hB e b st u t (pre++[zI e b x])
  rw [jg,Am]at ih
  have hs2:st.2.2.1=pre++[zI e b x]++t.map (zI e b):=by rw [hs];simp
  rw [List.flatMap_cons]
  have ec:(if n.Left=true then((cN st.2.2.1 (pre.length:Int)).bind fun e4=>some (!e4))else some false)=some (n.Left&& !zI e b x):=by
   rw [hi]
   cases n.Left<;>rfl
  show((if n.Left=true then((cN st.2.2.1 (pre.length:Int)).bind fun e4=>some (!e4))else some false).bind fun q=>_)=_
  rw [ec,be]
  unfold Lu
  by_cases hc:(n.Left&& !zI e b x)=true
  ·rw [aY hc,aY hc,hB,be]
   have hz:oe (w:Int) (⟨0,0,0,[]⟩:ac)=some (List.replicate w zV):=by
    unfold oe
    rw [aY (by omega)]
    rfl
   rw [hz,be,Gn x _ (by omega) (by simp;omega),be,cq (by simp;omega),be,ih _ ht hs2 (by simp only [jg,Am];omega),jX]
   rfl
  ·rw [aK hc,aK hc,ih _ ht hs2 (by omega),kz]
   rfl
def Dq(n:aj)(a b:List ci)(w:Nat):List ci×Int:=
 if 40000<a.length*b.length then([],3)else if a.any (GP n.Cond b)then([],140)else(a.flatMap (se n.Cond b)++a.flatMap (Lu n.Cond b w n.Left),0)
structure PY(n:aj)(ka kb:List Int):Prop where
 cond:Re n.Cond
 kind:(fR n.Cond (ka++kb)).2=0
 ka:ka.length≤16
 kb:kb.length≤16
theorem Sb{q:Nat}(hp:p≤8000)(hq:q≤8000):decide ((40000:Int)<(IntKind.i64.wrap ((p:Int)*(q:Int))))=decide (40000<p*q):=by
 have h:p*q≤8000*8000:=xu hp hq
 rw [←xP,pN (by omega) (by omega),C6]
 omega
theorem U1{ka kb:List Int}(h:PY n ka kb){a b:List ci}(ha:su ka a)(hb:su kb b)(hal:a.length≤8000)(hbl:b.length≤8000)(ob:cZ)(hA:cN ob.rows n.A=some a)(hB:cN ob.rows n.B=some b)(hW:cN ob.width n.B=some (kb.length:Int)):jT ob n=some (Dq n a b kb.length):=by
 unfold jT Dq
 rw [hA,hB,be,be,Sb hal hbl]
 by_cases hm:40000<a.length*b.length
 ·rw [aY (by simpa using hm),aY hm]
 ·rw [aK (by simpa using hm),aK hm]
  have hz:oe (a.length:Int) false=some (List.replicate a.length false):=by
   unfold oe
   rw [aY (by omega)]
   rfl
  have hp:wU a b=some (fun _=>mt a b):=rfl
  rw [hz,be,hp,be]
  have hit:(itU (fun(Sg:Type)=>mt (Sg:=Sg) a b)) JS (vQ n) (none,(([]:List ci),List.replicate a.length false,(0:Int),[]))=(dO b (vQ n) a 0 (none,(([]:List ci),List.replicate a.length false,(0:Int),[]))).map fun r=>(r,()):=rfl
  have hp1:=KL h.cond h.kind h.ka h.kb hb a [] [] ha (by simp only [pY];omega)
  show((itU (fun(Sg:Type)=>mt (Sg:=Sg) a b)) JS (vQ n) (none,(([]:List ci),List.replicate a.length false,(0:Int),[]))).bind _=_
  rw [hit]
  by_cases hf:a.any (GP n.Cond b)=true
  ·rw [aY hf]at hp1 ⊢
   obtain⟨q,hq⟩:=hp1
   have hq2:dO b (vQ n) a 0 (none,(([]:List ci),List.replicate a.length false,(0:Int),[]))=some (some 0,(q.1,q.2,140,[])):=hq
   rw [hq2]
   rfl
  ·rw [aK hf]at hp1 ⊢
   have hq2:dO b (vQ n) a 0 (none,(([]:List ci),List.replicate a.length false,(0:Int),[]))=some (none,(a.flatMap (se n.Cond b),a.map (zI n.Cond b),0,[])):=hp1
   rw [hq2]
   have hlen:=Du (se n.Cond b) b.length (HB n.Cond b) a
   have:=O8 (ob:=ob) (n:=n) h.kb hW n.Cond b (none,(a.flatMap (se n.Cond b),a.map (zI n.Cond b),0,[])) () a [] (a.flatMap (se n.Cond b)) (fun x hx=>by rw [(ha x hx).len];exact h.ka) rfl (by omega)
   exact this
theorem U3{ka kb:List Int}{a b:List ci}(ha:su ka a)(hb:su kb b):su (ka++kb) (a.flatMap (se n.Cond b)):=by
 intro r hr
 obtain⟨x,hx,hr⟩:=List.mem_flatMap.1 hr
 unfold se at hr
 obtain⟨y,hy,e⟩:=vq.1 (Ew.1 hr).1
 rw [←e]
 exact(ha x hx).app (hb y hy)
theorem U4{ka kb:List Int}{a b:List ci}(ha:su ka a):su (ka++kb) (a.flatMap (Lu n.Cond b kb.length n.Left)):=by
 intro r hr
 obtain⟨x,hx,hr⟩:=List.mem_flatMap.1 hr
 unfold Lu at hr
 split at hr
 ·rw [A3.1 hr]
  exact(ha x hx).app (Mf kb)
 ·cases hr
theorem EK(h:e.Nodes.any ZJ=true):Ki e=true:=by
 unfold Ki
 rw [h,xM]
 cases hn:e.Nodes with
 |nil=>rw [hn]at h;cases h
 |cons x t=>rfl
theorem U2{ka kb:List Int}(h:PY n ka kb){a b:List ci}(ha:su ka a)(hb:su kb b):su (ka++kb) (Dq n a b kb.length).1∧((Dq n a b kb.length).2=0∨Dq n a b kb.length=([],3)∨Dq n a b kb.length=([],140)∧Ki n.Cond=true):=by
 unfold Dq
 by_cases hm:40000<a.length*b.length
 ·rw [aY hm]
  exact⟨(fun r hr=>by cases hr),.inr (.inl rfl)⟩
 ·rw [aK hm]
  by_cases hf:a.any (GP n.Cond b)=true
  ·rw [aY hf]
   refine⟨(fun r hr=>by cases hr),.inr (.inr ⟨rfl,?_⟩)⟩
   obtain⟨x,hx,hq⟩:=uB.1 hf
   unfold GP at hq
   obtain⟨y,hy,hq⟩:=uB.1 hq
   rcases Wz h.cond h.kind ((ha x hx).app (hb y hy))with q|q
   ·rw [q.2.1]at hq;cases hq
   ·exact EK q.2.2.2
  ·rw [aK hf]
   refine⟨fun r hr=>?_,.inl rfl⟩
   rcases zA.1 hr with q|q
   ·exact U3 ha hb r q
   ·exact U4 ha r q

theorem Nk(hS:lQ l)(hr:ip l=true)(K:Aj l sz ks)(hp:p<l.Nodes.length): ∃d,ua l (p:Int)=some (d,0)∧sd d=some (ks p,0):=by
 obtain⟨_,_,ob,j,r3,r4⟩:=rU hS
 obtain⟨hL,hj⟩:=r4 hr
 rw [hr]at r3
 have hle:=hL.le
 have H:C3 l (xB ob.first) (NH ob.kinds):=fun j hj=>LF hL.inv hle hj
 obtain⟨N0,hf⟩:=hL.inv.at hp
 have h1:=N0.pos
 have h2:=N0.le
 have hb:((p+1-xB ob.first p:Nat):Int)=(p:Int)+1-(xB ob.first p:Int):=by omega
 have hfi:cN ob.first (p:Int)=some ((p+1-xB ob.first p:Nat):Int):=by rw [bT,hf,hb]
 have hpart:ua l (p:Int)=some (AB l (p+1-xB ob.first p) p,0):=by
  unfold ua
  rw [r3]
  simp only [be,mL,gm,d9]
  rw [aK (by simp;omega),hfi]
  simp only [be]
  rw [Ol hS hle hp (by omega) ((l.Nodes.take (p+1)).drop (p+1-xB ob.first p)) (p+1-xB ob.first p) iN _ rfl (by simp;omega) (vR (by simp;omega)) (by simp)]
  rfl
 refine⟨_,hpart,?_⟩
 have hpr:=Nj H hle hp h2 h1
 have hps:=IQ hS (p+1-xB ob.first p) p
 obtain⟨sz',ks',K'⟩:=BB hps hpr
 have hk:=(Lg hps K' (Fi H hle hp h2)).1
 have hlen:=wI (l:=l) (e:=p+1-xB ob.first p) hp
 rw [K'.kinds,←hk,hlen]
 have hsame:=Ys (l:=l) (d:=l) (e:=0) (m:=l.Nodes.length) K.all H (dh _) (by omega) (by omega) (by omega) (fun j hj n hn=>by
  obtain⟨m,F⟩:=K.all j hj
  have hm:n=m:=by rw [F.node]at hn;injection hn with hn;exact hn.symm
  subst hm
  rw [qS,CA K F hj]
  exact F.node) p hp
 have e:p+1-xB ob.first p+(p+1-(p+1-xB ob.first p)-1)=p:=by omega
 simp only [e]
 have:=hsame.2
 rw [qS]at this
 rw [this]
structure qG(n:aj):Prop where
 small:iv n
 cond:Re n.Cond
 items: ∀e∈n.Items,Re e
 args: ∀g∈n.Aggs,Re g.Arg
def zU(base:dv)(n:aj):List ci:=(base.Tables[n.Table.toNat]?).getD []
def t6(n:aj)(base:dv)(a b:List ci)(w:Nat):List ci×Int:=
 if n.Op=1 then(zU base n,0)
 else if n.Op=2 then Dq n a b w
 else if n.Op=3 then(if a.any (wO n.Cond)then([],140)else(a.filter (pV n.Cond),0))
 else if n.Op=4 then yy n a
 else if n.Op=5 then(if a.any (I8 n.Items)then([],140)else(a.map (KG n.Items),0))
 else if n.Op=6 then(pj (oa a),0)
 else if n.Op=7 then(a++b,0)
 else(vY n.Limit (rQ (qD n.Order) a),0)
def D0(n:aj)(q:List ci×Int):List ci×Int:=if q.2≠0 then([],q.2)else if 8000<q.1.length then([],3)else(if n.Op=8 then q.1 else oa q.1,0)
def kY(n:aj)(base:dv)(a b:List ci)(w:Nat):List ci×Int:=D0 n (t6 n base a b w)
theorem LQ{limit:Int}{l:List ci}(h:r∈vY limit l):r∈l:=by
 unfold vY at h
 split at h
 ·exact List.mem_of_mem_take h
 ·exact h
theorem LR(limit:Int)(l:List ci):(vY limit l).length≤l.length:=by
 unfold vY
 split
 ·rw [zO];omega
 ·exact dh _
def IA(base:dv)(n:aj)(k:List Int):Prop:=n.Op=1→n.Table.toNat<base.Tables.length∧su k (zU base n)∧(zU base n).length≤12
theorem MH(h:e∈n.Items)(hu:Ki e=true):Im n=true:=by
 unfold Im
 rw [uB.2 ⟨e,h,hu⟩]
 simp
variable{base:dv}
theorem OX{ka kb:List Int}{a b:List ci}(hn:qG n)(hop:Fn n.Op=true)(hk:bo n ka kb=some (k,true))(hka:ka.length≤16)(hkb:kb.length≤16)(hsc:IA base n k)(ha:su ka a)(hb:su kb b)(hal:a.length≤8000):
  su k (t6 n base a b kb.length).1∧((t6 n base a b kb.length).2=0∨(t6 n base a b kb.length).2=3∨((t6 n base a b kb.length).2=140∧Im n=true)):=by
 unfold t6
 rcases q6 hop with o|o|o|o|o|o|o|o
 ·rw [aY o]
  exact⟨(hsc o).2.1,.inl rfl⟩
 ·rw [aK (by omega),aY o]
  obtain⟨e,ht⟩:=OY o hk
  subst e
  have hj:PY n ka kb:=⟨hn.cond,yS ht,hka,hkb⟩
  obtain⟨p1,p2⟩:=U2 hj ha hb
  refine⟨p1,?_⟩
  rcases p2 with q|q|q
  ·exact .inl q
  ·rw [q];exact .inr (.inl rfl)
  ·rw [q.1];exact .inr (.inr ⟨rfl,by unfold Im;rw [q.2];rfl⟩)
 ·rw [aK (by omega),aK (by omega),aY o]
  obtain⟨e,ht⟩:=Hx o hk
  subst e
  by_cases hf:a.any (wO n.Cond)=true
  ·rw [aY hf]
   refine⟨(fun r hr=>by cases hr),.inr (.inr ⟨rfl,?_⟩)⟩
   obtain⟨r,hr,hq⟩:=uB.1 hf
   rcases Wz hn.cond (yS ht) (ha r hr)with q|q
   ·rw [q.2.1]at hq;cases hq
   ·unfold Im;rw [EK q.2.2.2];rfl
  ·rw [aK hf]
   exact⟨fun r hr=>ha r (Ew.1 hr).1,.inl rfl⟩
 ·rw [aK (by omega),aK (by omega),aK (by omega),aY o]
  obtain⟨p1,p2,p3,p4⟩:=La hn.small o hk
  subst p3
  have hg:Mn n ka:=⟨p1,fun g hg=>⟨hn.args g hg,p2 g hg⟩,hka,by omega,hn.small.aggs⟩
  obtain⟨q1,_,q3⟩:=SA hg ha hal
  refine⟨q1,?_⟩
  rcases q3 with q|q
  ·exact .inl q
  ·rw [q.1];exact .inr (.inr ⟨rfl,by unfold Im;rw [q.2];simp⟩)
 ·rw [aK (by omega),aK (by omega),aK (by omega),aK (by omega),aY o]
  obtain⟨p1,p2⟩:=Fv hn.small o hk
  subst p2
  by_cases hf:a.any (I8 n.Items)=true
  ·rw [aY hf]
   refine⟨(fun r hr=>by cases hr),.inr (.inr ⟨rfl,?_⟩)⟩
   obtain⟨r,hr,hq⟩:=uB.1 hf
   unfold I8 at hq
   obtain⟨e,he,hq⟩:=uB.1 hq
   rcases Wz (hn.items e he) (p1 e he) (ha r hr)with q|q
   ·rw [q.2.1]at hq;cases hq
   ·exact MH he (EK q.2.2.2)
  ·rw [aK hf]
   refine⟨?_,.inl rfl⟩
   intro x hx
   obtain⟨r,hr,e⟩:=vq.1 hx
   rw [←e]
   refine RK.map _ _ _ fun e he=>?_
   rcases Wz (hn.items e he) (p1 e he) (ha r hr)with q|q
   ·exact q.2.2
   ·rw [q.2.2.1];exact⟨.z,.inr rfl⟩
 ·rw [aK (by omega),aK (by omega),aK (by omega),aK (by omega),aK (by omega),aY o]
  have e:=Lb o hk
  subst e
  exact⟨fun r hr=>ha r ((iC dV a).mem_iff.1 ((tm _ _).1 hr)),.inl rfl⟩
 ·rw [aK (by omega),aK (by omega),aK (by omega),aK (by omega),aK (by omega),aK (by omega),aY o]
  obtain⟨p1,p2,p3⟩:=Sa (by omega) o hk
  refine⟨?_,.inl rfl⟩
  intro r hr
  rcases zA.1 hr with q|q
  ·refine(ha r q).as p2 fun j x z h1 h2=>?_
   have hj:j<kb.length:=by
    have:=ke.1 h1
    obtain⟨h,_⟩:=this
    omega
   exact(p3 j x kb[j] z h1 (oM hj) h2).1
  ·refine(hb r q).as (by omega) fun j y z h1 h2=>?_
   have hj:j<ka.length:=by
    have:=ke.1 h1
    obtain⟨h,_⟩:=this
    omega
   exact(p3 j ka[j] y z (oM hj) h1 h2).2
 ·rw [aK (by omega),aK (by omega),aK (by omega),aK (by omega),aK (by omega),aK (by omega),aK (by omega)]
  obtain⟨p1,_⟩:=I0 hn.small o hk
  subst p1
  exact⟨fun r hr=>ha r ((iC _ a).mem_iff.1 (LQ hr)),.inl rfl⟩
theorem PF{ka kb:List Int}{a b:List ci}(hn:qG n)(hop:Fn n.Op=true)(hk:bo n ka kb=some (k,true))(hka:ka.length≤16)(hkb:kb.length≤16)(hsc:IA base n k)(ha:su ka a)(hb:su kb b)(hal:a.length≤8000):
  su k (kY n base a b kb.length).1∧(kY n base a b kb.length).1.length≤8000∧((kY n base a b kb.length).2=0∨kY n base a b kb.length=([],3)∨(kY n base a b kb.length=([],140)∧Im n=true)):=by
 obtain⟨p1,p2⟩:=OX hn hop hk hka hkb hsc ha hb hal
 unfold kY D0
 by_cases h0:(t6 n base a b kb.length).2=0
 ·rw [aK (by simpa using h0)]
  by_cases hl:8000<(t6 n base a b kb.length).1.length
  ·rw [aY hl]
   exact⟨(fun r hr=>by cases hr),by simp,.inr (.inl rfl)⟩
  ·rw [aK hl]
   by_cases h8:n.Op=8
   ·rw [aY h8]
    exact⟨p1,by show(t6 n base a b kb.length).1.length≤8000;omega,.inl rfl⟩
   ·rw [aK h8]
    exact⟨p1.perm (iC _ _).symm,by show(oa _).length≤8000;rw [oQ];omega,.inl rfl⟩
 ·rw [aY h0]
  refine⟨(fun r hr=>by cases hr),by simp,?_⟩
  rcases p2 with q|q|q
  ·exact absurd q h0
  ·rw [q];exact .inr (.inl rfl)
  ·rw [q.1];exact .inr (.inr ⟨rfl,q.2⟩)

def xn{α:Type}(l:List (List α))(i:Int):List α:=if i<0 then []else(l[i.toNat]?).getD []
def Mz(ks:Nat→List Int)(i:Int):Nat:=(if i<0 then []else ks i.toNat).length
def lv(base:dv)(ks:Nat→List Int):List aj→List (List ci)→List (List ci)×Int
 |[],rows=>(rows,0)
 |n::t,rows=>if(kY n base (xn rows n.A) (xn rows n.B) (Mz ks n.B)).2≠0 then([],(kY n base (xn rows n.A) (xn rows n.B) (Mz ks n.B)).2)else lv base ks t (rows++[(kY n base (xn rows n.A) (xn rows n.B) (Mz ks n.B)).1])
def yw(rows:List (List ci)):List ci:=(rows[rows.length-1]?).getD []
def GQ(r:List (List ci)×Int):List ci×Int:=if r.2≠0 then([],r.2)else(yw r.1,0)
def fZ(l:bc)(base:dv)(ks:Nat→List Int):List ci×Int:=GQ (lv base ks l.Nodes [])
structure GX(ks:Nat→List Int)(rows:List (List ci))(i:Nat):Prop where
 len:rows.length=i
 ok: ∀j,j<i→su (ks j) ((rows[j]?).getD [])∧((rows[j]?).getD []).length≤8000
theorem Pa{i:Int}(h:0≤i)(h2:i<(rows.length:Int)):cN rows i=some (xn rows i):=by
 obtain⟨k,hk⟩:=EA h
 subst hk
 have hk:k<rows.length:=by omega
 unfold xn
 rw [bT,aK (by omega)]
 simp [hk]
theorem GX.at(h:GX ks rows i)(hx:x= -1∨0≤x∧x<(i:Int)):su (if x<0 then []else ks x.toNat) (xn rows x)∧(xn rows x).length≤8000:=by
 unfold xn
 rcases hx with q|q
 ·rw [aY (by omega),aY (by omega)]
  exact⟨(fun r hr=>by cases hr),by simp⟩
 ·rw [aK (by omega),aK (by omega)]
  exact h.ok x.toNat (by omega)
structure xo(l:bc)(base:dv)(sz:Nat→Nat)(ks:Nat→List Int):Prop where
 known:Aj l sz ks
 right:ip l=true
 nodes: ∀n∈l.Nodes,qG n
 scan: ∀(j:Nat) (n:aj),cN l.Nodes (j:Int)=some n→IA base n (ks j)
theorem xo.small(T:xo l base sz ks):lQ l:=fun n hn=>(T.nodes n hn).small
structure X0(l:bc)(base:dv)(ks:Nat→List Int)(rows:List (List ci))(j:Nat)(n:aj)(ka kb:List Int):Prop where
 g:qG n
 op:Fn n.Op=true
 kinds:bo n ka kb=some (ks j,true)
 k16:(ks j).length≤16
 ka16:ka.length≤16
 kb16:kb.length≤16
 scan:IA base n (ks j)
 a:su ka (xn rows n.A)
 al:(xn rows n.A).length≤8000
 b:su kb (xn rows n.B)
 bl:(xn rows n.B).length≤8000
 w:Mz ks n.B=kb.length
 ia:n.Op≠1→cN rows n.A=some (xn rows n.A)
 ib:n.Op=2∨n.Op=7→cN rows n.B=some (xn rows n.B)∧0≤n.B∧n.B<(j:Int)
theorem Xo(T:xo l base sz ks)(hj:j<l.Nodes.length)(I:GX ks rows j): ∃n,cN l.Nodes (j:Int)=some n∧X0 l base ks rows j n (if n.A<0 then []else ks n.A.toNat) (if n.B<0 then []else ks n.B.toNat):=by
 obtain⟨n,F⟩:=T.known.all j hj
 have hmem:n∈l.Nodes:=by
  have:=F.node
  rw [bT]at this
  exact rO this
 obtain⟨pA,pB⟩:=mF F
 have h16: ∀x:Int,(x= -1∨0≤x∧x<(j:Int))→(if x<0 then([]:List Int)else ks x.toNat).length≤16:=by
  intro x hx
  rcases hx with q|q
  ·rw [aY (by omega)];simp
  ·rw [aK (by omega)]
   obtain⟨m,Fm⟩:=T.known.all x.toNat (by omega)
   exact Fm.len
 refine⟨n,F.node,⟨T.nodes n hmem,F.op,F.kinds,F.len,h16 _ pA,h16 _ pB,T.scan j n F.node,(I.at pA).1,(I.at pA).2,(I.at pB).1,(I.at pB).2,rfl,?_,?_⟩⟩
 ·intro h1
  have:0≤n.A∧n.A<(rows.length:Int):=by
   rw [I.len]
   by_cases h27:n.Op=2∨n.Op=7
   ·have:=F.bi h27;omega
   ·have:=F.un h1 (fun h=>h27 (.inl h)) (fun h=>h27 (.inr h));omega
  exact Pa this.1 this.2
 ·intro h27
  have:=F.bi h27
  have hb:0≤n.B∧n.B<(j:Int):=by omega
  exact⟨Pa hb.1 (by rw [I.len];exact hb.2),hb⟩
abbrev acJ:=cZ→aj→Option ((List ci×Int)×cZ)
def Si:List (Int×acJ):=dw (dw (dw (dw (dw (dw (dw (dw ([]:List (Int×(cZ→aj→Option (((List (List ac))×Int)×cZ)))) (1:Int) (fun(mc:cZ) (mx:aj)=>(lh mc mx).map fun mr=>(mr,mc))) (2:Int) (fun(mc:cZ) (mx:aj)=>(jT mc mx).map fun mr=>(mr,mc))) (3:Int) (fun(mc:cZ) (mx:aj)=>(jP mc mx).map fun mr=>(mr,mc))) (4:Int) (fun(mc:cZ) (mx:aj)=>(jp mc mx).map fun mr=>(mr,mc))) (5:Int) (fun(mc:cZ) (mx:aj)=>(jo mc mx).map fun mr=>(mr,mc))) (6:Int) (fun(mc:cZ) (mx:aj)=>(iU mc mx).map fun mr=>(mr,mc))) (7:Int) (fun(mc:cZ) (mx:aj)=>(kG mc mx).map fun mr=>(mr,mc))) (8:Int) (fun(mc:cZ) (mx:aj)=>(kH mc mx).map fun mr=>(mr,mc))
theorem aam{ks:List Int}(hr:RK ks r)(h: ∀o∈n.Order,0≤o.Col∧o.Col<(ks.length:Int)):KY n.Order r=true:=by
 unfold KY
 rw [jW]
 intro o ho
 have:=h o ho
 rw [←hr.len]at this
 simp [this.1,this.2]
theorem QA{ka kb:List Int}(M:X0 l base ks rows j n ka kb)(ob:cZ)(hB:ob.Base=base)(hR:ob.rows=rows)(hW: ∀i:Int,0≤i→i<(j:Int)→cN ob.width i=some (Mz ks i:Int)):((pH Si n.Op).getD fun _ _=>none) ob n=some (t6 n base (xn rows n.A) (xn rows n.B) kb.length,ob):=by
 unfold Si
 rw [Sf]
 have hk:=M.kinds
 unfold t6
 have hsm:=M.a.small M.ka16 M.al
 rcases q6 M.op with o|o|o|o|o|o|o|o
 ·rw [aY o,aY o]
  obtain⟨_,t1,t2⟩:=I1 o hk
  obtain⟨s1,s2,s3⟩:=M.scan o
  show(lh ob n).map _=_
  unfold lh
  have:cN base.Tables n.Table=some (zU base n):=by
   unfold zU
   rw [hJ n.Table.toNat (by omega),oM s1]
   rfl
  rw [hB,this]
  rfl
 ·rw [aK (by omega),aY o,aK (by omega),aY o]
  obtain⟨e,ht⟩:=OY o hk
  have hj:PY n ka kb:=⟨M.g.cond,yS ht,M.ka16,M.kb16⟩
  obtain⟨b1,b2,b3⟩:=M.ib (.inl o)
  show(jT ob n).map _=_
  rw [U1 hj M.a M.b M.al M.bl ob (by rw [hR];exact M.ia (by omega)) (by rw [hR];exact b1) (by rw [hW n.B b2 b3,M.w])]
  rfl
 ·rw [aK (by omega),aK (by omega),aY o,aK (by omega),aK (by omega),aY o]
  obtain⟨e,ht⟩:=Hx o hk
  show(jP ob n).map _=_
  unfold jP
  rw [hR,M.ia (by omega),be,CD M.g.cond (yS ht) _ [] M.a (by have:=M.al;simp only [pY];omega)]
  rfl
 ·rw [aK (by omega),aK (by omega),aK (by omega),aY o,aK (by omega),aK (by omega),aK (by omega),aY o]
  obtain⟨p1,p2,p3,p4⟩:=La M.g.small o hk
  have hg:Mn n ka:=⟨p1,fun g hg=>⟨M.g.args g hg,p2 g hg⟩,M.ka16,by omega,M.g.small.aggs⟩
  show(jp ob n).map _=_
  rw [Sz hg M.a M.al ob (by rw [hR];exact M.ia (by omega))]
  rfl
 ·rw [aK (by omega),aK (by omega),aK (by omega),aK (by omega),aY o,aK (by omega),aK (by omega),aK (by omega),aK (by omega),aY o]
  obtain⟨p1,p2⟩:=Fv M.g.small o hk
  show(jo ob n).map _=_
  unfold jo
  rw [hR,M.ia (by omega),be,OS (fun e he=>⟨M.g.items e he,p1 e he⟩) (by have:=M.g.small.items;omega) _ [] M.a (by have:=M.al;simp only [pY];omega)]
  rfl
 ·rw [aK (by omega),aK (by omega),aK (by omega),aK (by omega),aK (by omega),aY o,aK (by omega),aK (by omega),aK (by omega),aK (by omega),aK (by omega),aY o]
  show(iU ob n).map _=_
  unfold iU
  rw [hR,M.ia (by omega),be,DY hsm,M.a.allr M.ka16]
  rfl
 ·rw [aK (by omega),aK (by omega),aK (by omega),aK (by omega),aK (by omega),aK (by omega),aY o,aK (by omega),aK (by omega),aK (by omega),aK (by omega),aK (by omega),aK (by omega),aY o]
  obtain⟨b1,b2,b3⟩:=M.ib (.inr o)
  show(kG ob n).map _=_
  unfold kG
  rw [hR,M.ia (by omega),be,b1,be,Ou _ _ M.al M.bl]
  rfl
 ·rw [aK (by omega),aK (by omega),aK (by omega),aK (by omega),aK (by omega),aK (by omega),aK (by omega),aY o,aK (by omega),aK (by omega),aK (by omega),aK (by omega),aK (by omega),aK (by omega),aK (by omega)]
  obtain⟨p1,p2⟩:=I0 M.g.small o hk
  show(kH ob n).map _=_
  unfold kH
  have ho:On n.Order (xn rows n.A):=⟨fun r hr=>(M.a r hr).right M.ka16,fun r hr=>aam (M.a r hr) p2⟩
  rw [hR,M.ia (by omega),be,CM ho (by have:=M.al;omega)]
  rfl
theorem GX.next(h:GX ks rows i){r:List ci}(hr:su (ks i) r)(hl:r.length≤8000):GX ks (rows++[r]) (i+1):=by
 have hlen:=h.len
 refine⟨by simp [hlen],fun j hj=>?_⟩
 by_cases hji:j<i
 ·rw [Ao (by omega)]
  exact h.ok j hji
 ·have:j=i:=by omega
  subst this
  rw [tA (by omega),hlen]
  simpa using ⟨hr,hl⟩
theorem E2{l:bc}{base:dv}{sz:Nat→Nat}{ks:Nat→List Int}(T:xo l base sz ks): ∀(tl:List aj) (i:Nat) (rows:List (List ci)),l.Nodes.drop i=tl→i≤l.Nodes.length→GX ks rows i→((lv base ks tl rows).2=0→GX ks (lv base ks tl rows).1 l.Nodes.length)∧((lv base ks tl rows).2=0∨(lv base ks tl rows).2=3∨((lv base ks tl rows).2=140∧l.Nodes.any Im=true))
 |[],i,rows,hd,hi,I=>by
  have h1:=uk hd
  have h2:i=l.Nodes.length:=by omega
  unfold lv
  exact⟨fun _=>h2▸I,.inl rfl⟩
 |n::t,i,rows,hd,hi,I=>by
  obtain⟨h1,h2,h3⟩:=kj hd
  obtain⟨n',hn',M⟩:=Xo T h2 I
  rw [h1]at hn'
  injection hn' with hn'
  subst hn'
  obtain⟨c1,c2,c3⟩:=PF (base:=base) M.g M.op M.kinds M.ka16 M.kb16 M.scan M.a M.b M.al
  unfold lv
  rw [M.w]
  by_cases h0:(kY n base (xn rows n.A) (xn rows n.B) (if n.B<0 then []else ks n.B.toNat).length).2=0
  ·rw [aK (by simp [h0])]
   exact E2 T t (i+1) _ h3 h2 (I.next c1 c2)
  ·rw [aY h0]
   refine⟨fun h=>absurd h h0,?_⟩
   rcases c3 with q|q|q
   ·exact absurd q h0
   ·rw [q];exact .inr (.inl rfl)
   ·rw [q.1]
    refine .inr (.inr ⟨rfl,uB.2 ⟨n,?_,q.2⟩⟩)
    rw [bT]at h1
    exact rO h1


end Go.Proofs.YtfhhakidodmdfaaGreatDoor

