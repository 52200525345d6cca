/- cT of this claim: L5, L6, L7, L8, L9, L10, L11, L12, L13, L14, J5, J6, J7, J8, J9, J10, J11, Q1, Q2, Q3. -/
import Derived.Test.YtfhhakidodmdfaaGreatDoorJeQ2
import Derived.Test.YtfhhakidodmdfaaGreatDoorJeQ1
import Derived.Laws.RangeAny
import Derived.Shelf.Strings.CaseAny
set_option linter.all false
namespace Go.Proofs.YtfhhakidodmdfaaGreatDoor
open Go

def FI(op:Int):Bool:=decide (1≤op)&&decide (op≤8)
theorem qm{op:Int}(h:FI op=true):op=1∨op=2∨op=3∨op=4∨op=5∨op=6∨op=7∨op=8:=by
 simp [FI]at h;omega
def BK(n:ak):Bool:=(uV n).getD false
variable{n:ak}
theorem rQ(n:ak):uV n=some (BK n):=by
 unfold BK uV
 repeat' split
 all_goals rfl
variable{l:bE}{α:Type}
theorem abT(l:List α):((l.length:Int)==0)=l.isEmpty:=by cases l<;>simp<;>omega
theorem XE(l:List α):decide ((0:Int)<(l.length:Int))= !l.isEmpty:=by cases l<;>simp<;>omega
variable{r:cA}
theorem Q4(n:ak)(h:FI n.Op=true):((s4 n).bind fun r=>(s0 r).bind fun r1=>some r1)=some (BK n):=by
 obtain⟨op,A,B,V1,kinds,left,cond,keys,aggs,items,order,limit⟩:=n
 unfold BK uV s4 s0
 simp only [abT,XE]
 rcases qm h with h|h|h|h|h|h|h|h<;>simp only at h<;>subst h<;>simp<;>(try (by_cases t:V1=0<;>simp [t]))<;>(try (by_cases lm:limit=0<;>simp [lm]))<;>(try (cases left<;>simp))<;>(try (by_cases e1:kinds=[]<;>simp [e1]))<;>(try (by_cases e2:cond.Nodes=[]<;>simp [e2]))<;>(try (by_cases e3:keys=[]<;>simp [e3]))<;>(try (by_cases e4:aggs=[]<;>simp [e4]))<;>(try (by_cases e5:items=[]<;>simp [e5]))<;>(try (by_cases e6:order=[]<;>simp [e6]))
variable{e:bK}{k:List Int}
theorem Rh{β:Type}(f1 f2 f3 f4 f5 f6 f7 f8:β)(k:Int):kD (cY (cY (cY (cY (cY (cY (cY (cY ([]:List (Int×β)) 1 f1) 2 f2) 3 f3) 4 f4) 5 f5) 6 f6) 7 f7) 8 f8) k=
  if k=1 then some f1 else if k=2 then some f2 else if k=3 then some f3 else if k=4 then some f4 else if k=5 then some f5 else if k=6 then some f6 else if k=7 then some f7 else if k=8 then some f8 else none:=by
 have e:cY (cY (cY (cY (cY (cY (cY (cY ([]:List (Int×β)) 1 f1) 2 f2) 3 f3) 4 f4) 5 f5) 6 f6) 7 f7) 8 f8=[(1,f1),(2,f2),(3,f3),(4,f4),(5,f5),(6,f6),(7,f7),(8,f8)]:=rfl
 rw [e]
 simp only [kD,eq_comm (b:=k)]
theorem EN(op:Int):tY op=some (if op=1 then 0 else if op=2∨op=7 then 2 else 1):=by
 unfold tY pQ
 by_cases h1:op=1
 ·simp [h1]
 by_cases h2:op=2
 ·simp [h2]
 by_cases h7:op=7
 ·simp [h7]
 simp [h1,h2,h7]
theorem lK(op:Int):xd op=some (if op=1 then 0 else if op=2∨op=7 then 2 else if FI op then 1 else -1):=by
 unfold xd sS lJ
 by_cases h:FI op=true
 ·rcases qm h with rfl|rfl|rfl|rfl|rfl|rfl|rfl|rfl<;>rfl
 ·have h' : ¬(1≤op∧op≤8):=fun hh=>h (by simp [FI];omega)
  have h1: ¬op=1:=by omega
  have h2: ¬op=2:=by omega
  have h3: ¬op=3:=by omega
  have h4: ¬op=4:=by omega
  have h5: ¬op=5:=by omega
  have h6: ¬op=6:=by omega
  have h7: ¬op=7:=by omega
  have h8: ¬op=8:=by omega
  simp [h1,h2,h3,h4,h5,h6,h7,h8,h]
structure Nl(l:bE)(j:Nat)(f:Int)(ks:List Int)(s:Nat):Prop where
 pos:1≤s
 le:s≤j+1
 fst:f=(j:Int)+1-(s:Int)
 size: ∀fu,j+1<fu→bU fu l (j:Int)=some (s:Int)
 len:ks.length≤16
 kinds: ∀fu,j+1<fu→ci fu l (j:Int)=some (ks,true)
structure Ly(l:bE)(i:Nat)(first:List Int)(kinds:List (List Int)):Prop where
 fl:first.length=i
 kl:kinds.length=i
 node: ∀j,j<i→ ∃f ks s,first[j]? =some f∧kinds[j]? =some ks∧Nl l j f ks s
variable{first:List Int}{i j:Nat}{ks:List Int}
theorem Ly.push{kinds:List (List Int)}(h:Ly l i first kinds){f:Int}{s:Nat}(hn:Nl l i f ks s):Ly l (i+1) (first++[f]) (kinds++[ks]):=by
 refine⟨by simp [h.fl],by simp [h.kl],fun j hj=>?_⟩
 by_cases hji:j=i
 ·subst hji
  refine⟨f,ks,s,?_,?_,hn⟩
  ·rw [tH (by rw [h.fl];exact dn _),h.fl,zj];rfl
  ·rw [tH (by rw [h.kl];exact dn _),h.kl,zj];rfl
 ·obtain⟨f',ks',s',h1,h2,h3⟩:=h.node j (by omega)
  exact⟨f',ks',s',by rw [Af (by rw [h.fl];omega)];exact h1,by rw [Af (by rw [h.kl];omega)];exact h2,h3⟩
def OW(n:ak)(i:Nat):Prop:=
 (n.Op=1→n.A= -1∧n.B= -1)∧(n.Op≠1→0<i∧0≤n.A∧n.A<i)∧(n.Op=2∨n.Op=7→n.B=(i:Int)-1)∧(n.Op≠1→n.Op≠2→n.Op≠7→n.B= -1)
variable{p:Nat}
theorem uP(l:bE){fu:Nat}(hf:0<fu){p:Int}(h:p<0):bU fu l p=some 0:=by
 obtain⟨fu,rfl⟩: ∃k,fu=k+1:=⟨fu-1,by omega⟩
 unfold bU
 rw [aX (by simp [h])]
theorem Nc{kinds:List (List Int)}(hI:Ly l i first kinds)(hn:cR l.Nodes (i:Int)=some n)(hi:i<l.Nodes.length)(hl:l.Nodes.length≤1000)(hop:FI n.Op=true):
  ∃f ok,jE ⟨l,kinds,first⟩ (i:Int)=some (f,ok)∧((ok=true∧ ∃s:Nat,1≤s∧s≤i+1∧f=(i:Int)+1-(s:Int)∧(∀fu,i+1<fu→bU fu l (i:Int)=some (s:Int))∧OW n i)∨(ok=false∧ ∀fu,i+1<fu→bU fu l (i:Int)=some 0)):=by
 have hstep: ∀fu,i+1<fu→ ∃fu',fu=fu' +1∧i<fu' :=fun fu h=>⟨fu-1,by omega,by omega⟩
 unfold jE
 simp only [hn,ba,EN]
 by_cases h1:n.Op=1
 ·-- nothing below
  simp only [h1,eK]
  rw [aX (by decide)]
  refine⟨_,_,rfl,?_⟩
  by_cases hAB:n.A= -1∧n.B= -1
  ·refine .inl ⟨by simp [hAB],1,dn _,by omega,by omega,fun fu hf=>?_,⟨fun _=>hAB,fun h=>absurd h1 h,fun h=>by omega,fun h=>absurd h1 h⟩⟩
   obtain⟨fu',rfl,_⟩:=hstep fu hf
   unfold bU
   rw [aM (by simp;omega),hn]
   simp only [ba,lK,h1,eK]
   rw [aX (by decide),aX (by simp [hAB])];rfl
  ·have hb:(n.A== -1&&n.B== -1)=false:=by rw [rn];intro h;apply hAB;simpa using h
   refine .inr ⟨hb,fun fu hf=>?_⟩
   obtain⟨fu',rfl,_⟩:=hstep fu hf
   unfold bU
   rw [aM (by simp;omega),hn]
   simp only [ba,lK,h1,eK]
   rw [aX (by decide),aM (by rw [hb];decide)]
 ·by_cases h27:n.Op=2∨n.Op=7
  ·-- two below
   simp only [h1,h27,eK,d9]
   rw [aM (by decide),aM (by decide)]
   have hsz: ∀fu,i<fu→bU (fu+1) l (i:Int)=if n.B=(i:Int)-1 then((bU fu) l n.B).bind (fun r2=>if((decide ((0:Int)<r2))&&(n.A==(IntKind.i64.wrap (n.B-r2))))then(((bU fu) l n.A).bind fun r3=>if(decide ((0:Int)<r3))then(some (IntKind.i64.wrap ((IntKind.i64.wrap (r3+r2))+(1:Int))))else(some (0:Int)))else(some (0:Int)))else some 0:=by
    intro fu hfu
    conv=>lhs;unfold bU
    rw [aM (by simp;omega),hn]
    simp only [ba,lK,h1,h27,eK,d9]
    rw [aM (by decide),aM (by decide),aX (by decide),cv (n:=(i:Int)-1) (by omega) (by omega)]
    by_cases hB:n.B=(i:Int)-1
    ·rw [aX (by simp [hB]),aX hB]
    ·rw [aM (by simpa using hB),aM hB]
   by_cases hB:n.B=(i:Int)-1∧0<i
   ·have hcond:(!((n.B !=IntKind.i64.wrap ((i:Int)-1))||((i:Int)==0)))=true:=by
     rw [cv (by omega) (by omega)]
     have: ¬((i:Int)=0):=by omega
     simp [hB.1,this];omega
    rw [aX hcond]
    obtain⟨fB,kB,sB,g1,g2,g3⟩:=hI.node (i-1) (by omega)
    have hBi:n.B=((i-1:Nat):Int):=by omega
    have hidx:cR first n.B=some fB:=by rw [hBi,bW];exact g1
    rw [hidx]
    have hfB:=g3.fst
    have hsB:=g3.pos
    have hsB2:=g3.le
    simp only [ba]
    rw [cv (n:=fB-1) (by omega) (by omega)]
    by_cases hA:n.A=fB-1∧0≤n.A
    ·rw [aM (by simp [hA.1];omega)]
     obtain⟨fA,kA,sA,q1,q2,q3⟩:=hI.node n.A.toNat (by omega)
     have hidA:cR first n.A=some fA:=by
      rw [show n.A=((n.A.toNat:Nat):Int)from by omega,bW];exact q1
     rw [hidA]
     have hfA:=q3.fst
     have hsA:=q3.pos
     have hsA2:=q3.le
     refine⟨fA,true,rfl,.inl ⟨rfl,sA+sB+1,by omega,by omega,by omega,fun fu hf=>?_,⟨fun h=>absurd h h1,fun _=>⟨hB.2,hA.2,by omega⟩,fun _=>hB.1,fun _ h2 h7=>by rcases h27 with h|h;exact absurd h h2;exact absurd h h7⟩⟩⟩
     obtain⟨fu',rfl,hf'⟩:=hstep fu hf
     rw [hsz fu' hf',aX hB.1]
     have e1:=g3.size fu' (by omega)
     rw [←hBi]at e1
     rw [e1]
     simp only [ba]
     rw [cv (n:=n.B-(sB:Int)) (by omega) (by omega),aX (by simp;omega)]
     have e2:=q3.size fu' (by omega)
     rw [show((n.A.toNat:Nat):Int)=n.A from by omega]at e2
     rw [e2]
     simp only [ba]
     rw [aX (by simp;omega),cv (n:=(sA:Int)+(sB:Int)) (by omega) (by omega),cv (by omega) (by omega)]
     congr 1
    ·have hb:(n.A !=fB-1||decide (n.A<0))=true:=by
      simp only [p9,qT,kI]
      by_cases h:n.A=fB-1
      ·exact .inr (by omega)
      ·exact .inl h
     rw [aX hb]
     refine⟨0,false,rfl,.inr ⟨rfl,fun fu hf=>?_⟩⟩
     obtain⟨fu',rfl,hf'⟩:=hstep fu hf
     rw [hsz fu' hf',aX hB.1]
     have e1:=g3.size fu' (by omega)
     rw [←hBi]at e1
     rw [e1]
     simp only [ba]
     rw [cv (n:=n.B-(sB:Int)) (by omega) (by omega)]
     by_cases h:n.A=fB-1
     ·rw [aX (by simp;omega),uP l (by omega) (by omega)]
      rfl
     ·rw [aM (by simp;omega)]
   ·have hcond:(!((n.B !=IntKind.i64.wrap ((i:Int)-1))||((i:Int)==0)))=false:=by
     rw [cv (by omega) (by omega)]
     by_cases h:n.B=(i:Int)-1
     ·have:i=0:=by omega
      simp [this]
     ·simp [h]
    rw [hcond]
    simp only [fZ,d9,ba,Bool.true_or,eK]
    refine⟨0,false,rfl,.inr ⟨rfl,fun fu hf=>?_⟩⟩
    obtain⟨fu',rfl,hf'⟩:=hstep fu hf
    rw [hsz fu' hf']
    by_cases h:n.B=(i:Int)-1
    ·rw [aX h]
     rw [uP l (by omega) (by omega)]
     rfl
    ·rw [aM h]
  ·-- one below
   simp only [h1,h27,d9]
   rw [aM (by decide),aX (by decide)]
   have hsz: ∀fu,i<fu→bU (fu+1) l (i:Int)=if n.A=(i:Int)-1∧n.B= -1 then((bU fu) l n.A).bind (fun r1=>if(decide ((0:Int)<r1))then(some (IntKind.i64.wrap (r1+(1:Int))))else(some (0:Int)))else some 0:=by
    intro fu hfu
    conv=>lhs;unfold bU
    rw [aM (by simp;omega),hn]
    simp only [ba,lK,h1,h27,hop,eK,d9]
    rw [aM (by decide),aX (by decide),cv (n:=(i:Int)-1) (by omega) (by omega)]
    by_cases hB:n.A=(i:Int)-1∧n.B= -1
    ·rw [aX (by simp [hB]),aX hB]
    ·rw [aM (by simpa using hB),aM hB]
   rw [cv (by omega) (by omega)]
   by_cases hA:(n.A=(i:Int)-1∧n.B= -1)∧0<i
   ·rw [aM (by simp [hA.1];omega)]
    obtain⟨fA,kA,sA,g1,g2,g3⟩:=hI.node (i-1) (by omega)
    have hAi:n.A=((i-1:Nat):Int):=by omega
    have hidx:cR first n.A=some fA:=by rw [hAi,bW];exact g1
    rw [hidx]
    have hfA:=g3.fst
    have hsA:=g3.pos
    have hsA2:=g3.le
    refine⟨fA,true,rfl,.inl ⟨rfl,sA+1,by omega,by omega,by omega,fun fu hf=>?_,⟨fun h=>absurd h h1,fun _=>⟨hA.2,by omega,by omega⟩,fun h=>absurd h h27,fun _ _ _=>hA.1.2⟩⟩⟩
    obtain⟨fu',rfl,hf'⟩:=hstep fu hf
    rw [hsz fu' hf',aX hA.1]
    have e1:=g3.size fu' (by omega)
    rw [←hAi]at e1
    rw [e1]
    simp only [ba]
    rw [aX (by simp;omega),cv (by omega) (by omega)]
    rfl
   ·have hb:(n.A !=(i:Int)-1||n.B != -1||(i:Int)==0)=true:=by
     simp only [p9,qT,sx]
     by_cases h:n.A=(i:Int)-1
     ·by_cases h' :n.B= -1
      ·exact .inr (by omega)
      ·exact .inl (.inr h')
     ·exact .inl (.inl h)
    rw [aX hb]
    refine⟨0,false,rfl,.inr ⟨rfl,fun fu hf=>?_⟩⟩
    obtain⟨fu',rfl,hf'⟩:=hstep fu hf
    rw [hsz fu' hf']
    by_cases h:n.A=(i:Int)-1∧n.B= -1
    ·rw [aX h,uP l (by omega) (by omega)]
     rfl
    ·rw [aM h]
theorem Mx{kinds:List (List Int)}(hI:Ly l i first kinds)(hn:cR l.Nodes (i:Int)=some n)(hl:l.Nodes.length≤1000)(hi:i<l.Nodes.length){s:Nat}(hs:1≤s)(hsz: ∀fu,i+1<fu→bU fu l (i:Int)=some (s:Int))(hp:OW n i)(ho:BK n=true)(hop:FI n.Op=true):
  ∃a b,(n.Op≠1→cR kinds n.A=some a)∧(n.Op=2∨n.Op=7→cR kinds n.B=some b)∧a.length≤16∧b.length≤16∧ ∀fu,i+1<fu→ci fu l (i:Int)=gB l (i:Int) n a b:=by
 obtain⟨p1,p2,p3,p4⟩:=hp
 have hsz0:kg l (i:Int)=some (s:Int):=hsz im (wL (Dy _) (mB (by omega)))
 have hu: ∀fu,ci (fu+1) l (i:Int)=if(decide ((0:Int)≤n.A))then(((ci fu) l n.A).bind fun r4=>if(!r4.2)then(some ([],false))else(eg (ci fu) l (i:Int) n r4.1))else(eg (ci fu) l (i:Int) n ([])):=by
  intro fu
  conv=>lhs;unfold ci
  rw [hsz0,hn]
  simp only [ba,rQ,ho]
  have: ¬(s=0):=by omega
  simp [this]
 by_cases h1:n.Op=1
 ·obtain⟨hA,hB⟩:=p1 h1
  refine⟨[],[],fun h=>absurd h1 h,fun h=>by omega,by simp,by simp,fun fu hf=>?_⟩
  obtain⟨fu,rfl⟩: ∃k,fu=k+1:=⟨fu-1,by omega⟩
  rw [hu,aM (by simp [hA])]
  unfold eg
  rw [aM (by simp [hB])]
 ·obtain⟨hi0,hA0,hAi⟩:=p2 h1
  obtain⟨fA,kA,sA,g1,g2,g3⟩:=hI.node n.A.toNat (by omega)
  have eA:((n.A.toNat:Nat):Int)=n.A:=by omega
  have hkA:cR kinds n.A=some kA:=by rw [←eA,bW];exact g2
  by_cases h27:n.Op=2∨n.Op=7
  ·have hB:=p3 h27
   obtain⟨fB,kB,sB,q1,q2,q3⟩:=hI.node (i-1) (by omega)
   have eB:((i-1:Nat):Int)=n.B:=by omega
   have hkB:cR kinds n.B=some kB:=by rw [←eB,bW];exact q2
   refine⟨kA,kB,fun _=>hkA,fun _=>hkB,g3.len,q3.len,fun fu hf=>?_⟩
   obtain⟨fu,rfl⟩: ∃k,fu=k+1:=⟨fu-1,by omega⟩
   rw [hu,aX (by simpa using hA0)]
   have e1:=g3.kinds fu (by omega)
   rw [eA]at e1
   rw [e1]
   simp only [ba,mi,fZ,d9]
   unfold eg
   rw [aX (by simp;omega)]
   have e2:=q3.kinds fu (by omega)
   rw [eB]at e2
   rw [e2]
   simp only [ba,mi,fZ,d9]
  ·have hB:=p4 h1 (fun h=>h27 (.inl h)) (fun h=>h27 (.inr h))
   refine⟨kA,[],fun _=>hkA,fun h=>absurd h h27,g3.len,by simp,fun fu hf=>?_⟩
   obtain⟨fu,rfl⟩: ∃k,fu=k+1:=⟨fu-1,by omega⟩
   rw [hu,aX (by simpa using hA0)]
   have e1:=g3.kinds fu (by omega)
   rw [eA]at e1
   rw [e1]
   simp only [ba,mi,fZ,d9]
   unfold eg
   rw [aM (by simp [hB])]
theorem ER(hn:cR l.Nodes (i:Int)=some n)(hl:i<1000)(h:(∀fu,i+1<fu→bU fu l (i:Int)=some 0)∨((∃s:Int,∀fu,i+1<fu→bU fu l (i:Int)=some s)∧BK n=false)):qY l (i:Int)=some ([],false):=by
 have hF:i+1<im:=wL (Dy _) (mB (by omega))
 have e:im=(im-1)+1:=by omega
 unfold qY
 rw [e]
 unfold ci kg
 rcases h with h|⟨⟨s,h⟩,ho⟩
 ·rw [h _ hF];simp
 ·rw [h _ hF,hn]
  simp only [ba,rQ,ho]
  by_cases hs:s=0<;>simp [hs]

def mP(l:bE):Prop:= ∀n∈l.Nodes,iW n
abbrev abJ:=aC→ak→Option (((List Int)×Bool)×aC)
def CB:List (Int×abJ):=(cY (cY (cY (cY (cY (cY (cY (cY ([]:List (Int×(aC→ak→Option (((List Int)×Bool)×aC)))) (1:Int) (fun(mc:aC) (mx:ak)=>(fS mc mx).map fun mr=>(mr,mc))) (2:Int) (fun(mc:aC) (mx:ak)=>(gI mc mx).map fun mr=>(mr,mc))) (3:Int) (fun(mc:aC) (mx:ak)=>(fT mc mx).map fun mr=>(mr,mc))) (4:Int) (fun(mc:aC) (mx:ak)=>(gq mc mx).map fun mr=>(mr,mc))) (5:Int) (fun(mc:aC) (mx:ak)=>(fj mc mx).map fun mr=>(mr,mc))) (6:Int) (fun(mc:aC) (mx:ak)=>(eT mc mx).map fun mr=>(mr,mc))) (7:Int) (fun(mc:aC) (mx:ak)=>(gn mc mx).map fun mr=>(mr,mc))) (8:Int) (fun(mc:aC) (mx:ak)=>(gp mc mx).map fun mr=>(mr,mc)))
theorem Ri(op:Int):(kD CB op).isSome=FI op:=by
 unfold CB
 rw [Rh]
 by_cases h:FI op=true
 ·rw [h]
  rcases qm h with rfl|rfl|rfl|rfl|rfl|rfl|rfl|rfl<;>rfl
 ·rw [rn.2 h]
  have h' : ¬(1≤op∧op≤8):=fun hh=>h (by simp [FI];omega)
  have h1: ¬op=1:=by omega
  have h2: ¬op=2:=by omega
  have h3: ¬op=3:=by omega
  have h4: ¬op=4:=by omega
  have h5: ¬op=5:=by omega
  have h6: ¬op=6:=by omega
  have h7: ¬op=7:=by omega
  have h8: ¬op=8:=by omega
  simp [h1,h2,h3,h4,h5,h6,h7,h8]
theorem Py(c:aC)(n:ak)(a b:List Int)(hn:iW n)(hop:FI n.Op=true)(ha:n.Op≠1→cR c.kinds n.A=some a)(hb:n.Op=2∨n.Op=7→cR c.kinds n.B=some b)(hal:a.length≤16)(hbl:b.length≤16):
  ∃k o k',((kD CB n.Op).getD (fun _ _=>none)) c n=some ((k,o&&(if n.Op=8 then(c.kinds.length:Int)==IntKind.i64.wrap ((c.Logic.Nodes.length:Int)-(1:Int))else true)),c)∧bq n a b=some (k',o)∧(o=true→k=k'):=by
 have go: ∀(m:Option (List Int×Bool)) (last:Bool),Bl m (bq n a b) last→((kD CB n.Op).getD (fun _ _=>none)) c n=m.map (fun mr=>(mr,c))→(if n.Op=8 then(c.kinds.length:Int)==IntKind.i64.wrap ((c.Logic.Nodes.length:Int)-(1:Int))else true)=last→ ∃k o k',((kD CB n.Op).getD (fun _ _=>none)) c n=some ((k,o&&(if n.Op=8 then(c.kinds.length:Int)==IntKind.i64.wrap ((c.Logic.Nodes.length:Int)-(1:Int))else true)),c)∧bq n a b=some (k',o)∧(o=true→k=k'):=by
  intro m last ⟨k,o,k',h1,h2,h3⟩ he hl
  exact⟨k,o,k',by rw [he,h1,hl];rfl,h2,h3⟩
 unfold CB at go ⊢
 rw [Rh]at go ⊢
 rcases qm hop with h|h|h|h|h|h|h|h
 ·exact go _ _ (GA c n a b hn h) (by simp [h]) (by simp [h])
 ·exact go _ _ (PC c n a b hn h (ha (by omega)) (hb (.inl h)) hal hbl) (by simp [h]) (by simp [h])
 ·exact go _ _ (KH c n a b hn h (ha (by omega))) (by simp [h]) (by simp [h])
 ·exact go _ _ (My c n a b hn h (ha (by omega))) (by simp [h]) (by simp [h])
 ·exact go _ _ (H2 c n a b hn h (ha (by omega))) (by simp [h]) (by simp [h])
 ·exact go _ _ (Ga c n a b h (ha (by omega))) (by simp [h]) (by simp [h])
 ·exact go _ _ (LI c n a b h (ha (by omega)) (hb (.inr h)) hal) (by simp [h]) (by simp [h])
 ·exact go _ _ (Mo c n a b hn h (ha (by omega))) (by simp [h]) (by simp [h])
variable{x:Int}
theorem Pv{Sg:Type}(yld:(Int×Bool)→Sg→Option (Bool×Sg)){kinds:List (List Int)}(hI:Ly l i first kinds){tl:List ak}(hd:l.Nodes.drop i=n::tl)(hS:mP l)(hl:l.Nodes.length≤60)(st:Sg):
  ∃first' kinds' ok,bD yld (n::tl) i st ⟨l,kinds,first⟩=((yld ((i:Int),ok) st).bind fun r2=>if((!r2.1)||(!ok))then some (r2.2,⟨l,kinds',first'⟩)else bD yld tl (i+1) r2.2 ⟨l,kinds',first'⟩)∧(∃x,qY l (i:Int)=some (x,ok))∧(ok=true→Ly l (i+1) first' kinds'):=by
 obtain⟨hn,hi,_⟩:=kw hd
 have hfl:=hI.fl
 have hkl:=hI.kl
 have hSn:iW n:=hS n (by
  rw [bW]at hn
  exact qU hn)
 have hF:i+1<im:=wL (Dy _) (mB (by omega))
 have hu:bD yld (n::tl) i st ⟨l,kinds,first⟩=(if(kD CB n.Op).isSome then((s4 n).bind fun r=>(s0 r).bind fun r1=>some r1)else some false).bind fun t=>if t then((jE ⟨l,kinds,first⟩ (i:Int)).bind fun r4=>(app first ([r4.1])).bind fun l7=>d4 yld (bD yld tl) i n st r4.2 ⟨l,kinds,l7⟩)else(d4 yld (bD yld tl) i n st t ⟨l,kinds,first⟩):=rfl
 rw [hu,Ri]
 have hk2: ∀(ok1:Bool) (k:List Int) (f' :List Int),gi yld (bD yld tl) i st ok1 k ⟨l,kinds,f'⟩=((yld ((i:Int),ok1&&decide (k.length≤16)) st).bind fun r2=>if((!r2.1)||(!(ok1&&decide (k.length≤16))))then some (r2.2,⟨l,kinds++[k],f'⟩)else bD yld tl (i+1) r2.2 ⟨l,kinds++[k],f'⟩):=by
  intro ok1 k f'
  unfold gi
  rw [bY (by simp;omega)]
  have:decide ((k.length:Int)≤16)=decide (k.length≤16):=by rw [zk];simp;omega
  simp only [ba,this]
 have hk1: ∀(f' :List Int),d4 yld (bD yld tl) i n st false ⟨l,kinds,f'⟩=((yld ((i:Int),false) st).bind fun r2=>if((!r2.1)||(!false))then some (r2.2,⟨l,kinds++[[]],f'⟩)else bD yld tl (i+1) r2.2 ⟨l,kinds++[[]],f'⟩):=by
  intro f'
  unfold d4
  rw [aM (by decide),hk2]
  rfl
 by_cases hop:FI n.Op=true
 ·rw [aX hop,Q4 n hop]
  simp only [ba]
  obtain⟨f,ok,hb1,hb2⟩:=Nc hI hn hi (by omega) hop
  cases ho:BK n with
  |false=>
   simp only [fZ,d9]
   rw [hk1]
   refine⟨first,kinds++[[]],false,rfl,⟨[],ER hn (by omega) (.inr ⟨?_,ho⟩)⟩,by simp⟩
   rcases hb2 with⟨_,s,_,_,_,h,_⟩|⟨_,h⟩
   ·exact⟨s,h⟩
   ·exact⟨0,h⟩
  |true=>
   simp only [eK]
   rw [hb1]
   simp only [ba]
   rw [bY (by simp;omega)]
   simp only [ba]
   rcases hb2 with⟨hok,s,hs,hs2,hf,hsz,hp⟩|⟨hok,h⟩
   ·subst hok
    obtain⟨a,b,ha,hb,hal,hbl,hK⟩:=Mx hI hn (by omega) hi hs hsz hp ho hop
    obtain⟨k,o,k',m1,m2,m3⟩:=Py ⟨l,kinds,first++[f]⟩ n a b hSn hop ha hb hal hbl
    have hk1' :d4 yld (bD yld tl) i n st true ⟨l,kinds,first++[f]⟩=((((kD CB n.Op).getD (fun _ _=>none)) ⟨l,kinds,first++[f]⟩ n).bind fun r3=>gi yld (bD yld tl) i st r3.1.2 r3.1.1 r3.2):=rfl
    rw [hk1',m1]
    simp only [ba]
    rw [hk2]
    have hlast:((kinds.length:Int)==IntKind.i64.wrap ((l.Nodes.length:Int)-1))=((i:Int)==IntKind.i64.wrap ((l.Nodes.length:Int)-1)):=by rw [hkl]
    have hKk: ∀fu,i+1<fu→ ∃x,ci fu l (i:Int)=some (x,(o&&(if n.Op=8 then(kinds.length:Int)==IntKind.i64.wrap ((l.Nodes.length:Int)-(1:Int))else true))&&decide (k.length≤16))∧(((o&&(if n.Op=8 then(kinds.length:Int)==IntKind.i64.wrap ((l.Nodes.length:Int)-(1:Int))else true))&&decide (k.length≤16))=true→x=k):=by
     intro fu hf
     rw [hK fu hf]
     unfold gB
     rw [m2]
     simp only [ba]
     rw [hlast]
     cases o with
     |false=>
      simp only [DC]
      split
      ·exact⟨_,rfl,by simp⟩
      ·exact⟨_,rfl,by simp⟩
     |true=>
      have:=m3 rfl
      subst this
      simp only [uE]
      by_cases h8:n.Op=8
      ·by_cases hL:(i:Int)=IntKind.i64.wrap ((l.Nodes.length:Int)-1)
       ·by_cases h16:k.length≤16
        ·rw [aM (by simp [←hL];omega)]
         exact⟨k,by simp [h8,hL,h16],fun _=>rfl⟩
        ·rw [aX (by simp;omega)]
         exact⟨[],by simp [h16],by simp [h16]⟩
       ·rw [aX (by simp [h8,hL])]
        exact⟨[],by simp [h8,hL],by simp [h8,hL]⟩
      ·by_cases h16:k.length≤16
       ·rw [aM (by simp [h8];omega)]
        exact⟨k,by simp [h8,h16],fun _=>rfl⟩
       ·rw [aX (by simp;omega)]
        exact⟨[],by simp [h16],by simp [h16]⟩
    refine⟨first++[f],kinds++[k],_,rfl,?_,fun hok=>?_⟩
    ·obtain⟨x,h1,_⟩:=hKk im hF
     exact⟨x,h1⟩
    ·refine hI.push (s:=s) ⟨hs,hs2,hf,hsz,?_,fun fu hfu=>?_⟩
     ·simp at hok;exact hok.2
     ·obtain⟨x,h1,h2⟩:=hKk fu hfu
      rw [h1,h2 hok,hok]
   ·subst hok
    rw [hk1]
    exact⟨first++[f],kinds++[[]],false,rfl,⟨[],ER hn (by omega) (.inl h)⟩,by simp⟩
 ·rw [aM hop]
  simp only [ba,fZ,d9]
  rw [hk1]
  refine⟨first,kinds++[[]],false,rfl,⟨[],ER hn (by omega) (.inl fun fu hf=>?_)⟩,by simp⟩
  obtain⟨fu,rfl⟩: ∃k,fu=k+1:=⟨fu-1,by omega⟩
  unfold bU
  rw [aM (by simp;omega),hn]
  simp only [ba,lK]
  have h1: ¬n.Op=1:=fun h=>hop (by rw [h];rfl)
  have h2: ¬n.Op=2:=fun h=>hop (by rw [h];rfl)
  have h7: ¬n.Op=7:=fun h=>hop (by rw [h];rfl)
  simp [h1,h2,h7,hop]
theorem TP(hS:mP l)(hl:l.Nodes.length≤60): ∀(tl:List ak) (i:Nat) (first:List Int) (kinds:List (List Int)),Ly l i first kinds→l.Nodes.drop i=tl→i+tl.length=l.Nodes.length→
  ∃st ob,bD (wq (fun x s=>oJ x s.1 s.2.1 s.2.2)) tl i (none,(false,(0:Int),false)) ⟨l,kinds,first⟩=some (st,ob)∧ob.Logic=l∧
   ((st=(none,(false,(0:Int),false))∧Ly l l.Nodes.length ob.first ob.kinds∧eX l tl i=eX l [] l.Nodes.length)∨(∃j:Nat,st=(some 0,(false,(j:Int),true))∧eX l tl i=some (j:Int))):=by
 intro tl
 induction tl with
 |nil=>
  intro i first kinds hI hd hi
  simp only [oC,wG]at hi
  subst hi
  exact⟨_,_,rfl,rfl,.inl ⟨rfl,hI,rfl⟩⟩
 |cons n tl ih=>
  intro i first kinds hI hd hi
  simp only [gX]at hi
  obtain⟨f',k',ok,h1,⟨x,h2⟩,h3⟩:=Pv (wq (fun x s=>oJ x s.1 s.2.1 s.2.2)) hI hd hS hl (none,(false,(0:Int),false))
  rw [h1]
  have hW:eX l (n::tl) i=if(!ok)then some (i:Int)else eX l tl (i+1):=by
   conv=>lhs;unfold eX
   rw [h2];rfl
  rw [hW]
  cases ok with
  |false=>exact⟨_,_,rfl,rfl,.inr ⟨i,rfl,rfl⟩⟩
  |true=>
   obtain⟨st,ob,g1,g2,g3⟩:=ih (i+1) f' k' (h3 rfl) (kw hd).2.2 (by omega)
   refine⟨st,ob,?_,g2,?_⟩
   ·exact g1
   ·simpa using g3
theorem Ly.nil(l:bE):Ly l 0 [] []:=⟨rfl,rfl,fun j h=>absurd h (Nat.not_lt_zero _)⟩
structure SK(l:bE)(ob:aC):Prop where
 logic:ob.Logic=l
 pos:1≤l.Nodes.length
 le:l.Nodes.length≤60
 inv:Ly l l.Nodes.length ob.first ob.kinds
 whole:kg l ((l.Nodes.length:Int)-1)=some (l.Nodes.length:Int)
theorem TQ(hS:mP l): ∃ob j ok,o7 l=some (ob,j,ok)∧qX l=some (if ok then -1 else j)∧(0≤j)∧(ok=true→SK l ob∧j=(l.Nodes.length:Int)-1):=by
 unfold o7 qX
 by_cases h:l.Nodes.length<1∨60<l.Nodes.length
 ·rw [aX (by simp;omega),aX (by simp;omega)]
  exact⟨_,_,_,rfl,rfl,Int.le_refl _,by simp⟩
 ·rw [aM (by simp;omega),aM (by simp;omega)]
  unfold pR
  simp only [ba]
  unfold ly
  obtain⟨st,ob,h1,h2,h3⟩:=TP hS (by omega) l.Nodes 0 [] [] (Ly.nil l) rfl (by simp)
  have h1' :bD (wq (fun x s=>oJ x s.1 s.2.1 s.2.2)) (⟨l,[],[]⟩:aC).Logic.Nodes 0 (none,(false,(0:Int),false)) ⟨l,[],[]⟩=some (st,ob):=h1
  rw [h1']
  simp only [ba]
  rcases h3 with⟨rfl,hI,hW⟩|⟨j,rfl,hW⟩
  ·simp only [Option.isNone_none,eK]
   rw [cv (by omega) (by omega)]
   obtain⟨f,ks,s,g1,g2,g3⟩:=hI.node (l.Nodes.length-1) (by omega)
   have e:((l.Nodes.length-1:Nat):Int)=(l.Nodes.length:Int)-1:=by omega
   have hid:cR ob.first ((l.Nodes.length:Int)-1)=some f:=by rw [←e,bW];exact g1
   rw [hid]
   simp only [ba]
   have hsz:kg l ((l.Nodes.length:Int)-1)=some (s:Int):=by
    have:=g3.size im (wL (Dy _) (mB (by omega)))
    rw [e]at this;exact this
   have hf:=g3.fst
   refine⟨_,_,_,rfl,?_,by omega,fun hok=>?_⟩
   ·rw [hW]
    unfold eX
    rw [cv (by omega) (by omega),hsz]
    simp only [ba]
    by_cases hs:s=l.Nodes.length
    ·rw [aM (by simp [hs]),aX (by simp;omega)]
    ·rw [aX (by simp;omega),aM (by simp;omega)]
   ·have hs:s=l.Nodes.length:=by simp at hok;omega
    exact⟨⟨h2,by omega,by omega,hI,by rw [hsz,hs]⟩,rfl⟩
  ·simp only [Option.isNone_some,fZ,d9]
   refine⟨ob,(j:Int),false,rfl,by rw [hW];rfl,by omega,by simp⟩

theorem vd{n:Nat}(h:n≤900000):n<im:=wL (Dy _) (mB (by omega))
def D5(d x:Int):Int:=if 0≤x then IntKind.i64.wrap (x+d)else x
def D4(d:Int)(n:ak):ak:={n with A:=D5 d n.A,B:=D5 d n.B}
theorem iW.sh(h:iW n)(d:Int):iW (D4 d n):=⟨h.cond,h.kinds,h.keys,h.aggs,h.items,h.order,h.args,h.exprs⟩
theorem iW.at(h:iW n)(a b:Int):iW {n with A:=a,B:=b}:=⟨h.cond,h.kinds,h.keys,h.aggs,h.items,h.order,h.args,h.exprs⟩
theorem set_same{xs:List α}{e:α}(h:xs[i]? =some e):xs.set i e=xs:=by
 apply I4
 intro j
 rw [List.getElem?_set]
 split
 ·rename_i hj;subst hj
  split
  ·exact h.symm
  ·rename_i h2;rw [DG (by omega)]
 ·rfl
theorem sb(h:iW n):mX n=some n:=by
 have hK:=h.kinds
 have hk:=h.keys
 have hA:=h.aggs
 have hI:=h.items
 have hO:=h.order
 have hc:=h.cond
 have hcl: ∀{l:List bm},l.length≤5000→ck l=some l:=fun{l} hl=>by
  unfold ck;rw [bY (by simp;omega)];rfl
 unfold mX
 rw [se _ (by omega),se _ (by omega)]
 simp only [ba]
 have e1:d3 n.Order=some n.Order:=by unfold d3;rw [bY (by simp;omega)];rfl
 rw [e1]
 simp only [ba]
 rw [hcl hc]
 simp only [ba]
 have e2:eW n.Aggs=some n.Aggs:=by unfold eW;rw [bY (by simp;omega)];rfl
 rw [e2]
 simp only [ba]
 have e3:ee n.Items=some n.Items:=by unfold ee;rw [bY (by simp;omega)];rfl
 rw [e3]
 simp only [ba]
 have key2: ∀(tl:List bK) (i:Nat),n.Items.drop i=tl→(∀e∈tl,e.Nodes.length≤5000)→mV tl i n=some n:=by
  intro tl
  induction tl with
  |nil=>intro i _ _;rfl
  |cons x tl ih=>
   intro i hd hs
   obtain⟨h1,h2,h3⟩:=kw hd
   unfold mV
   rw [h1]
   simp only [ba]
   rw [hcl (hs x (kE ..))]
   simp only [ba,Ac]
   rw [bW]at h1
   have e4:n.Items.set i ({x with Nodes:=x.Nodes}:bK)=n.Items:=set_same h1
   rw [e4]
   exact ih (i+1) h3 (fun e he=>hs e (ky _ he))
 have key1: ∀(tl:List gM) (i:Nat),n.Aggs.drop i=tl→(∀e∈tl,e.Arg.Nodes.length≤5000)→mW tl i n=some n:=by
  intro tl
  induction tl with
  |nil=>intro i _ _;exact key2 n.Items 0 rfl h.exprs
  |cons x tl ih=>
   intro i hd hs
   obtain⟨h1,h2,h3⟩:=kw hd
   unfold mW
   rw [h1]
   simp only [ba]
   rw [hcl (hs x (kE ..))]
   simp only [ba,Ac]
   rw [bW]at h1
   have e4:n.Aggs.set i ({x with Arg:=({x.Arg with Nodes:=x.Arg.Nodes}:bK)}:gM)=n.Aggs:=set_same h1
   rw [e4]
   exact ih (i+1) h3 (fun e he=>hs e (ky _ he))
 exact key1 n.Aggs 0 rfl h.args
theorem C3(h:iW n)(d:Int):rZ n d=some (D4 d n):=by
 unfold rZ oP D4 D5
 by_cases hA:0≤n.A<;>by_cases hB:0≤n.B
 ·rw [aX (by simpa using hA),aX (by simpa using hB),aX hA,aX hB]
  exact sb (h.at _ _)
 ·rw [aX (by simpa using hA),aM (by simpa using hB),aX hA,aM hB]
  exact sb (h.at _ _)
 ·rw [aM (by simpa using hA),aX (by simpa using hB),aM hA,aX hB]
  exact sb (h.at _ _)
 ·rw [aM (by simpa using hA),aM (by simpa using hB),aM hA,aM hB]
  exact sb (h.at _ _)
def lg(l:bE):Bool:=decide ((qX l).getD 0<0)
theorem sR(h:mP l):Cz l=some (lg l)∧(∃j,pn l=some (if lg l then(0,0)else(j,230)))∧(∃ob j,o7 l=some (ob,j,lg l)∧(lg l=true→SK l ob∧j=(l.Nodes.length:Int)-1)):=by
 obtain⟨ob,j,ok,h1,h2,h3,h4⟩:=TQ h
 have e:lg l=ok:=by
  unfold lg
  rw [h2]
  cases ok<;>simp<;>omega
 refine⟨?_,⟨j,?_⟩,ob,j,?_⟩
 ·unfold Cz lg
  rw [h2];rfl
 ·unfold pn
  rw [h1,e]
  cases ok<;>rfl
 ·rw [e]
  exact⟨h1,h4⟩
theorem JA(hA:n.A≤100000)(hB:n.B≤100000):D4 0 n=n:=by
 have h: ∀x:Int,x≤100000→D5 0 x=x:=by
  intro x hx
  unfold D5
  by_cases h:0≤x
  ·rw [aX h,Int.add_zero,cv (by omega) (by omega)]
  ·rw [aM h]
 unfold D4
 rw [h _ hA,h _ hB]
theorem TM{d:Int}{ns:List ak}(h: ∀n∈ns,iW n): ∀n∈ns.map (D4 d),iW n:=by
 intro n hn
 obtain⟨m,hm,rfl⟩:=tK.1 hn
 exact(h m hm).sh d

structure zY(l:bE)(sz:Nat→Nat)(ks:Nat→List Int)(j:Nat)(n:ak):Prop where
 node:cR l.Nodes (j:Int)=some n
 op:FI n.Op=true
 own:BK n=true
 lf:n.Op=1→n.A= -1∧n.B= -1∧sz j=1
 un:n.Op≠1→n.Op≠2→n.Op≠7→0<j∧n.A=(j:Int)-1∧n.B= -1∧sz j=sz (j-1)+1
 bi:n.Op=2∨n.Op=7→0<j∧n.B=(j:Int)-1∧sz (j-1)<j∧n.A=(j:Int)-1-(sz (j-1):Int)∧sz j=sz (j-1-sz (j-1))+sz (j-1)+1
 kinds:bq n (if n.A<0 then []else ks n.A.toNat) (if n.B<0 then []else ks n.B.toNat)=some (ks j,true)
 last:n.Op=8→j+1=l.Nodes.length
 len:(ks j).length≤16
 pos:1≤sz j
 le:sz j≤j+1
theorem Gx(hn:cR l.Nodes (j:Int)=some n)(hj:j<l.Nodes.length)(hl:l.Nodes.length≤1000)(fu:Nat):bU (fu+1) l (j:Int)=
  if n.Op=1 then(if n.A= -1∧n.B= -1 then some 1 else some 0)
  else if n.Op=2∨n.Op=7 then(if n.B=(j:Int)-1 then((bU fu) l n.B).bind (fun r2=>if((decide ((0:Int)<r2))&&(n.A==(IntKind.i64.wrap (n.B-r2))))then(((bU fu) l n.A).bind fun r3=>if(decide ((0:Int)<r3))then(some (IntKind.i64.wrap ((IntKind.i64.wrap (r3+r2))+(1:Int))))else(some (0:Int)))else(some (0:Int)))else some 0)
  else if FI n.Op=true then(if n.A=(j:Int)-1∧n.B= -1 then((bU fu) l n.A).bind (fun r1=>if(decide ((0:Int)<r1))then(some (IntKind.i64.wrap (r1+(1:Int))))else(some (0:Int)))else some 0)
  else some 0:=by
 conv=>lhs;unfold bU
 rw [aM (by simp;omega),hn]
 simp only [ba,lK]
 by_cases h1:n.Op=1
 ·simp only [h1,eK]
  rw [aX (by decide)]
  by_cases hAB:n.A= -1∧n.B= -1
  ·rw [aX hAB,aX (by simp [hAB])]
  ·rw [aM hAB,aM (by simpa using hAB)]
 by_cases h27:n.Op=2∨n.Op=7
 ·simp only [h1,h27,eK,d9]
  rw [aM (by decide),aM (by decide),aX (by decide),cv (n:=(j:Int)-1) (by omega) (by omega)]
  by_cases hB:n.B=(j:Int)-1
  ·rw [aX (by simp [hB]),aX hB]
  ·rw [aM (by simpa using hB),aM hB]
 by_cases hop:FI n.Op=true
 ·simp only [h1,h27,hop,eK,d9]
  rw [aM (by decide),aX (by decide),cv (n:=(j:Int)-1) (by omega) (by omega)]
  by_cases hB:n.A=(j:Int)-1∧n.B= -1
  ·rw [aX (by simp [hB]),aX hB]
  ·rw [aM (by simpa using hB),aM hB]
 ·simp only [h1,h27,hop,d9]
  rw [aM (by decide),aM (by decide),aM (by decide)]
  rfl
theorem AO{s:Int}(hn:cR l.Nodes (j:Int)=some n)(hs:kg l (j:Int)=some s)(hs0:s≠0)(ho:BK n=true)(fu:Nat):ci (fu+1) l (j:Int)=if(decide ((0:Int)≤n.A))then(((ci fu) l n.A).bind fun r4=>if(!r4.2)then(some ([],false))else(eg (ci fu) l (j:Int) n r4.1))else(eg (ci fu) l (j:Int) n ([])):=by
 conv=>lhs;unfold ci
 rw [hs,hn]
 simp only [ba,rQ,ho]
 have:(s==0)=false:=by simpa using hs0
 simp [this]
def wE(first:List Int)(j:Nat):Nat:=((j:Int)+1-(first[j]?).getD 0).toNat
def Mw(kinds:List (List Int))(j:Nat):List Int:=(kinds[j]?).getD []
theorem Ly.at{kinds:List (List Int)}(h:Ly l i first kinds)(hj:j<i):Nl l j ((j:Int)+1-(wE first j:Int)) (Mw kinds j) (wE first j)∧first[j]? =some ((j:Int)+1-(wE first j:Int)):=by
 obtain⟨f,k,s,h1,h2,h3⟩:=h.node j hj
 have e1:Mw kinds j=k:=by unfold Mw;rw [h2];rfl
 have hf:=h3.fst
 have hp:=h3.pos
 have e2:wE first j=s:=by unfold wE;rw [h1];simp only [Gh];omega
 rw [e1,e2,←hf]
 exact⟨h3,h1⟩
theorem KJ{kinds:List (List Int)}(hI:Ly l l.Nodes.length first kinds)(hl:l.Nodes.length≤60)(hj:j<l.Nodes.length): ∃n,zY l (wE first) (Mw kinds) j n:=by
 obtain⟨N0,_⟩:=hI.at hj
 have hn:cR l.Nodes (j:Int)=some l.Nodes[j]:=by rw [bW,ox hj]
 obtain⟨n,hnn⟩: ∃n,n=l.Nodes[j]:=⟨_,rfl⟩
 rw [←hnn]at hn
 have hpos:=N0.pos
 have hsz:=N0.size (j+3) (by omega)
 rw [Gx hn hj (by omega)]at hsz
 have hnone: ∀{x:Int},x=0→ ¬(some x=some (wE first j:Int)):=by
  intro x hx h
  injection h with h
  omega
 -- the places
 have P:FI n.Op=true∧(n.Op=1→n.A= -1∧n.B= -1∧wE first j=1)∧(n.Op≠1→n.Op≠2→n.Op≠7→0<j∧n.A=(j:Int)-1∧n.B= -1∧wE first j=wE first (j-1)+1)∧(n.Op=2∨n.Op=7→0<j∧n.B=(j:Int)-1∧wE first (j-1)<j∧n.A=(j:Int)-1-(wE first (j-1):Int)∧wE first j=wE first (j-1-wE first (j-1))+wE first (j-1)+1):=by
  by_cases h1:n.Op=1
  ·rw [aX h1]at hsz
   by_cases hAB:n.A= -1∧n.B= -1
   ·rw [aX hAB]at hsz
    injection hsz with hsz
    exact⟨by rw [h1];rfl,fun _=>⟨hAB.1,hAB.2,by omega⟩,fun h=>absurd h1 h,fun h=>by omega⟩
   ·rw [aM hAB]at hsz;exact absurd hsz (hnone rfl)
  rw [aM h1]at hsz
  by_cases h27:n.Op=2∨n.Op=7
  ·rw [aX h27]at hsz
   by_cases hB:n.B=(j:Int)-1
   ·rw [aX hB]at hsz
    by_cases hj0:j=0
    ·rw [uP l (by omega) (by omega)]at hsz
     exact absurd hsz (hnone rfl)
    ·obtain⟨NB,_⟩:=hI.at (j:=j-1) (by omega)
     have eB:((j-1:Nat):Int)=n.B:=by omega
     have hszB:=NB.size (j+2) (by omega)
     have hpB:=NB.pos
     have hlB:=NB.le
     rw [eB]at hszB
     rw [hszB]at hsz
     simp only [ba]at hsz
     rw [cv (n:=n.B-_) (by omega) (by omega)]at hsz
     by_cases hA:n.A=n.B-(wE first (j-1):Int)
     ·rw [aX (by simp [hA];omega)]at hsz
      by_cases hA0:n.A<0
      ·rw [uP l (by omega) hA0]at hsz
       exact absurd hsz (hnone rfl)
      ·obtain⟨NA,_⟩:=hI.at (j:=j-1-wE first (j-1)) (by omega)
       have eA:((j-1-wE first (j-1):Nat):Int)=n.A:=by omega
       have hszA:=NA.size (j+2) (by omega)
       have hpA:=NA.pos
       have hlA:=NA.le
       rw [eA]at hszA
       rw [hszA]at hsz
       simp only [ba]at hsz
       rw [aX (by simp;omega),cv (n:=(wE first (j-1-wE first (j-1)):Int)+(wE first (j-1):Int)) (by omega) (by omega),cv (by omega) (by omega)]at hsz
       injection hsz with hsz
       refine⟨?_,fun h=>absurd h h1,fun _ h2 h7=>by rcases h27 with h|h;exact absurd h h2;exact absurd h h7,fun _=>⟨by omega,hB,by omega,by omega,by omega⟩⟩
       rcases h27 with h|h<;>rw [h]<;>rfl
     ·rw [aM (by simp;intro _;exact hA)]at hsz
      exact absurd hsz (hnone rfl)
   ·rw [aM hB]at hsz;exact absurd hsz (hnone rfl)
  rw [aM h27]at hsz
  by_cases hop:FI n.Op=true
  ·rw [aX hop]at hsz
   by_cases hA:n.A=(j:Int)-1∧n.B= -1
   ·rw [aX hA]at hsz
    by_cases hj0:j=0
    ·rw [uP l (by omega) (by omega)]at hsz
     exact absurd hsz (hnone rfl)
    ·obtain⟨NA,_⟩:=hI.at (j:=j-1) (by omega)
     have eA:((j-1:Nat):Int)=n.A:=by omega
     have hszA:=NA.size (j+2) (by omega)
     have hpA:=NA.pos
     have hlA:=NA.le
     rw [eA]at hszA
     rw [hszA]at hsz
     simp only [ba]at hsz
     rw [aX (by simp;omega),cv (by omega) (by omega)]at hsz
     injection hsz with hsz
     exact⟨hop,fun h=>absurd h h1,fun _ _ _=>⟨by omega,hA.1,hA.2,by omega⟩,fun h=>absurd h h27⟩
   ·rw [aM hA]at hsz;exact absurd hsz (hnone rfl)
  ·rw [aM hop]at hsz;exact absurd hsz (hnone rfl)
 obtain⟨p0,p1,p2,p3⟩:=P
 -- what it has of its own, and its kinds
 have hk:=N0.kinds (j+3) (by omega)
 have hszR:kg l (j:Int)=some (wE first j:Int):=N0.size im (vd (by omega))
 have ho:BK n=true:=by
  cases ho:BK n with
  |true=>rfl
  |false=>
   exfalso
   unfold ci at hk
   rw [hszR,hn]at hk
   simp only [ba,rQ,ho]at hk
   have: ¬(wE first j=0):=by omega
   simp [this]at hk
 have hpl:n.A<(j:Int)∧n.B<(j:Int):=by
  by_cases h1:n.Op=1
  ·obtain⟨a,b,_⟩:=p1 h1;omega
  by_cases h27:n.Op=2∨n.Op=7
  ·obtain⟨a,b,c,d,_⟩:=p3 h27;omega
  ·obtain⟨a,b,c,_⟩:=p2 h1 (fun h=>h27 (.inl h)) (fun h=>h27 (.inr h));omega
 rw [AO hn hszR (by omega) ho]at hk
 have hkA: ∀(p:Int),0≤p→p<(j:Int)→ci (j+2) l p=some (Mw kinds p.toNat,true):=by
  intro p hp0 hpj
  obtain⟨NA,_⟩:=hI.at (j:=p.toNat) (by omega)
  have:=NA.kinds (j+2) (by omega)
  rw [show((p.toNat:Nat):Int)=p from by omega]at this
  exact this
 have hk1: ∀a,eg (ci (j+2)) l (j:Int) n a=gB l (j:Int) n a (if n.B<0 then []else Mw kinds n.B.toNat):=by
  intro a
  unfold eg
  by_cases hB:0≤n.B
  ·rw [aX (by simpa using hB),hkA n.B hB hpl.2,aM (by omega)]
   rfl
  ·rw [aM (by simpa using hB),aX (by omega)]
 have hk2:gB l (j:Int) n (if n.A<0 then []else Mw kinds n.A.toNat) (if n.B<0 then []else Mw kinds n.B.toNat)=some (Mw kinds j,true):=by
  by_cases hA:0≤n.A
  ·rw [aX (by simpa using hA),hkA n.A hA hpl.1]at hk
   simp only [ba,mi,fZ,d9]at hk
   rw [hk1]at hk
   rw [aM (show¬n.A<0 by omega)]
   exact hk
  ·rw [aM (by simpa using hA),hk1]at hk
   rw [aX (show n.A<0 by omega)]
   exact hk
 unfold gB at hk2
 cases hr:bq n (if n.A<0 then []else Mw kinds n.A.toNat) (if n.B<0 then []else Mw kinds n.B.toNat)with
 |none=>rw [hr]at hk2;cases hk2
 |some r=>
  rw [hr]at hk2
  simp only [ba]at hk2
  split at hk2
  ·simp at hk2
  ·rename_i hc
   injection hk2 with hk2
   injection hk2 with e1 e2
   refine⟨n,hn,p0,ho,p1,p2,p3,?_,fun h8=>?_,N0.len,N0.pos,N0.le⟩
   ·rw [hr,←e1,←e2]
   ·simp only [p9,lX,sx,qT,kI,not_or,not_and,Decidable.not_not]at hc
    have:=hc.1 h8
    rw [cv (by omega) (by omega)]at this
    omega
variable{sz:Nat→Nat}
theorem PK{ks:Nat→List Int}{m:Nat}(hl:l.Nodes.length≤60)(hm:m≤l.Nodes.length)(h: ∀j,j<m→ ∃n,zY l sz ks j n): ∀(j:Nat),j<m→(∀fu,j+1<fu→bU fu l (j:Int)=some (sz j:Int))∧ ∀fu,j+1<fu→ci fu l (j:Int)=some (ks j,true):=by
 intro j
 induction j using Nat.strongRecOn with
 |ind j ih=>
  intro hj
  obtain⟨n,F⟩:=h j hj
  have hpl:n.A<(j:Int)∧n.B<(j:Int):=by
   by_cases h1:n.Op=1
   ·obtain⟨a,b,_⟩:=F.lf h1;omega
   by_cases h27:n.Op=2∨n.Op=7
   ·obtain⟨a,b,c,d,_⟩:=F.bi h27;omega
   ·obtain⟨a,b,c,_⟩:=F.un h1 (fun h=>h27 (.inl h)) (fun h=>h27 (.inr h));omega
  have hS: ∀fu,j+1<fu→bU fu l (j:Int)=some (sz j:Int):=by
   intro fu hf
   obtain⟨fu,rfl⟩: ∃k,fu=k+1:=⟨fu-1,by omega⟩
   rw [Gx F.node (by omega) (by omega)]
   by_cases h1:n.Op=1
   ·obtain⟨a,b,c⟩:=F.lf h1
    rw [aX h1,aX ⟨a,b⟩,c];rfl
   rw [aM h1]
   by_cases h27:n.Op=2∨n.Op=7
   ·obtain⟨a,b,c,d,e⟩:=F.bi h27
    obtain⟨nB,FB⟩:=h (j-1) (by omega)
    obtain⟨nA,FA⟩:=h (j-1-sz (j-1)) (by omega)
    have hB:=(ih (j-1) (by omega) (by omega)).1 fu (by omega)
    have hA:=(ih (j-1-sz (j-1)) (by omega) (by omega)).1 fu (by omega)
    rw [show((j-1:Nat):Int)=n.B from by omega]at hB
    rw [show((j-1-sz (j-1):Nat):Int)=n.A from by omega]at hA
    have q1:=FB.pos
    have q2:=FB.le
    have q3:=FA.pos
    have q4:=FA.le
    rw [aX h27,aX b,hB]
    simp only [ba]
    rw [cv (n:=n.B-_) (by omega) (by omega),aX (by simp;omega),hA]
    simp only [ba]
    rw [aX (by simp;omega),cv (n:=(sz (j-1-sz (j-1)):Int)+(sz (j-1):Int)) (by omega) (by omega),cv (by omega) (by omega),e]
    rfl
   ·obtain⟨a,b,c,d⟩:=F.un h1 (fun h=>h27 (.inl h)) (fun h=>h27 (.inr h))
    obtain⟨nA,FA⟩:=h (j-1) (by omega)
    have hA:=(ih (j-1) (by omega) (by omega)).1 fu (by omega)
    rw [show((j-1:Nat):Int)=n.A from by omega]at hA
    have q1:=FA.pos
    have q2:=FA.le
    rw [aM h27,aX F.op,aX ⟨b,c⟩,hA]
    simp only [ba]
    rw [aX (by simp;omega),cv (by omega) (by omega),d]
    rfl
  refine⟨hS,fun fu hf=>?_⟩
  obtain⟨fu,rfl⟩: ∃k,fu=k+1:=⟨fu-1,by omega⟩
  have hszR:kg l (j:Int)=some (sz j:Int):=hS im (vd (by omega))
  have hp:=F.pos
  rw [AO F.node hszR (by omega) F.own]
  have hkA: ∀(p:Int),0≤p→p<(j:Int)→ci fu l p=some (ks p.toNat,true):=by
   intro p hp0 hpj
   have:=(ih p.toNat (by omega) (by omega)).2 fu (by omega)
   rw [show((p.toNat:Nat):Int)=p from by omega]at this
   exact this
  have hk1: ∀a,eg (ci fu) l (j:Int) n a=gB l (j:Int) n a (if n.B<0 then []else ks n.B.toNat):=by
   intro a
   unfold eg
   by_cases hB:0≤n.B
   ·rw [aX (by simpa using hB),hkA n.B hB hpl.2,aM (by omega)]
    rfl
   ·rw [aM (by simpa using hB),aX (by omega)]
  have hk2:gB l (j:Int) n (if n.A<0 then []else ks n.A.toNat) (if n.B<0 then []else ks n.B.toNat)=some (ks j,true):=by
   unfold gB
   rw [F.kinds]
   simp only [ba]
   rw [aM]
   have hlen:=F.len
   simp only [p9,lX,sx,qT,kI,not_or,not_and,Decidable.not_not]
   refine⟨fun h8=>?_,by omega⟩
   have:=F.last h8
   rw [cv (by omega) (by omega)]
   omega
  by_cases hA:0≤n.A
  ·rw [aX (by simpa using hA),hkA n.A hA hpl.1]
   simp only [ba,mi,fZ,d9]
   rw [hk1]
   rw [aM (show¬n.A<0 by omega)]at hk2
   exact hk2
  ·rw [aM (by simpa using hA),hk1]
   rw [aX (show n.A<0 by omega)]at hk2
   exact hk2
theorem KI{ks:Nat→List Int}(hl:l.Nodes.length≤60)(hp:1≤l.Nodes.length)(h: ∀j,j<l.Nodes.length→ ∃n,zY l sz ks j n)(hw:sz (l.Nodes.length-1)=l.Nodes.length):lg l=true:=by
 have H:=PK hl (dn _) h
 unfold lg qX
 rw [aM (by simp;omega)]
 have key: ∀(tl:List ak) (i:Nat),l.Nodes.drop i=tl→i+tl.length=l.Nodes.length→eX l tl i=some (-1):=by
  intro tl
  induction tl with
  |nil=>
   intro i _ _
   unfold eX
   have:=(H (l.Nodes.length-1) (by omega)).1 im (vd (by omega))
   rw [cv (by omega) (by omega),show(l.Nodes.length:Int)-1=((l.Nodes.length-1:Nat):Int)from by omega]
   unfold kg
   rw [this,hw]
   simp
  |cons n tl ih=>
   intro i hd hi
   simp only [gX]at hi
   obtain⟨_,h2,h3⟩:=kw hd
   unfold eX qY
   rw [(H i h2).2 im (vd (by omega))]
   simp only [ba,mi,fZ,d9]
   exact ih (i+1) h3 (by omega)
 rw [key l.Nodes 0 rfl (by simp)]
 rfl

structure abL(n:ak):Prop where
 cond:0<n.Cond.Nodes.length→jM n.Cond.Nodes=true
 items: ∀e∈n.Items,0<e.Nodes.length→jM e.Nodes=true
 args: ∀g∈n.Aggs,0<g.Arg.Nodes.length→jM g.Arg.Nodes=true
def Jk(e:bK):Bool:= !e.Nodes.isEmpty&&e.Nodes.any YG
def QA(g:gM):Bool:=if g.Tag=3 then true else Jk g.Arg
def HC(n:ak):Bool:=Jk n.Cond||n.Items.any Jk||n.Aggs.any QA

def Jt(ns:List ak):List Int:=(ns.filter fun n=>n.Op==1).map (·.Table)
theorem wb: ∀(ns:List ak) (out:List Int),out.length+ns.length≤5000→jz ns out=some (qe (sortI (out++Jt ns)))
 |[],out,h=>by
  unfold jz zt
  rw [aX (by simp at h;omega)]
  simp only [ba]
  rw [CP _ (by rw [xR];simp at h;omega)]
  simp [Jt]
 |n::ns,out,h=>by
  simp only [gX]at h
  unfold jz
  by_cases h1:n.Op=1
  ·rw [aX (by simp [h1]),bY (by simp;omega)]
   simp only [ba]
   rw [wb ns _ (by simp;omega)]
   simp [Jt,h1]
  ·rw [aM (by simpa using h1),wb ns _ (by omega)]
   simp [Jt,h1]
def zE(l:bE)(e p:Nat):bE:=⟨((l.Nodes.take (p+1)).drop e).map (D4 (-(e:Int)))⟩
theorem vN{e:Nat}(hp:p<l.Nodes.length):(zE l e p).Nodes.length=p+1-e:=by
 unfold zE;simp;omega
theorem H4(h:mP l)(e p:Nat):mP (zE l e p):=
 TM fun n hn=>h n (List.mem_of_mem_take (List.mem_of_mem_drop hn))
theorem Nj(hS:mP l)(hl:l.Nodes.length≤60){e:Nat}(hp:p<l.Nodes.length)(he:e≤100): ∀(tl:List ak) (i fu:Nat) (out:bE),(l.Nodes.take (p+1)).drop i=tl→i+tl.length=p+1→tl.length<fu→out.Nodes.length≤i→nh l (p:Int) (e:Int) fu (i:Int) out=some (⟨out.Nodes++tl.map (D4 (-(e:Int)))⟩,0):=by
 intro tl
 induction tl with
 |nil=>
  intro i fu out hd hi hf _
  obtain⟨fu,rfl⟩: ∃k,fu=k+1:=⟨fu-1,by omega⟩
  simp only [oC,wG]at hi
  rw [nh,aM (by simp;omega)]
  simp
 |cons x tl ih=>
  intro i fu out hd hi hf ho
  simp only [gX]at hi hf
  obtain⟨fu,rfl⟩: ∃k,fu=k+1:=⟨fu-1,by omega⟩
  obtain⟨h1,h2,h3⟩:=kw hd
  have h1' :cR l.Nodes (i:Int)=some x:=by
   rw [bW]at h1 ⊢
   rw [Bv (by omega)]at h1
   exact h1
  have hx:iW x:=hS x (by rw [bW]at h1';exact qU h1')
  rw [nh,aX (by simp;omega),h1']
  simp only [ba]
  rw [cv (n:=(0:Int)-(e:Int)) (by omega) (by omega),C3 hx]
  simp only [ba]
  rw [bY (by simp;omega),cv (by omega) (by omega),show((i:Int)+1)=((i+1:Nat):Int)from by omega]
  simp only [ba]
  rw [ih (i+1) fu _ h3 (by omega) (by omega) (by simp;omega)]
  simp

theorem Kx(n:ak)(d:Int): ∀(fu:Nat) (ok:Bool) (i:Int),dA (D4 d n) fu ok i=dA n fu ok i:=by
 intro fu
 induction fu with
 |zero=>intros;rfl
 |succ fu ih=>intros;simp only [dA,ih];rfl
theorem Kv(n:ak)(d:Int)(a:List Int): ∀(fu:Nat) (out:List Int) (ok:Bool) (i:Int),dO (D4 d n) a fu out ok i=dO n a fu out ok i:=by
 intro fu
 induction fu with
 |zero=>intros;rfl
 |succ fu ih=>intros;simp only [dO,ih];rfl
theorem Kw(n:ak)(d:Int)(a:List Int): ∀(fu:Nat) (out:List Int) (i:Int),dP (D4 d n) a fu out i=dP n a fu out i:=by
 intro fu
 induction fu with
 |zero=>intros;rfl
 |succ fu ih=>intros;simp only [dP,ih,Kv];rfl
theorem Ku(n:ak)(d:Int)(a:List Int): ∀(fu:Nat) (out:List Int) (ok:Bool) (i:Int),dN (D4 d n) a fu out ok i=dN n a fu out ok i:=by
 intro fu
 induction fu with
 |zero=>intros;rfl
 |succ fu ih=>intros;simp only [dN,ih];rfl
theorem Kt(n:ak)(d:Int)(a:List Int): ∀(fu:Nat) (ok:Bool) (i:Int),dg (D4 d n) a fu ok i=dg n a fu ok i:=by
 intro fu
 induction fu with
 |zero=>intros;rfl
 |succ fu ih=>intros;simp only [dg,ih];rfl
theorem Ks(n:ak)(d:Int)(a b:List Int):bq (D4 d n) a b=bq n a b:=by
 unfold bq
 simp only [Kx,Kw,Ku,Kt]
 rfl
theorem Tw(n:ak)(d:Int):BK (D4 d n)=BK n:=rfl
section
variable{ks:Nat→List Int}
abbrev FG(l:bE)(sz:Nat→Nat)(ks:Nat→List Int):Prop:= ∀j,j<l.Nodes.length→ ∃n,zY l sz ks j n
theorem Zn(H:FG l sz ks): ∀(p:Nat),p<l.Nodes.length→ ∀q,p+1-sz p≤q→q≤p→p+1-sz p≤q+1-sz q:=by
 intro p
 induction p using Nat.strongRecOn with
 |ind p ih=>
  intro hp q h1 h2
  by_cases hq:q=p
  ·subst hq;exact dn _
  obtain⟨n,F⟩:=H p hp
  by_cases c1:n.Op=1
  ·obtain⟨_,_,e⟩:=F.lf c1
   omega
  by_cases c27:n.Op=2∨n.Op=7
  ·obtain⟨a,b,c,d,e⟩:=F.bi c27
   obtain⟨nA,FA⟩:=H (p-1-sz (p-1)) (by omega)
   have hpA:=FA.pos
   have hlA:=FA.le
   by_cases hB:p-1+1-sz (p-1)≤q
   ·have:=ih (p-1) (by omega) (by omega) q hB (by omega)
    omega
   ·have:=ih (p-1-sz (p-1)) (by omega) (by omega) q (by omega) (by omega)
    omega
  ·obtain⟨a,b,c,d⟩:=F.un c1 (fun h=>c27 (.inl h)) (fun h=>c27 (.inr h))
   have:=ih (p-1) (by omega) (by omega) q (by omega) (by omega)
   omega
theorem XJ(H:FG l sz ks)(hp:p<l.Nodes.length)(h1:p+1-sz p≤i)(h2:i≤p)(F:zY l sz ks i n):(n.A= -1∨((p+1-sz p:Nat):Int)≤n.A∧n.A<(i:Int))∧(n.B= -1∨((p+1-sz p:Nat):Int)≤n.B∧n.B<(i:Int)):=by
 have hn:=Zn H p hp i h1 h2
 by_cases c1:n.Op=1
 ·obtain⟨a,b,_⟩:=F.lf c1
  exact⟨.inl a,.inl b⟩
 by_cases c27:n.Op=2∨n.Op=7
 ·obtain⟨a,b,c,d,e⟩:=F.bi c27
  obtain⟨nA,FA⟩:=H (i-1-sz (i-1)) (by omega)
  have hpA:=FA.pos
  have hlA:=FA.le
  exact⟨.inr (by omega),.inr (by omega)⟩
 ·obtain⟨a,b,c,d⟩:=F.un c1 (fun h=>c27 (.inl h)) (fun h=>c27 (.inr h))
  obtain⟨nA,FA⟩:=H (i-1) (by omega)
  have hpA:=FA.pos
  exact⟨.inr (by omega),.inl c⟩
theorem Av{d:Int}(h:x= -1):D5 d x= -1:=by unfold D5;rw [aM (by omega),h]
theorem HK{e:Int}(h:0≤e)(h2:e≤x)(h3:x≤100000):D5 (-e) x=x-e:=by
 unfold D5
 rw [aX (by omega),cv (by omega) (by omega)]
 omega
theorem Ew(H:FG l sz ks)(hl:l.Nodes.length≤60)(hp:p<l.Nodes.length)(hs:sz p≤p+1):FG (zE l (p+1-sz p) p) (fun j=>sz (p+1-sz p+j)) (fun j=>ks (p+1-sz p+j)):=by
 obtain⟨e,he⟩: ∃e,e=p+1-sz p:=⟨_,rfl⟩
 rw [←he]
 intro j hj
 rw [vN hp]at hj
 obtain⟨n,F⟩:=H (e+j) (by omega)
 have hin:=XJ H hp (i:=e+j) (by omega) (by omega) F
 have hnest:=Zn H p hp (e+j) (by omega) (by omega)
 rw [←he]at hin hnest
 obtain⟨hA,hB⟩:=hin
 refine⟨D4 (-(e:Int)) n,⟨?_,F.op,by rw [Tw];exact F.own,fun c1=>?_,fun c1 c2 c7=>?_,fun c27=>?_,?_,fun c8=>?_,F.len,F.pos,?_⟩⟩
 ·have h1:=F.node
  rw [bW]at h1 ⊢
  unfold zE
  simp only
  rw [Cp,wM,Bv (by omega),h1]
  rfl
 ·obtain⟨a,b,c⟩:=F.lf c1
  exact⟨Av a,Av b,c⟩
 ·obtain⟨a,b,c,d⟩:=F.un c1 c2 c7
  obtain⟨nA,FA⟩:=H (e+j-1) (by omega)
  have hpA:=FA.pos
  have eA:D5 (-(e:Int)) n.A=n.A-(e:Int):=HK (by omega) (by omega) (by omega)
  refine⟨by omega,?_,Av c,?_⟩
  ·show D5 (-(e:Int)) n.A=_
   rw [eA];omega
  ·show sz (e+j)=sz (e+(j-1))+1
   rw [d,show e+j-1=e+(j-1)from by omega]
 ·obtain⟨a,b,c,d,g⟩:=F.bi c27
  obtain⟨nA,FA⟩:=H (e+j-1-sz (e+j-1)) (by omega)
  have hpA:=FA.pos
  have eA:D5 (-(e:Int)) n.A=n.A-(e:Int):=HK (by omega) (by omega) (by omega)
  have eB:D5 (-(e:Int)) n.B=n.B-(e:Int):=HK (by omega) (by omega) (by omega)
  have ej:e+(j-1)=e+j-1:=by omega
  refine⟨by omega,?_,?_,?_,?_⟩
  ·show D5 (-(e:Int)) n.B=_
   rw [eB];omega
  ·show sz (e+(j-1))<j
   rw [ej];omega
  ·show D5 (-(e:Int)) n.A=(j:Int)-1-(sz (e+(j-1)):Int)
   rw [eA,ej];omega
  ·show sz (e+j)=sz (e+(j-1-sz (e+(j-1))))+sz (e+(j-1))+1
   rw [ej,g,show e+(j-1-sz (e+j-1))=e+j-1-sz (e+j-1)from by omega]
 ·rw [Ks]
  have key: ∀x:Int,(x= -1∨(e:Int)≤x∧x<((e+j:Nat):Int))→(if D5 (-(e:Int)) x<0 then([]:List Int)else ks (e+(D5 (-(e:Int)) x).toNat))=if x<0 then []else ks x.toNat:=by
   intro x hx
   rcases hx with hx|hx
   ·rw [Av hx,aX (by decide),aX (by omega)]
   ·rw [HK (by omega) hx.1 (by omega),aM (by omega),aM (by omega)]
    congr 1
    omega
  have h1:=F.kinds
  rw [←key n.A hA,←key n.B hB]at h1
  exact h1
 ·have:=F.last c8
  rw [vN hp]
  omega
 ·show sz (e+j)≤j+1
  have:=F.le
  omega
theorem Mh(H:FG l sz ks)(hl:l.Nodes.length≤60)(hp:p<l.Nodes.length)(hs:sz p≤p+1)(hs1:1≤sz p):lg (zE l (p+1-sz p) p)=true:=by
 have hlen:=vN (l:=l) (e:=p+1-sz p) hp
 refine KI (by rw [hlen];omega) (by rw [hlen];omega) (Ew H hl hp hs) ?_
 rw [hlen]
 show sz (p+1-sz p+(p+1-(p+1-sz p)-1))=_
 rw [show p+1-sz p+(p+1-(p+1-sz p)-1)=p from by omega]
 omega
end

theorem abU{k:Int}(h:k4 k):(decide (0≤k)&&decide (k≤3))=true:=by simp;unfold k4 at h;omega
theorem yh{a b:List Int}(ha:yJ a=true)(hb:yJ b=true):yJ (a++b)=true:=by unfold yJ at*;rw [List.all_append,ha,hb];rfl
theorem Dl{k:Int}(h:k4 k):yJ [k]=true:=by rw [AP,abU h];rfl
theorem p5{xs ys zs:List α}(h:app xs ys=some zs):zs=xs++ys:=by
 unfold app at h
 split at h
 ·injection h with h;exact h.symm
 ·cases h
theorem Ky(e:bK)(kinds:List Int):k4 (fC e kinds).1:=by
 unfold fC
 split
 ·split
  ·rename_i hk
   split
   ·cases ht:mn e.Nodes with
    |none=>exact .inl rfl
    |some t=>
     obtain⟨hw,_,_⟩:=jT ht
     simp only [ba]
     cases hd:kd kinds t with
     |none=>exact .inl rfl
     |some k=>exact N2 (fun k=>yg hk) t hw hd
   ·exact .inl rfl
  ·exact .inl rfl
 ·exact .inl rfl
theorem YH(g:gM)(kinds:List Int):k4 (Bi g kinds).1:=by
 have hk:=Ky g.Arg kinds
 unfold Bi kL
 rw [lh]
 simp only [ba]
 repeat' split
 all_goals first|exact hk|simp [k4]
theorem Ru{a:List Int}{i k:Int}(ha:yJ a=true)(h:cR a i=some k):k4 k:=by
 obtain⟨_,h2⟩:=mY h
 exact yg ha (qU h2)
theorem XG(n:ak)(a:List Int): ∀(fu:Nat) (out:List Int) (ok:Bool) (i:Int) (k:List Int) (o:Bool),yJ out=true→dO n a fu out ok i=some (k,o)→yJ k=true:=by
 intro fu
 induction fu with
 |zero=>intro _ _ _ _ _ _ h;cases h
 |succ fu ih=>
  intro out ok i k o ho h
  rw [dO]at h
  split at h
  ·cases hx:cR n.Aggs i with
   |none=>rw [hx]at h;cases h
   |some g=>
    rw [hx]at h
    simp only [ba,o5]at h
    cases ha:app out [(Bi g a).1]with
    |none=>rw [ha]at h;cases h
    |some z=>
     rw [ha]at h
     exact ih _ _ _ _ _ (by rw [p5 ha];exact yh ho (Dl (YH g a))) h
  ·injection h with h
   injection h with h _
   rw [←h];exact ho
theorem XH(n:ak)(a:List Int)(hka:yJ a=true): ∀(fu:Nat) (out:List Int) (i:Int) (k:List Int) (o:Bool),yJ out=true→dP n a fu out i=some (k,o)→yJ k=true:=by
 intro fu
 induction fu with
 |zero=>intro _ _ _ _ _ h;cases h
 |succ fu ih=>
  intro out i k o ho h
  rw [dP]at h
  split at h
  ·cases hx:cR n.Keys i with
   |none=>rw [hx]at h;cases h
   |some g=>
    rw [hx]at h
    simp only [ba]at h
    split at h
    ·injection h with h;injection h with h _;rw [←h];rfl
    ·cases hy:cR a g with
     |none=>rw [hy]at h;cases h
     |some y=>
      rw [hy]at h
      simp only [ba]at h
      cases ha:app out [y]with
      |none=>rw [ha]at h;cases h
      |some z=>
       rw [ha]at h
       exact ih _ _ _ _ (by rw [p5 ha];exact yh ho (Dl (Ru hka hy))) h
  ·exact XG n a _ _ _ _ _ _ ho h
theorem XF(n:ak)(a:List Int): ∀(fu:Nat) (out:List Int) (ok:Bool) (i:Int) (k:List Int) (o:Bool),yJ out=true→dN n a fu out ok i=some (k,o)→yJ k=true:=by
 intro fu
 induction fu with
 |zero=>intro _ _ _ _ _ _ h;cases h
 |succ fu ih=>
  intro out ok i k o ho h
  rw [dN]at h
  split at h
  ·cases hx:cR n.Items i with
   |none=>rw [hx]at h;cases h
   |some g=>
    rw [hx]at h
    simp only [ba,lh]at h
    cases ha:app out [(fC g a).1]with
    |none=>rw [ha]at h;cases h
    |some z=>
     rw [ha]at h
     exact ih _ _ _ _ _ (by rw [p5 ha];exact yh ho (Dl (Ky g a))) h
  ·injection h with h
   injection h with h _
   rw [←h];exact ho
theorem Zr(n:ak)(a:List Int): ∀(fu:Nat) (ok:Bool) (i:Int) (k:List Int) (o:Bool),dg n a fu ok i=some (k,o)→k=a:=by
 intro fu
 induction fu with
 |zero=>intro _ _ _ _ h;cases h
 |succ fu ih=>
  intro ok i k o h
  rw [dg]at h
  split at h
  ·generalize (if ok=true then(cR n.Order i).bind fun e10=>some (decide ((0:Int)≤e10.Col))else some false)=z at h
   cases z with
   |none=>cases h
   |some z=>
    simp only [ba]at h
    generalize (if z=true then(cR n.Order i).bind fun e11=>some (decide (e11.Col<(a.length:Int)))else some false)=y at h
    cases y with
    |none=>cases h
    |some y=>exact ih _ _ _ _ h
  ·injection h with h
   injection h with h _
   exact h.symm
theorem Zt(n:ak): ∀(fu:Nat) (ok:Bool) (i:Int) (k:List Int) (o:Bool),dA n fu ok i=some (k,o)→k=n.Kinds:=by
 intro fu
 induction fu with
 |zero=>intro _ _ _ _ h;cases h
 |succ fu ih=>
  intro ok i k o h
  rw [dA]at h
  split at h
  ·generalize (if ok=true then(cR n.Kinds i).bind fun e10=>some (decide ((1:Int)≤e10))else some false)=z at h
   cases z with
   |none=>cases h
   |some z=>
    simp only [ba]at h
    generalize (if z=true then(cR n.Kinds i).bind fun e11=>some (decide (e11≤(3:Int)))else some false)=y at h
    cases y with
    |none=>cases h
    |some y=>exact ih _ _ _ _ h
  ·injection h with h
   injection h with h _
   exact h.symm
theorem Zs(b:List Int): ∀(tl:List Int) (i:Nat) (out:List Int) (ok:Bool) (k:List Int) (o:Bool),yJ tl=true→yJ b=true→yJ out=true→dy b tl i out ok=some (k,o)→yJ k=true∧k.length=out.length+tl.length:=by
 intro tl
 induction tl with
 |nil=>
  intro i out ok k o _ _ ho h
  rw [dy]at h
  injection h with h
  injection h with h _
  rw [←h];exact⟨ho,rfl⟩
 |cons x tl ih=>
  intro i out ok k o ht hb ho h
  rw [AP,lX]at ht
  have step: ∀z:Int,k4 z→ic b (dy b tl) i out ok z=some (k,o)→yJ k=true∧k.length=out.length+(tl.length+1):=by
   intro z hz hk
   unfold ic at hk
   cases ha:app out [z]with
   |none=>rw [ha]at hk;cases hk
   |some w=>
    rw [ha]at hk
    simp only [ba]at hk
    generalize (if ok=true then(cR b (i:Int)).bind fun e7=>(if(!(e7==z))=true then(cR b (i:Int)).bind fun e8=>some (e8==(0:Int))else some true).bind fun t3=>some t3 else some false)=q at hk
    cases q with
    |none=>cases hk
    |some q=>
     have:=ih (i+1) w q k o ht.2 hb (by rw [p5 ha];exact yh ho (Dl hz)) hk
     rw [p5 ha]at this
     simp only [iF,gX,oC]at this
     exact⟨this.1,by omega⟩
  rw [dy]at h
  split at h
  ·cases hx:cR b (i:Int)with
   |none=>rw [hx]at h;cases h
   |some y=>
    rw [hx]at h
    exact step y (Ru hb hx) h
  ·exact step x (by have:=ht.1;simp at this;unfold k4;omega) h
theorem PB{a b:List Int}(hs:iW n)(hop:FI n.Op=true)(ha:yJ a=true)(hb:yJ b=true)(h:bq n a b=some (k,true)):yJ k=true:=by
 have h0:=h
 unfold bq at h
 rcases qm hop with c|c|c|c|c|c|c|c
 ·rw [aX (by simp [c])]at h
  rw [Zt n _ _ _ _ _ h]
  obtain⟨k1,o,k',g1,g2,_⟩:=GA default n a b hs c
  rw [h0]at g2
  injection g2 with g2
  injection g2 with _ g2
  subst g2
  unfold fS at g1
  split at g1
  ·have hc:cz n.Kinds ji=some (n.Kinds.any fun k=> !(((k==(1:Int))||(k==(2:Int)))||(k==(3:Int)))):=jJ (fun v=>rfl) _
   rw [hc]at g1
   simp only [ba,yQ]at g1
   injection g1 with g1
   injection g1 with _ g1
   rw [CW,I3]at g1
   unfold yJ
   rw [jx]
   intro z hz
   have:=g1 z hz
   simp at this
   simp;omega
  ·simp at g1
 ·rw [aM (by simp [c]),aX (by simp [c])]at h
  cases h1:app ([]:List Int) a with
  |none=>rw [h1]at h;cases h
  |some l1=>
   rw [h1]at h
   simp only [ba]at h
   cases h2:app l1 b with
   |none=>rw [h2]at h;cases h
   |some l2=>
    rw [h2]at h
    simp only [ba,lI]at h
    injection h with h
    injection h with h _
    rw [←h,p5 h2,p5 h1]
    exact yh (yh rfl ha) hb
 ·rw [aM (by simp [c]),aM (by simp [c]),aX (by simp [c])]at h
  simp only [ba,lI]at h
  injection h with h
  injection h with h _
  rw [←h];exact ha
 ·rw [aM (by simp [c]),aM (by simp [c]),aM (by simp [c]),aX (by simp [c])]at h
  exact XH n a ha _ _ _ _ _ rfl h
 ·rw [aM (by simp [c]),aM (by simp [c]),aM (by simp [c]),aM (by simp [c]),aX (by simp [c])]at h
  exact XF n a _ _ _ _ _ _ rfl h
 ·rw [aM (by simp [c]),aM (by simp [c]),aM (by simp [c]),aM (by simp [c]),aM (by simp [c]),aX (by simp [c])]at h
  injection h with h
  injection h with h _
  rw [←h];exact ha
 ·rw [aM (by simp [c]),aM (by simp [c]),aM (by simp [c]),aM (by simp [c]),aM (by simp [c]),aM (by simp [c]),aX (by simp [c])]at h
  split at h
  ·injection h with h;injection h with _ h;cases h
  ·exact(Zs b a 0 [] true k true ha hb rfl h).1
 ·rw [aM (by simp [c]),aM (by simp [c]),aM (by simp [c]),aM (by simp [c]),aM (by simp [c]),aM (by simp [c]),aM (by simp [c])]at h
  rw [Zr n a _ _ _ _ _ h];exact ha
section
variable{d:bE}{sz' :Nat→Nat}{ks ks' :Nat→List Int}
theorem q8(F:zY l sz ks j n):(n.A= -1∨0≤n.A∧n.A<(j:Int))∧(n.B= -1∨0≤n.B∧n.B<(j:Int)):=by
 by_cases c1:n.Op=1
 ·obtain⟨a,b,_⟩:=F.lf c1
  exact⟨.inl a,.inl b⟩
 by_cases c27:n.Op=2∨n.Op=7
 ·obtain⟨a,b,c,d,e⟩:=F.bi c27
  exact⟨.inr (by omega),.inr (by omega)⟩
 ·obtain⟨a,b,c,d⟩:=F.un c1 (fun h=>c27 (.inl h)) (fun h=>c27 (.inr h))
  exact⟨.inr (by omega),.inl c⟩
theorem VO(hS:mP l)(H:FG l sz ks): ∀j,j<l.Nodes.length→yJ (ks j)=true:=by
 intro j
 induction j using Nat.strongRecOn with
 |ind j ih=>
  intro hj
  obtain⟨n,F⟩:=H j hj
  have hn:iW n:=hS n (by have:=F.node;rw [bW]at this;exact qU this)
  obtain⟨hA,hB⟩:=q8 F
  refine PB hn F.op ?_ ?_ F.kinds
  ·split
   ·rfl
   ·exact ih _ (by omega) (by omega)
  ·split
   ·rfl
   ·exact ih _ (by omega) (by omega)
theorem Th{e:Nat}(h:0≤x)(h2:x≤10000)(h3:e≤10000):D5 (e:Int) x=x+e:=by
 unfold D5
 rw [aX h,cv (by omega) (by omega)]
theorem YU{e m:Nat}(H:FG l sz ks)(H' :FG d sz' ks')(hm:m≤l.Nodes.length)(hl:l.Nodes.length≤200)(he:e≤200)(hd:e+m≤d.Nodes.length)(hn: ∀j,j<m→ ∀n,cR l.Nodes (j:Int)=some n→cR d.Nodes ((e+j:Nat):Int)=some (D4 (e:Int) n)): ∀j,j<m→sz' (e+j)=sz j∧ks' (e+j)=ks j:=by
 intro j
 induction j using Nat.strongRecOn with
 |ind j ih=>
  intro hj
  obtain⟨n,F⟩:=H j (by omega)
  obtain⟨n',F'⟩:=H' (e+j) (by omega)
  have hnn:n' =D4 (e:Int) n:=by
   have h1:=hn j hj n F.node
   rw [F'.node]at h1
   injection h1
  subst hnn
  obtain⟨hA,hB⟩:=q8 F
  constructor
  ·by_cases c1:n.Op=1
   ·rw [(F'.lf c1).2.2,(F.lf c1).2.2]
   by_cases c27:n.Op=2∨n.Op=7
   ·obtain⟨a,b,c,g,q⟩:=F.bi c27
    obtain⟨a',b',c',g',q'⟩:=F'.bi c27
    have ej:e+j-1=e+(j-1):=by omega
    rw [ej,(ih (j-1) (by omega) (by omega)).1,show e+(j-1)-sz (j-1)=e+(j-1-sz (j-1))from by omega,(ih (j-1-sz (j-1)) (by omega) (by omega)).1]at q'
    rw [q',q]
   ·obtain⟨a,b,c,g⟩:=F.un c1 (fun h=>c27 (.inl h)) (fun h=>c27 (.inr h))
    obtain⟨a',b',c',g'⟩:=F'.un c1 (fun h=>c27 (.inl h)) (fun h=>c27 (.inr h))
    rw [show e+j-1=e+(j-1)from by omega,(ih (j-1) (by omega) (by omega)).1]at g'
    rw [g',g]
  ·have key: ∀x:Int,(x= -1∨0≤x∧x<(j:Int))→(if D5 (e:Int) x<0 then([]:List Int)else ks' (D5 (e:Int) x).toNat)=if x<0 then []else ks x.toNat:=by
    intro x hx
    rcases hx with hx|hx
    ·rw [Av hx,aX (by decide),aX (by omega)]
    ·rw [Th (by omega) (by omega) (by omega),aM (by omega),aM (by omega),show(x+(e:Int)).toNat=e+x.toNat from by omega,(ih x.toNat (by omega) (by omega)).2]
   have h1:=F'.kinds
   have hA' :(D4 (e:Int) n).A=D5 (e:Int) n.A:=rfl
   have hB' :(D4 (e:Int) n).B=D5 (e:Int) n.B:=rfl
   rw [Ks,hA',hB',key n.A hA,key n.B hB,F.kinds]at h1
   injection h1 with h1
   injection h1 with h1 _
   exact h1.symm
end
structure Hk(l:bE)(sz:Nat→Nat)(ks:Nat→List Int):Prop where
 pos:1≤l.Nodes.length
 le:l.Nodes.length≤60
 all:FG l sz ks
 whole:sz (l.Nodes.length-1)=l.Nodes.length
 kinds:ra l=some (ks (l.Nodes.length-1),0)
theorem AN(hS:mP l)(h:lg l=true): ∃sz ks,Hk l sz ks:=by
 obtain⟨_,_,ob,j,r3,r4⟩:=sR hS
 obtain⟨hL,hj⟩:=r4 h
 have hle:=hL.le
 have hpos:=hL.pos
 obtain⟨N0,_⟩:=hL.inv.at (j:=l.Nodes.length-1) (by omega)
 refine⟨wE ob.first,Mw ob.kinds,hpos,hle,fun j hj=>KJ hL.inv hle hj,?_,?_⟩
 ·have e1:=N0.size im (vd (by omega))
  have e2:=hL.whole
  unfold kg at e2
  rw [show(l.Nodes.length:Int)-1=((l.Nodes.length-1:Nat):Int)from by omega,e1]at e2
  injection e2 with e2
  omega
 ·unfold ra
  rw [r3,h]
  simp only [ba,mi,fZ,d9]
  have hk:cR ob.kinds j=some (Mw ob.kinds (l.Nodes.length-1)):=by
   rw [hj,show(l.Nodes.length:Int)-1=((l.Nodes.length-1:Nat):Int)from by omega,bW]
   unfold Mw
   rw [ox (by rw [hL.inv.kl];omega)];rfl
  rw [hk]
  simp only [ba]
  rw [se _ (by have:=N0.len;omega)]
  rfl
theorem Kq{sz' :Nat→Nat}{ks ks' :Nat→List Int}(hS:mP l)(K:Hk l sz ks)(H:FG l sz' ks'):ks' (l.Nodes.length-1)=ks (l.Nodes.length-1)∧sz' (l.Nodes.length-1)=l.Nodes.length:=by
 have hle:=K.le
 have hpos:=K.pos
 have:=YU (l:=l) (d:=l) (e:=0) (m:=l.Nodes.length) K.all H (dn _) (by omega) (by omega) (by omega) (fun j hj n hn=>by
  obtain⟨n',F⟩:=K.all j hj
  have e:n' =n:=by have:=F.node;rw [hn]at this;injection this with this;exact this.symm
  subst e
  obtain⟨hA,hB⟩:=q8 F
  rw [uo,hn]
  have hz:=JA (n:=n') (by omega) (by omega)
  rw [show((0:Nat):Int)=0 from rfl,hz]) (l.Nodes.length-1) (by omega)
 simp only [uo]at this
 exact⟨this.2,by rw [this.1];exact K.whole⟩

def atN(x y:Int)(n:ak):ak:={n with A:=x,B:=y}
def d1(n:ak)(a:bE):bE:=⟨a.Nodes++[atN ((a.Nodes.length:Int)-1) (-1) n]⟩
def d2(n:ak)(a b:bE):bE:=⟨(a.Nodes++b.Nodes.map (D4 (a.Nodes.length:Int)))++[atN ((a.Nodes.length:Int)-1) ((a.Nodes.length:Int)+(b.Nodes.length:Int)-1) n]⟩
theorem Pz{a:bE}{ks:Nat→List Int}(K:Hk a sz ks)(F:zY a sz ks j n)(hj:j<a.Nodes.length):D4 ((0:Nat):Int) n=n:=by
 obtain⟨hA,hB⟩:=q8 F
 have hle:=K.le
 exact JA (by omega) (by omega)
theorem QS(hS:mP l)(h:lg l=true):l.Nodes.length≤60:=by
 obtain⟨sz,ks,K⟩:=AN hS h
 exact K.le

theorem HH(hS:mP l)(h:lg l=true):sa l=some (qe (sortI (Jt l.Nodes))):=by
 obtain⟨_,⟨j,r2⟩,ob,j',r3,r4⟩:=sR hS
 have hle:=QS hS h
 unfold sa
 rw [r2,h]
 simp only [eK,ba]
 rw [aM (by decide),wb l.Nodes [] (by simp;omega),kz]

theorem xN(h:i≤100000):IntKind.i64.wrap ((i:Int)+1)=((i+1:Nat):Int):=by rw [tL (by omega) (by omega)];omega
theorem NY(n:ak): ∀(fu:Nat) (ok:Bool) (i:Int) (k:List Int),dA n fu ok i=some (k,true)→ok=true∧0≤n.Table∧n.Table≤3∧k=n.Kinds
 |0,_,_,_,h=>by unfold dA at h;cases h
 |fu+1,ok,i,k,h=>by
  unfold dA at h
  split at h
  ·cases ok with
   |false=>
    simp only [fZ,d9,ba]at h
    exact absurd (NY n fu false _ k h).1 (by simp)
   |true=>
    simp only [eK]at h
    cases hx:cR n.Kinds i with
    |none=>rw [hx]at h;cases h
    |some e=>
     rw [hx]at h
     simp only [ba]at h
     split at h
     ·exact⟨rfl,(NY n fu _ _ k h).2⟩
     ·exact⟨rfl,(NY n fu _ _ k h).2⟩
  ·injection h with h
   injection h with h h2
   simp only [lX,kI]at h2
   exact⟨h2.1.1.1.1,h2.1.1.1.2,h2.1.1.2,h.symm⟩
theorem Wa(n:ak)(a:List Int)(hs:n.Aggs.length≤5000): ∀(l:List gM) (fu:Nat) (out:List Int) (ok:Bool) (i:Nat) (k:List Int),n.Aggs.drop i=l→dO n a fu out ok (i:Int)=some (k,true)→ok=true∧(∀g∈l,(Bi g a).2=true)∧k=out++(l.map fun g=>(Bi g a).1)∧n.Keys.length≤3
 |_,0,_,_,_,_,_,h=>by unfold dO at h;cases h
 |[],fu+1,out,ok,i,k,hd,h=>by
  unfold dO at h
  have:=tg hd
  rw [aM (by rw [kI];omega)]at h
  injection h with h
  injection h with h h2
  simp only [lX,kI]at h2
  exact⟨h2.1.1.1,by simp,by simp [h],by have:=h2.1.1.2;omega⟩
 |g::t,fu+1,out,ok,i,k,hd,h=>by
  obtain⟨h1,h2,h3⟩:=kw hd
  unfold dO at h
  rw [aX (by rw [kI];omega),h1,ba,o5,ba,xN (by omega)]at h
  cases ha:app out [(Bi g a).1]with
  |none=>rw [ha]at h;cases h
  |some z=>
   rw [ha,ba]at h
   obtain⟨p1,p2,p3,p4⟩:=Wa n a hs t fu z _ (i+1) k h3 h
   rw [lX]at p1
   refine⟨p1.1,?_,?_,p4⟩
   ·intro y hy
    rcases fh.1 hy with q|q
    ·rw [q];exact p1.2
    ·exact p2 y q
   ·rw [p3,p5 ha];simp
def ES(a:List Int)(c:Int):Int:=(a[c.toNat]?).getD 0
theorem Rt{a:List Int}{c:Int}(h:0≤c)(h2:c<(a.length:Int)):cR a c=some (ES a c):=by
 obtain⟨k,hk⟩:=DH h
 subst hk
 have hk:k<a.length:=by omega
 unfold ES
 rw [gJ k rfl]
 simp [hk]
theorem V9(n:ak)(a:List Int)(hs:n.Keys.length≤5000)(hs2:n.Aggs.length≤5000): ∀(l:List Int) (fu:Nat) (out:List Int) (i:Nat) (k:List Int),n.Keys.drop i=l→dP n a fu out (i:Int)=some (k,true)→(∀c∈l,0≤c∧c<(a.length:Int))∧(∀g∈n.Aggs,(Bi g a).2=true)∧k=(out++l.map (ES a))++(n.Aggs.map fun g=>(Bi g a).1)∧n.Keys.length≤3
 |_,0,_,_,_,_,h=>by unfold dP at h;cases h
 |[],fu+1,out,i,k,hd,h=>by
  unfold dP at h
  have:=tg hd
  rw [aM (by rw [kI];omega)]at h
  obtain⟨_,p2,p3,p4⟩:=Wa n a hs2 n.Aggs im out true 0 k (by simp) h
  exact⟨by simp,p2,by simpa using p3,p4⟩
 |c::t,fu+1,out,i,k,hd,h=>by
  obtain⟨h1,h2,h3⟩:=kw hd
  unfold dP at h
  rw [aX (by rw [kI];omega),h1,ba,xN (by omega)]at h
  by_cases hc:0≤c∧c<(a.length:Int)
  ·rw [aM (by simp only [p9,kI];omega),Rt hc.1 hc.2,ba]at h
   cases ha:app out [ES a c]with
   |none=>rw [ha]at h;cases h
   |some z=>
    rw [ha,ba]at h
    obtain⟨p1,p2,p3,p4⟩:=V9 n a hs hs2 t fu z (i+1) k h3 h
    refine⟨?_,p2,?_,p4⟩
    ·intro y hy
     rcases fh.1 hy with q|q
     ·rw [q];exact hc
     ·exact p1 y q
    ·rw [p3,p5 ha];simp
  ·rw [aX (by simp only [p9,kI];omega)]at h
   injection h with h
   injection h with h h2
   cases h2
theorem V8(n:ak)(a:List Int)(hs:n.Items.length≤5000): ∀(l:List bK) (fu:Nat) (out:List Int) (ok:Bool) (i:Nat) (k:List Int),n.Items.drop i=l→dN n a fu out ok (i:Int)=some (k,true)→ok=true∧(∀e∈l,(fC e a).2=0)∧k=out++l.map fun e=>(fC e a).1
 |_,0,_,_,_,_,_,h=>by unfold dN at h;cases h
 |[],fu+1,out,ok,i,k,hd,h=>by
  unfold dN at h
  have:=tg hd
  rw [aM (by rw [kI];omega)]at h
  injection h with h
  injection h with h h2
  simp only [lX,kI]at h2
  exact⟨h2.1.1,by simp,by simp [h]⟩
 |g::t,fu+1,out,ok,i,k,hd,h=>by
  obtain⟨h1,h2,h3⟩:=kw hd
  unfold dN at h
  rw [aX (by rw [kI];omega),h1,ba,lh,ba,xN (by omega)]at h
  cases ha:app out [(fC g a).1]with
  |none=>rw [ha]at h;cases h
  |some z=>
   rw [ha,ba]at h
   obtain⟨p1,p2,p3⟩:=V8 n a hs t fu z _ (i+1) k h3 h
   simp only [lX,sx]at p1
   refine⟨p1.1,?_,?_⟩
   ·intro y hy
    rcases fh.1 hy with q|q
    ·rw [q];exact p1.2
    ·exact p2 y q
   ·rw [p3,p5 ha];simp
theorem NW(n:ak)(a:List Int)(hs:n.Order.length≤5000): ∀(l:List gE) (fu:Nat) (ok:Bool) (i:Nat) (k:List Int),n.Order.drop i=l→dg n a fu ok (i:Int)=some (k,true)→ok=true∧k=a∧ ∀o∈l,0≤o.Col∧o.Col<(a.length:Int)
 |_,0,_,_,_,_,h=>by unfold dg at h;cases h
 |[],fu+1,ok,i,k,hd,h=>by
  unfold dg at h
  have:=tg hd
  rw [aM (by rw [kI];omega)]at h
  injection h with h
  injection h with h h2
  simp only [lX,kI]at h2
  exact⟨h2.1.1.1,h.symm,by simp⟩
 |o::t,fu+1,ok,i,k,hd,h=>by
  obtain⟨h1,h2,h3⟩:=kw hd
  unfold dg at h
  rw [aX (by rw [kI];omega),h1,xN (by omega)]at h
  cases ok with
  |false=>
   simp only [fZ,d9,ba]at h
   exact absurd (NW n a hs t fu false (i+1) k h3 h).1 (by simp)
  |true=>
   simp only [eK,ba]at h
   by_cases hc:0≤o.Col
   ·rw [aX (by simpa using hc),ba]at h
    obtain⟨p1,p2,p3⟩:=NW n a hs t fu _ (i+1) k h3 h
    refine⟨rfl,p2,?_⟩
    intro y hy
    rcases fh.1 hy with q|q
    ·rw [q];exact⟨hc,by simpa using p1⟩
    ·exact p3 y q
   ·rw [aM (by simpa using hc),ba]at h
    exact absurd (NW n a hs t fu false (i+1) k h3 h).1 (by simp)
def N9(x y k:Int):Prop:=(x=k∨x=0)∧(y=k∨y=0)
theorem NX(b:List Int)(hb:b.length≤5000): ∀(l:List Int) (i:Nat) (out:List Int) (ok:Bool) (k:List Int),l.length+i=b.length→dy b l i out ok=some (k,true)→ok=true∧ ∃t:List Int,k=out++t∧t.length=l.length∧ ∀(j:Nat) (x y z:Int),l[j]? =some x→b[i+j]? =some y→t[j]? =some z→N9 x y z
 |[],i,out,ok,k,_,h=>by
  unfold dy at h
  injection h with h
  injection h with h h2
  exact⟨h2,[],by simp [h],rfl,by simp⟩
 |x::l,i,out,ok,k,hl,h=>by
  rw [gX]at hl
  have hib:i<b.length:=by omega
  have hi:cR b (i:Int)=some b[i]:=by rw [gJ i rfl,ox hib]
  have key: ∀k0:Int,ic b (dy b l) i out ok k0=some (k,true)→ok=true∧(b[i]=k0∨b[i]=0)∧ ∃t:List Int,k=out++k0::t∧t.length=l.length∧ ∀(j:Nat) (x y z:Int),l[j]? =some x→b[i+1+j]? =some y→t[j]? =some z→N9 x y z:=by
   intro k0 h
   unfold ic at h
   cases ha:app out [k0]with
   |none=>rw [ha]at h;cases h
   |some z=>
    rw [ha,ba,hi]at h
    cases ok with
    |false=>
     simp only [fZ,d9,ba]at h
     exact absurd (NX b hb l (i+1) z false k (by omega) h).1 (by simp)
    |true=>
     simp only [eK,ba]at h
     by_cases he:b[i]=k0
     ·rw [aM (by simp [he]),ba,ba]at h
      obtain⟨_,t,p1,p2,p3⟩:=NX b hb l (i+1) z _ k (by omega) h
      exact⟨rfl,.inl he,t,by rw [p1,p5 ha];simp,p2,p3⟩
     ·rw [aX (by simp [he]),ba,ba]at h
      obtain⟨p0,t,p1,p2,p3⟩:=NX b hb l (i+1) z _ k (by omega) h
      exact⟨rfl,.inr (by simpa using p0),t,by rw [p1,p5 ha];simp,p2,p3⟩
  have fin: ∀k0:Int,(x=k0∨x=0)→ic b (dy b l) i out ok k0=some (k,true)→ok=true∧ ∃t:List Int,k=out++t∧t.length=(x::l).length∧ ∀(j:Nat) (x1 y z:Int),(x::l)[j]? =some x1→b[i+j]? =some y→t[j]? =some z→N9 x1 y z:=by
   intro k0 hx h
   obtain⟨p0,p1,t,p2,p3,p4⟩:=key k0 h
   refine⟨p0,k0::t,p2,by simp [p3],?_⟩
   intro j x1 y z h1 h2 h3
   cases j with
   |zero=>
    simp only [FL,yS]at h1 h3
    rw [wG,ox hib,yS]at h2
    subst h1;subst h3;subst h2
    exact⟨hx,p1⟩
   |succ j=>
    rw [I9]at h1 h3
    exact p4 j x1 y z h1 (by rw [←h2];congr 1;omega) h3
  unfold dy at h
  by_cases hx:x=0
  ·rw [aX (by simpa using hx),hi,ba]at h
   exact fin _ (.inr hx) h
  ·rw [aM (by simpa using hx)]at h
   exact fin _ (.inl rfl) h
theorem Ie{a b:List Int}(hop:n.Op=1)(h:bq n a b=some (k,true)):k=n.Kinds∧0≤n.Table∧n.Table≤3:=by
 unfold bq at h
 rw [aX (by simpa using hop)]at h
 obtain⟨_,h1,h2,h3⟩:=NY n _ _ _ _ h
 exact⟨h3,h1,h2⟩
theorem NV{a b:List Int}(hop:n.Op=2)(h:bq n a b=some (k,true)):k=a++b∧HD n.Cond (a++b)=true:=by
 unfold bq at h
 rw [aM (by rw [hop];decide),aX (by simpa using hop)]at h
 cases h1:app ([]:List Int) a with
 |none=>rw [h1]at h;cases h
 |some l=>
  rw [h1,ba]at h
  cases h2:app l b with
  |none=>rw [h2]at h;cases h
  |some o=>
   have e1:=p5 h1
   have e2:=p5 h2
   rw [h2,ba,lI,ba]at h
   injection h with h
   injection h with h h3
   subst h
   rw [e1,kz]at e2
   rw [e2]at h3 ⊢
   exact⟨rfl,h3⟩
theorem GK{a b:List Int}(hop:n.Op=3)(h:bq n a b=some (k,true)):k=a∧HD n.Cond a=true:=by
 unfold bq at h
 rw [aM (by rw [hop];decide),aM (by rw [hop];decide),aX (by simpa using hop),lI,ba]at h
 injection h with h
 injection h with h h3
 exact⟨h.symm,h3⟩
theorem Kl{a b:List Int}(hs:iW n)(hop:n.Op=4)(h:bq n a b=some (k,true)):(∀c∈n.Keys,0≤c∧c<(a.length:Int))∧(∀g∈n.Aggs,(Bi g a).2=true)∧k=n.Keys.map (ES a)++(n.Aggs.map fun g=>(Bi g a).1)∧n.Keys.length≤3:=by
 unfold bq at h
 rw [aM (by rw [hop];decide),aM (by rw [hop];decide),aM (by rw [hop];decide),aX (by simpa using hop)]at h
 have:=V9 n a hs.keys hs.aggs n.Keys im [] 0 k (by simp) h
 simpa using this
theorem EJ{a b:List Int}(hs:iW n)(hop:n.Op=5)(h:bq n a b=some (k,true)):(∀e∈n.Items,(fC e a).2=0)∧k=n.Items.map fun e=>(fC e a).1:=by
 unfold bq at h
 rw [aM (by rw [hop];decide),aM (by rw [hop];decide),aM (by rw [hop];decide),aM (by rw [hop];decide),aX (by simpa using hop)]at h
 have:=V8 n a hs.items n.Items im [] true 0 k (by simp) h
 simpa using this.2
theorem Km{a b:List Int}(hop:n.Op=6)(h:bq n a b=some (k,true)):k=a:=by
 unfold bq at h
 rw [aM (by rw [hop];decide),aM (by rw [hop];decide),aM (by rw [hop];decide),aM (by rw [hop];decide),aM (by rw [hop];decide),aX (by simpa using hop)]at h
 injection h with h
 injection h with h _
 exact h.symm
theorem Rc{a b:List Int}(hal:a.length≤5000)(hop:n.Op=7)(h:bq n a b=some (k,true)):a.length=b.length∧k.length=a.length∧ ∀(j:Nat) (x y z:Int),a[j]? =some x→b[j]? =some y→k[j]? =some z→N9 x y z:=by
 unfold bq at h
 rw [aM (by rw [hop];decide),aM (by rw [hop];decide),aM (by rw [hop];decide),aM (by rw [hop];decide),aM (by rw [hop];decide),aM (by rw [hop];decide),aX (by simpa using hop)]at h
 by_cases he:a.length=b.length
 ·rw [aM (by simp [he])]at h
  obtain⟨_,t,p1,p2,p3⟩:=NX b (by omega) a 0 [] true k (by omega) h
  rw [kz]at p1
  subst p1
  refine⟨he,p2,fun j x y z h1 h2 h3=>p3 j x y z h1 (by rw [uo];exact h2) h3⟩
 ·rw [aX (by simp only [qT,pE];omega)]at h
  injection h with h
  injection h with h h2
  cases h2
theorem NU{a b:List Int}(hs:iW n)(hop:n.Op=8)(h:bq n a b=some (k,true)):k=a∧ ∀o∈n.Order,0≤o.Col∧o.Col<(a.length:Int):=by
 unfold bq at h
 rw [aM (by rw [hop];decide),aM (by rw [hop];decide),aM (by rw [hop];decide),aM (by rw [hop];decide),aM (by rw [hop];decide),aM (by rw [hop];decide),aM (by rw [hop];decide)]at h
 have:=NW n a hs.order n.Order im true 0 k (by simp) h
 exact this.2

theorem At{f:α→α→Int}(h:Cg f){p:List α}(hp:p.Pairwise fun a b=>f a b<0):p.Nodup:=by
 unfold List.Nodup
 refine hp.imp ?_
 intro a b hab he
 subst he
 have:=h.self a
 omega
theorem FP [DecidableEq α]{f:α→α→Int}(h:Cg f){p q:List α}(hp:p.Pairwise fun a b=>f a b<0)(hq:q.Pairwise fun a b=>f a b<0)(hm: ∀z,z∈p↔z∈q):p=q:=by
 have hpq:p.Perm q:=(List.perm_ext_iff_of_nodup (At h hp) (At h hq)).2 hm
 exact ut h (hp.imp fun h=>by omega) (hq.imp fun h=>by omega) hpq
theorem Ef{α κ:Type} [DecidableEq κ](key:α→κ)(kf:List α→κ): ∀(R:List (List α)),(∀y∈R,∀z∈y,key z=kf y)→R.Pairwise (fun a b=>kf a≠kf b)→ ∀y∈R,R.flatten.filter (fun z=>decide (key z=kf y))=y
 |[],_,_,y,hy=>by cases hy
 |x::t,h1,h2,y,hy=>by
  rw [Bt]at h2
  rw [List.flatten_cons,List.filter_append]
  have ht: ∀w∈t,∀z∈w,key z=kf w:=fun w hw=>h1 w (ky _ hw)
  rcases fh.1 hy with q|q
  ·subst q
   have e1:y.filter (fun z=>decide (key z=kf y))=y:=by
    rw [List.filter_eq_self]
    intro z hz
    rw [kI]
    exact h1 y (kE ..) z hz
   have e2:t.flatten.filter (fun z=>decide (key z=kf y))=[]:=by
    rw [List.filter_eq_nil_iff]
    intro z hz
    obtain⟨w,hw,hz⟩:=List.mem_flatten.1 hz
    rw [kI,ht w hw z hz]
    exact fun e=>h2.1 w hw e.symm
   rw [e1,e2,sy]
  ·have e1:x.filter (fun z=>decide (key z=kf y))=[]:=by
    rw [List.filter_eq_nil_iff]
    intro z hz
    rw [kI,h1 x (kE ..) z hz]
    exact h2.1 y q
   rw [e1,kz]
   exact Ef key kf t ht h2.2 y q
def t8(c:List Int)(l:List cA):List g9:=(qe (wA (l.map (gr c)))).map fun k=>⟨k,wA (l.filter fun r=>decide (gr c r=k))⟩
theorem JE(c:List Int){l:List cA}(hl:l.length≤8000):(uR (Gb c) l.length (rC (xv c) l)).map (GU c)=t8 c l:=by
 have hC:=KE c
 have hL:=sL hC l (by omega)
 have hP:=lD (xv c) l
 generalize hLe:rC (xv c) l=L at hL hP
 have hlen:L.length=l.length:=hP.length_eq
 have hflat:=GC (Gb c) l.length L (by omega)
 have hkeys:=GB c l.length L hL
 have hmem:=Eb (Gb c) l.length L
 generalize uR (Gb c) l.length L=R at hflat hkeys hmem
 have hkey: ∀y∈R,∀z∈y,gr c z=(GU c y).Key:=by
  intro y hy z hz
  obtain⟨x,t,e,_,h2⟩:=hmem y hy
  subst e
  show gr c z=gr c x
  rcases fh.1 hz with q|q
  ·rw [q]
  ·have:=(h2 z q).2
   unfold Gb at this
   exact(I6 this).symm
 have hpw:R.Pairwise fun a b=>(GU c a).Key≠(GU c b).Key:=by
  rw [List.pairwise_map]at hkeys
  refine hkeys.imp ?_
  intro a b hab he
  rw [he,ik.self]at hab
  omega
 have hfil:=Ef (gr c) (fun y=>(GU c y).Key) R hkey hpw
 rw [hflat]at hfil
 have hrows: ∀g∈R.map (GU c),g=⟨g.Key,wA (l.filter fun r=>decide (gr c r=g.Key))⟩:=by
  intro g hg
  obtain⟨y,hy,e⟩:=tK.1 hg
  subst e
  have hf:=hfil y hy
  have e:y=wA (l.filter fun r=>decide (gr c r=(GU c y).Key)):=by
   refine ut ik ?_ (sL ik _ (by have:=List.length_filter_le (fun r=>decide (gr c r=(GU c y).Key)) l;omega)) ?_
   ·have hs:sd (xv c) y:=by
     have:sd (xv c) (L.filter fun z=>decide (gr c z=(GU c y).Key)):=List.Pairwise.filter _ hL
     rw [hf]at this
     exact this
    refine List.Pairwise.imp_of_mem ?_ hs
    intro a b ha hb hab
    unfold xv at hab
    rw [hkey y hy a ha,hkey y hy b hb,ik.self]at hab
    exact hab
   ·have hp:=(hP.filter fun z=>decide (gr c z=(GU c y).Key))
    rw [hf]at hp
    exact hp.trans (lD eE _).symm
  have hR:GU c y=⟨(GU c y).Key,y⟩:=rfl
  rw [hR]
  simp only []
  rw [←e]
 have hk:(R.map (GU c)).map (fun g=>g.Key)=qe (wA (l.map (gr c))):=by
  refine FP ik ?_ (IJ ik (sL ik _ (by simp;omega))) ?_
  ·rw [List.pairwise_map];exact hkeys
  ·intro z
   rw [u8,(lD eE _).mem_iff,List.map_map,tK,tK]
   constructor
   ·rintro⟨y,hy,e⟩
    obtain⟨x,t,e2,hx,_⟩:=hmem y hy
    exact⟨x,hP.mem_iff.1 hx,by rw [←e,e2];rfl⟩
   ·rintro⟨x,hx,e⟩
    have hx:=hP.mem_iff.2 hx
    rw [←hflat]at hx
    obtain⟨y,hy,hxy⟩:=List.mem_flatten.1 hx
    exact⟨y,hy,by rw [←e];exact(hkey y hy x hxy).symm⟩
 unfold t8
 rw [←hk,List.map_map]
 conv=>lhs;rw [←List.map_id (R.map (GU c))]
 exact I5 fun g hg=>hrows g hg
theorem FT{l:List cA}(h:Hc l){c:List Int}(hr:vk l=true)(hc:AK l c=true):sP l c=some (t8 c l,0):=by
 have ha:vY l c=0:=by unfold vY;rw [hr,hc];rfl
 rw [FU h,aX ha,JE c h.len]

def RK:List Int→cA→Prop
 |[],[]=>True
 |k::ks,v::vs=>Pl v∧qt v k∧RK ks vs
 |[],_::_=>False
 |_::_,[]=>False
theorem RK.len: ∀{ks:List Int} {r:cA},RK ks r→r.length=ks.length
 |[],[],_=>rfl
 |k::ks,v::vs,h=>by rw [gX,gX,h.2.2.len]
 |[],_::_,h=>h.elim
 |_::_,[],h=>h.elim
theorem RK.pl: ∀{ks:List Int} {r:cA},RK ks r→ ∀v∈r,Pl v
 |[],[],_,v,hv=>by cases hv
 |k::ks,w::vs,h,v,hv=>by
  rcases fh.1 hv with q|q
  ·rw [q];exact h.1
  ·exact h.2.2.pl v q
 |[],_::_,h,_,_=>h.elim
 |_::_,[],h,_,_=>h.elim
theorem RK.kindR: ∀{ks:List Int} {r:cA},RK ks r→kindR ks r
 |[],[],_=>fun j k h=>by simp at h
 |k::ks,v::vs,h=>fun j x hx=>by
  cases j with
  |zero=>
   simp only [FL,yS]at hx
   subst hx
   exact⟨v,rfl,h.1,h.2.1⟩
  |succ j=>
   rw [I9]at hx
   exact h.2.2.kindR j x hx
 |[],_::_,h=>h.elim
 |_::_,[],h=>h.elim
theorem RK.rg(h:RK ks r):Tp r:=fun v hv=>(h.pl v hv).r64
theorem RK.right(h:RK ks r)(hk:ks.length≤16):ke r=true:=by
 unfold ke
 rw [lX,kI,jx]
 exact⟨by rw [h.len];exact hk,fun v hv=>(h.pl v hv).right⟩
theorem RK.app: ∀{a b:List Int} {x y:cA},RK a x→RK b y→RK (a++b) (x++y)
 |[],_,[],_,_,h=>h
 |k::ks,b,v::vs,y,h,h2=>⟨h.1,h.2.1,h.2.2.app h2⟩
 |[],_,_::_,_,h,_=>h.elim
 |_::_,_,[],_,h,_=>h.elim
theorem Le: ∀(ks:List Int),RK ks (List.replicate ks.length zV)
 |[]=>trivial
 |k::ks=>⟨.z,.inr rfl,Le ks⟩
theorem RK.map(f:α→ac)(g:α→Int): ∀(l:List α),(∀e∈l,Pl (f e)∧qt (f e) (g e))→RK (l.map g) (l.map f)
 |[],_=>trivial
 |e::t,h=>⟨(h e (kE ..)).1,(h e (kE ..)).2,RK.map f g t fun x hx=>h x (ky _ hx)⟩
theorem RK.at: ∀{ks:List Int} {r:cA},RK ks r→ ∀(j:Nat),j<ks.length→Pl ((r[j]?).getD zV)∧qt ((r[j]?).getD zV) ((ks[j]?).getD 0)
 |[],[],_,j,h=>by simp at h
 |k::ks,v::vs,h,j,hj=>by
  cases j with
  |zero=>exact⟨h.1,h.2.1⟩
  |succ j=>simpa using h.2.2.at j (by simpa using hj)
 |[],_::_,h,_,_=>h.elim
 |_::_,[],h,_,_=>h.elim
theorem RK.as: ∀{a k:List Int} {r:cA},RK a r→k.length=a.length→(∀(j:Nat) (x z:Int),a[j]? =some x→k[j]? =some z→x=z∨x=0)→RK k r
 |[],[],[],_,_,_=>trivial
 |x::a,z::k,v::vs,h,hl,hk=>by
  refine⟨h.1,?_,h.2.2.as (by simpa using hl) fun j x z h1 h2=>hk (j+1) x z (by simpa using h1) (by simpa using h2)⟩
  have:=hk 0 x z rfl rfl
  have h2:=h.2.1
  unfold qt at h2 ⊢
  omega
 |[],_::_,_,_,hl,_=>by simp at hl
 |_::_,[],_,_,hl,_=>by simp at hl
 |[],[],_::_,h,_,_=>h.elim
 |_::_,_::_,[],h,_,_=>h.elim
def rm(ks:List Int)(l:List cA):Prop:= ∀r∈l,RK ks r
theorem rm.perm{a b:List cA}(h:rm ks a)(hp:a.Perm b):rm ks b:=fun r hr=>h r (hp.mem_iff.2 hr)
theorem rm.allr{l:List cA}(h:rm ks l)(hk:ks.length≤16):vk l=true:=by
 unfold vk
 rw [jx]
 exact fun r hr=>(h r hr).right hk
theorem rm.small{l:List cA}(h:rm ks l)(hk:ks.length≤16)(hl:l.length≤8000):Hc l:=⟨hl,fun r hr=>by rw [(h r hr).len];omega⟩
theorem rm.rg{l:List cA}(h:rm ks l):El l:=fun r hr=>(h r hr).rg
structure Qh(e:bK):Prop where
 len:e.Nodes.length≤200
 rg:JI e.Nodes
def Wl(e:bK)(r:cA):ac:=(oB r e.Nodes).1
def yL(e:bK)(r:cA):Bool:=(oB r e.Nodes).2==140
theorem Vv(he:Qh e)(hk:(fC e ks).2=0)(hr:RK ks r):((oB r e.Nodes).2=0∧yL e r=false∧Pl (Wl e r)∧qt (Wl e r) (fC e ks).1)∨(oB r e.Nodes=(zV,140)∧yL e r=true∧Wl e r=zV∧e.Nodes.any YG=true):=by
 rcases PA e.Nodes he.len he.rg ks hk r hr.kindR hr.rg hr.len with h|h
 ·exact .inl ⟨h.1,by unfold yL;rw [h.1];rfl,h.2.1,h.2.2⟩
 ·have:oB r e.Nodes=(zV,140):=by
   rcases yl (r:=r) he.rg hr.rg with q|q|q
   ·rw [q.1]at h;exact absurd h.1 (by decide)
   ·exact absurd h.1 q.2.1
   ·exact q
  exact .inr ⟨this,by unfold yL;rw [this];rfl,by unfold Wl;rw [this],h.2⟩
def VX(v:ac):Bool:=v.Kind==1&&v.N==1
theorem yT{v:ac}(h:Pl v):vA v=some (VX v):=by
 have e:oW true=some (bV true):=rfl
 unfold vA
 rw [e,ba]
 congr 1
 cases h with
 |z=>rfl
 |b b=>cases b<;>rfl
 |i n _=>rfl
 |s s _=>rfl
def vc(e:bK)(r:cA):Bool:=VX (Wl e r)
theorem xO(h:HD e ks=true):(fC e ks).2=0:=by
 unfold HD at h
 rw [lX,sx]at h
 exact h.1
theorem KB(he:Qh e)(hk:(fC e ks).2=0)(hr:RK ks r):pZ e r=some (vc e r,if yL e r then 140 else 0):=by
 unfold pZ
 rw [vT e r (by have:=he.len;omega) he.rg hr.rg,ba]
 unfold vc
 rcases Vv he hk hr with q|q
 ·rw [show(oB r e.Nodes).1=Wl e r from rfl,yT q.2.2.1,ba,q.1,q.2.1];rfl
 ·rw [q.1,q.2.1,q.2.2.1,yT .z];rfl
theorem BT{n:ak}(he:Qh n.Cond){ks:List Int}(hk:(fC n.Cond ks).2=0): ∀(l out:List cA),rm ks l→out.length+l.length≤1000000→fU n l out=some (if l.any (yL n.Cond)then([],140)else(out++l.filter (vc n.Cond),0))
 |[],out,_,_=>by unfold fU;simp
 |r::t,out,h,hl=>by
  rw [gX]at hl
  unfold fU
  have hr:=h r (kE ..)
  have ht:rm ks t:=fun x hx=>h x (ky _ hx)
  rw [KB he hk hr,ba,wO,List.filter_cons]
  by_cases hf:yL n.Cond r=true
  ·rw [hf];rfl
  ·rw [rn.2 hf]
   simp only [fZ,d9,yR,rE]
   by_cases hh:vc n.Cond r=true
   ·rw [aX hh,aX hh,bY (by simp;omega),ba,BT he hk t _ ht (by simp only [iF,wN];omega),jK,Gn]
   ·rw [aM hh,aM hh,BT he hk t _ ht (by omega)]
def JQ(items:List bK)(r:cA):cA:=items.map fun e=>Wl e r
def Il(items:List bK)(r:cA):Bool:=items.any fun e=>yL e r
theorem NM(nx:List cA→Option (List cA×Int)){ks:List Int}{r:cA}(hr:RK ks r)(out:List cA)(ho:out.length≤1000000): ∀(items:List bK) (y:cA),(∀e∈items,Qh e∧(fC e ks).2=0)→y.length+items.length≤1000000→gy nx r out items y=if Il items r then some ([],140)else nx (out++[y++JQ items r])
 |[],y,_,_=>by unfold gy;rw [bY (by simp;omega)];simp [Il,JQ]
 |e::t,y,h,hl=>by
  rw [gX]at hl
  unfold gy
  obtain⟨he,hk⟩:=h e (kE ..)
  have ht:=fun x hx=>h x (ky e hx)
  rw [vT e r (by have:=he.len;omega) he.rg hr.rg,ba]
  have e1:Il (e::t) r=(yL e r||Il t r):=rfl
  rw [e1]
  rcases Vv he hk hr with q|q
  ·rw [aM (by rw [q.1];decide),bY (by simp;omega),ba,NM nx hr out ho t _ ht (by simp only [iF,wN];omega),q.2.1]
   simp [JQ,Wl]
  ·rw [q.1,q.2.1];rfl
theorem NN{n:ak}{ks:List Int}(hi: ∀e∈n.Items,Qh e∧(fC e ks).2=0)(hil:n.Items.length≤100000): ∀(l out:List cA),rm ks l→out.length+l.length≤1000000→fm n l out=some (if l.any (Il n.Items)then([],140)else(out++l.map (JQ n.Items),0))
 |[],out,_,_=>by unfold fm;simp
 |r::t,out,h,hl=>by
  rw [gX]at hl
  unfold fm
  have hr:=h r (kE ..)
  have ht:rm ks t:=fun x hx=>h x (ky _ hx)
  rw [NM _ hr out (by omega) n.Items [] hi (by simp;omega),wO]
  by_cases hf:Il n.Items r=true
  ·rw [hf];rfl
  ·rw [rn.2 hf]
   simp only [fZ,d9,rE,kz]
   rw [NN hi hil t _ ht (by simp only [iF,wN];omega)]
   simp

variable{rows:List (List cA)}
theorem Nh{g:gM}(hg:Qh g.Arg)(h:(Bi g ks).2=true){rows:List cA}(hr:rm ks rows)(hl:rows.length≤8000):((v7 g rows).2=0∧Pl (v7 g rows).1∧qt (v7 g rows).1 (Bi g ks).1)∨(v7 g rows=(zV,140)∧QA g=true):=by
 obtain⟨s1,s2⟩:=Dx g ks
 rw [←s1]at h
 rw [←s2 h]
 unfold OT at h ⊢
 unfold v7
 have hi: ∀n:Nat,n≤8000→Pl (iV (n:Int))∧qt (iV (n:Int)) 2:=fun n hn=>⟨.i _ (by unfold r64;omega),.inl rfl⟩
 by_cases h1:g.Tag=1
 ·rw [aX h1,aX h1]
  exact .inl ⟨rfl,hi _ hl⟩
 ·rw [aM h1]at h ⊢
  rw [aM h1]
  have hk:(fC g.Arg ks).2=0:=by
   by_cases h2:g.Tag=2
   ·rw [aX h2]at h;simpa using h
   ·rw [aM h2]at h
    by_cases h3:g.Tag=3
    ·rw [aX h3]at h;simp only [lX,sx]at h;exact h.1
    ·rw [aM h3]at h
     by_cases h4:g.Tag=4∨g.Tag=5
     ·rw [aX h4]at h;simpa using h
     ·rw [aM h4]at h;cases h
  have hb:C7 g.Arg.Nodes rows=false:=by
   unfold C7
   rw [I3]
   intro r hm
   rcases Vv hg hk (hr r hm)with q|q
   ·rw [q.1];decide
   ·rw [q.1];decide
  have hvs: ∀v∈A5 g.Arg.Nodes rows,Pl v∧v.Kind=(fC g.Arg ks).1:=by
   intro v hv
   refine⟨II hg.rg hr.rg v hv,?_⟩
   unfold A5 at hv
   obtain⟨r,hm,he⟩:=List.mem_filterMap.1 hv
   split at he
   ·rename_i hc
    injection he with he
    rcases Vv hg hk (hr r hm)with q|q
    ·rw [←he]
     exact q.2.2.2.resolve_right hc.2
    ·rw [q.1]at hc;exact absurd hc.1 (by decide)
   ·cases he
  have hlen:=Oz g.Arg.Nodes rows
  have ho:rq g.Tag (A5 g.Arg.Nodes rows)=false:=by
   unfold rq
   by_cases h3:g.Tag=3
   ·rw [aM (by omega),aX h3]at h
    simp only [lX,sx,p9]at h
    rw [h3]
    simp only [Gi,uE]
    rw [I3]
    intro v hv
    have hkv:=(hvs v hv).2
    have hne:v.Kind≠0:=by
     unfold A5 at hv
     obtain⟨r,hm,he⟩:=List.mem_filterMap.1 hv
     split at he
     ·rename_i hc;injection he with he;rw [←he];exact hc.2
     ·cases he
    simp only [qT,pE,Classical.not_not]
    omega
   ·have:(g.Tag==3)=false:=by simpa using h3
    rw [this];rfl
  rw [hb,ho]
  simp only [Bool.or_self,fZ,d9]
  by_cases hf:C4 g.Arg.Nodes rows=true
  ·rw [aX hf]
   refine .inr ⟨rfl,?_⟩
   unfold QA
   split
   ·rfl
   ·unfold C4 at hf
    obtain⟨r,hm,hq⟩:=sC.1 hf
    rcases Vv hg hk (hr r hm)with q|q
    ·rw [q.1]at hq;cases hq
    ·unfold Jk
     rw [q.2.2.2,yQ]
     cases hn:g.Arg.Nodes with
     |nil=>have:=q.2.2.2;rw [hn]at this;cases this
     |cons x t=>rfl
  ·rw [aM hf]
   unfold RI
   rw [aM (by decide)]
   by_cases h2:g.Tag=2
   ·rw [aX h2,aX h2]
    exact .inl ⟨rfl,hi _ (by omega)⟩
   ·rw [aM h2,aM h2]
    by_cases h3:g.Tag=3
    ·rw [aX h3,aX h3]
     unfold QK
     split
     ·exact .inl ⟨rfl,.z,.inr rfl⟩
     ·by_cases hs:r64 (qi (A5 g.Arg.Nodes rows))
      ·rw [aX hs];exact .inl ⟨rfl,.i _ hs,.inl rfl⟩
      ·rw [aM hs];exact .inr ⟨rfl,by unfold QA;rw [aX h3]⟩
    ·rw [aM h3,aM h3]
     have h45:g.Tag=4∨g.Tag=5:=by
      rw [aM h2,aM h3]at h
      by_cases h4:g.Tag=4∨g.Tag=5
      ·exact h4
      ·rw [aM h4]at h;cases h
     rw [aX h45]
     refine .inl ⟨rfl,?_⟩
     by_cases hz:A5 g.Arg.Nodes rows=[]
     ·rw [hz];exact⟨.z,.inr rfl⟩
     ·have:=hvs _ (Sw g.Tag _ hz)
      exact⟨this.1,.inl this.2⟩
def Tm(aggs:List gM)(g:g9):cA:=g.Key++aggs.map fun a=>(v7 a g.Rows).1
def Im(aggs:List gM)(g:g9):Bool:=aggs.any fun a=>(v7 a g.Rows).2==140
def GOK(aggs:List gM)(g:g9):Prop:= ∀a∈aggs,lW a g.Rows=some (v7 a g.Rows)∧rp a g.Rows=some (v7 a g.Rows)∧((v7 a g.Rows).2=0∨v7 a g.Rows=(zV,140))
theorem Rx(nx:List cA→Option (List cA×Int))(g:g9)(out:List cA)(ho:out.length≤1000000): ∀(aggs:List gM) (x:cA),GOK aggs g→x.length+aggs.length≤1000000→iu nx g out aggs x=if Im aggs g then some ([],140)else nx (out++[x++aggs.map fun a=>(v7 a g.Rows).1])
 |[],x,_,_=>by unfold iu;rw [bY (by simp;omega)];simp [Im]
 |a::t,x,h,hl=>by
  rw [gX]at hl
  unfold iu
  obtain⟨h1,_,h3⟩:=h a (kE ..)
  have ht:GOK t g:=fun x hx=>h x (ky a hx)
  have e1:Im (a::t) g=((v7 a g.Rows).2==140||Im t g):=rfl
  rw [h1,ba,e1]
  rcases h3 with q|q
  ·rw [aM (by rw [q];decide),bY (by simp;omega),ba,Rx nx g out ho t _ ht (by simp only [iF,wN];omega),q]
   simp
  ·rw [q];rfl
theorem Qi(r:cA)(h:r.length≤1000):cy r=some r:=Ch r (by omega)
theorem Ry{n:ak}(ha:n.Aggs.length≤100000): ∀(gs:List g9) (out:List cA),(∀g∈gs,GOK n.Aggs g∧g.Key.length≤1000)→out.length+gs.length≤1000000→fg n gs out=some (if gs.any (Im n.Aggs)then([],140)else(out++gs.map (Tm n.Aggs),0))
 |[],out,_,_=>by unfold fg;simp
 |g::t,out,h,hl=>by
  rw [gX]at hl
  unfold fg
  obtain⟨h1,h2⟩:=h g (kE ..)
  have ht:=fun x hx=>h x (ky g hx)
  rw [Qi _ h2,ba,Rx _ g out (by omega) n.Aggs g.Key h1 (by omega),wO]
  by_cases hf:Im n.Aggs g=true
  ·rw [hf];rfl
  ·rw [rn.2 hf]
   simp only [fZ,d9,rE]
   rw [Ry ha t _ ht (by simp only [iF,wN];omega)]
   simp [Tm]
theorem Js{r:cA}: ∀{c:List Int} (out:cA),(∀e∈c,0≤e∧e<(r.length:Int))→out.length+c.length≤1000→mb r c out=some (out++c.map (atR r))
 |[],out,_,_=>by unfold mb;simp
 |e::t,out,h,hl=>by
  rw [gX]at hl
  unfold mb
  have he:=h e (kE ..)
  rw [Ij he.1 he.2,ba,bY (by simp;omega),ba,Js _ (fun x hx=>h x (ky _ hx)) (by simp only [iF,wN];omega)]
  simp
theorem QI{c:List Int}(h:nP r c=true):gr c r=c.map (atR r):=by
 unfold nP at h
 rw [lX,kI,jx]at h
 have:nJ r c=some ([]++c.map (atR r)):=Js [] (fun e he=>by have:=h.2 e he;simpa using this) (by simp;omega)
 unfold gr
 rw [this];rfl
theorem RK.key(h:RK ks r): ∀c:List Int,(∀e∈c,0≤e∧e<(ks.length:Int))→RK (c.map (ES ks)) (c.map (atR r)):=fun c hc=>
 RK.map (atR r) (ES ks) c fun e he=>by
  obtain⟨h1,h2⟩:=hc e he
  exact h.at e.toNat (by omega)
def gP(c:List Int)(l:List cA):List g9:=if c=[]∧t8 c l=[]then [⟨[],[]⟩]else t8 c l
structure Lm(n:ak)(ks:List Int):Prop where
 cols: ∀c∈n.Keys,0≤c∧c<(ks.length:Int)
 ags: ∀g∈n.Aggs,Qh g.Arg∧(Bi g ks).2=true
 len:ks.length≤16
 keys:n.Keys.length≤16
 naggs:n.Aggs.length≤5000
theorem NQ(h:Lm n ks){l:List cA}(hr:rm ks l):AK l n.Keys=true:=by
 unfold AK
 simp only [lX,kI,jx]
 refine⟨⟨h.keys,fun e he=>(h.cols e he).1⟩,fun r hm=>?_⟩
 unfold nP
 simp only [lX,kI,jx]
 refine⟨h.keys,fun e he=>?_⟩
 have:=(hr r hm).len
 have:=h.cols e he
 omega
theorem Xm{g:gM}(h:(Bi g ks).2=true):g.Tag=1∨g.Tag=2∨g.Tag=3∨g.Tag=4∨g.Tag=5:=by
 rw [←(Dx g ks).1]at h
 unfold OT at h
 by_cases h1:g.Tag=1
 ·exact .inl h1
 ·by_cases h2:g.Tag=2
  ·exact .inr (.inl h2)
  ·by_cases h3:g.Tag=3
   ·exact .inr (.inr (.inl h3))
   ·by_cases h4:g.Tag=4∨g.Tag=5
    ·exact .inr (.inr (.inr h4))
    ·rw [aM h1,aM h2,aM h3,aM h4]at h;cases h
theorem YL(h:Lm n ks){key:cA}{rows:List cA}(hr:rm ks rows)(hl:rows.length≤8000):GOK n.Aggs ⟨key,rows⟩:=by
 intro a ha
 obtain⟨h1,h2⟩:=h.ags a ha
 refine⟨yM a (by have:=h1.len;omega) h1.rg (Xm h2) hr.rg (by show rows.length≤90000;omega),zC a h1.rg hr.rg (by show rows.length≤90000;omega),?_⟩
 rcases Nh h1 h2 hr hl with q|q
 ·exact .inl q.1
 ·exact .inr q.1
theorem Xo(h:Lm n ks){key:cA}{rows:List cA}(hr:rm ks rows)(hl:rows.length≤8000)(hk:RK (n.Keys.map (ES ks)) key):RK (n.Keys.map (ES ks)++n.Aggs.map fun g=>(Bi g ks).1) (Tm n.Aggs ⟨key,rows⟩):=by
 refine hk.app (RK.map _ _ _ fun a ha=>?_)
 obtain⟨h1,h2⟩:=h.ags a ha
 rcases Nh h1 h2 hr hl with q|q
 ·exact q.2
 ·show Pl (v7 a rows).1∧qt (v7 a rows).1 _
  rw [q.1];exact⟨.z,.inr rfl⟩
theorem EV(h:Lm n ks){l:List cA}(hr:rm ks l)(hl:l.length≤8000): ∀g∈gP n.Keys l,∃key rows,g=⟨key,rows⟩∧rm ks rows∧rows.length≤8000∧RK (n.Keys.map (ES ks)) key:=by
 intro g hg
 unfold gP at hg
 split at hg
 ·rename_i hc
  have hc1:=hc.1
  simp only [CX]at hg
  subst hg
  refine⟨[],[],rfl,(fun r hr=>by cases hr),by simp,?_⟩
  rw [hc1];trivial
 ·unfold t8 at hg
  obtain⟨k,hk,e⟩:=tK.1 hg
  subst e
  refine⟨_,_,rfl,?_,?_,?_⟩
  ·intro r hm
   rw [(lD eE _).mem_iff]at hm
   exact hr r (DD.1 hm).1
  ·rw [xQ]
   have:=List.length_filter_le (fun r=>decide (gr n.Keys r=k)) l
   omega
  ·rw [u8,(lD eE _).mem_iff]at hk
   obtain⟨r,hm,e⟩:=tK.1 hk
   have hoc:=ye (NQ h hr) hm
   rw [←e,QI hoc]
   exact(hr r hm).key n.Keys h.cols
theorem RC(c:List Int)(l:List cA)(hl:l.length≤8000):(gP c l).length≤8000:=by
 unfold gP
 split
 ·simp
 ·unfold t8
  rw [Cm]
  have:=PU (wA (l.map (gr c)))
  rw [xQ,Cm]at this
  omega
def xu(n:ak)(l:List cA):List cA×Int:=if(gP n.Keys l).any (Im n.Aggs)then([],140)else((gP n.Keys l).map (Tm n.Aggs),0)
theorem Rz(h:Lm n ks){l:List cA}(hr:rm ks l)(hl:l.length≤8000)(ob:cW)(hA:cR ob.rows n.A=some l):iT ob n=some (xu n l):=by
 unfold iT
 rw [hA,ba,FT (hr.small h.len hl) (hr.allr h.len) (NQ h hr),ba]
 rw [aM (by show¬((0:Int) !=0)=true;decide)]
 have hgs: ∀g∈gP n.Keys l,GOK n.Aggs g∧g.Key.length≤1000:=by
  intro g hg
  obtain⟨key,rows,e,p1,p2,p3⟩:=EV h hr hl g hg
  subst e
  refine⟨YL h p1 p2,?_⟩
  have:=p3.len
  have hk:=h.keys
  rw [Cm]at this
  show key.length≤1000
  omega
 have main:fg n (gP n.Keys l) []=some (xu n l):=by
  rw [Ry (by have:=h.naggs;omega) _ [] hgs (by have:=RC n.Keys l hl;simp only [oC];omega)]
  rfl
 rw [←main]
 unfold lz gP
 by_cases hc:n.Keys=[]∧t8 n.Keys l=[]
 ·rw [aX (by rw [hc.2,hc.1];rfl),aX hc]
 ·rw [aM,aM hc]
  intro hh
  simp only [lX,sx]at hh
  exact hc ⟨tI (by omega),tI (by omega)⟩
theorem RA(h:Lm n ks){l:List cA}(hr:rm ks l)(hl:l.length≤8000):rm (n.Keys.map (ES ks)++n.Aggs.map fun g=>(Bi g ks).1) (xu n l).1∧(xu n l).1.length≤8000∧((xu n l).2=0∨xu n l=([],140)∧n.Aggs.any QA=true):=by
 unfold xu
 by_cases hf:(gP n.Keys l).any (Im n.Aggs)=true
 ·rw [aX hf]
  refine⟨(fun r hr=>by cases hr),by simp,.inr ⟨rfl,?_⟩⟩
  obtain⟨g,hg,hfg⟩:=sC.1 hf
  obtain⟨key,rows,e,p1,p2,p3⟩:=EV h hr hl g hg
  subst e
  unfold Im at hfg
  obtain⟨a,ha,hq⟩:=sC.1 hfg
  obtain⟨h1,h2⟩:=h.ags a ha
  rcases Nh h1 h2 p1 p2 with q|q
  ·rw [q.1]at hq;cases hq
  ·exact sC.2 ⟨a,ha,q.2⟩
 ·rw [aM hf]
  refine⟨?_,by rw [Cm];exact RC _ _ hl,.inl rfl⟩
  intro r hm
  obtain⟨g,hg,e⟩:=tK.1 hm
  obtain⟨key,rows,e2,p1,p2,p3⟩:=EV h hr hl g hg
  subst e2
  rw [←e]
  exact Xo h p1 p2 p3

def rb(e:bK)(b:List cA)(x:cA):List cA:=(b.map fun y=>x++y).filter (vc e)
def yK(e:bK)(b:List cA)(x:cA):Bool:=b.any fun y=>vc e (x++y)
def F7(e:bK)(b:List cA)(x:cA):Bool:=b.any fun y=>yL e (x++y)
def KA(e:bK)(b:List cA)(w:Nat)(left:Bool)(x:cA):List cA:=if left&& !yK e b x then [x++List.replicate w zV]else []
theorem GQ(e:bK)(b:List cA)(x:cA):(rb e b x).length≤b.length:=by
 unfold rb
 have:=List.length_filter_le (vc e) (b.map fun y=>x++y)
 rw [Cm]at this
 exact this
theorem CI{α β:Type}(f:α→List β)(m:Nat)(h: ∀x,(f x).length≤m): ∀l:List α,(l.flatMap f).length≤l.length*m
 |[]=>by simp
 |x::t=>by
  rw [List.flatMap_cons,iF,gX,um,Nat.one_mul]
  have:=CI f m h t
  have:=h x
  omega
theorem SM(n:Int)(h0:0≤n)(h:n≤68719476736):gu n=some []:=by
 unfold gu hY
 rw [aM (by simp;omega)]
 have e:IntKind.i64.wrap (n-IntKind.i64.wrap ((0:Int)-0))=n:=by
  rw [cv (n:=(0:Int)-0) (by omega) (by omega),cv (by omega) (by omega)];omega
 rw [e]
 by_cases hp:0<n
 ·rw [aX (by simpa using hp)]
  unfold Wf nD
  rw [aX hp]
  simp only [ba]
  rw [aX ⟨h0,h⟩]
  simp only [ba]
  rw [show dj (List.replicate n.toNat (⟨0,0,0,[]⟩:ac)) 0 0=some []from by unfold dj;rw [aX (by simp;omega)];simp]
  rfl
 ·rw [aM (by simpa using hp)];rfl
theorem FD(a b:cA)(ha:a.length≤8000)(hb:b.length≤8000):dB [a,b]=some (a++b):=by
 unfold dB
 simp only [eP]
 rw [cv (n:=(0:Int)+(a.length:Int)) (by omega) (by omega),aM (by simp),cv (by omega) (by omega),aM (by simp;omega),SM _ (by omega) (by omega)]
 simp only [ba,eO]
 rw [bY (by simp;omega)]
 simp only [ba,kz]
 rw [bY (by omega)]
 rfl
abbrev JS:=Option Nat×(List cA×List Bool×Int×List cA)
def vb(n:ak):Int×cA→JS→Option (Bool×JS):=wq (fun x s=>gL n x s.1 s.2.1 s.2.2.1 s.2.2.2)
theorem Tk(p q:List α)(w v:α):(p++w::q).set p.length v=p++v::q:=by
 induction p with
 |nil=>rfl
 |cons x t ih=>simp [ih]
theorem N6(p q:List α)(w:α):cR (p++w::q) (p.length:Int)=some w:=by
 rw [Rw];simp
theorem Ex{n:ak}(he:Qh n.Cond){ka kb:List Int}(hk:(fC n.Cond (ka++kb)).2=0)(hka:ka.length≤16)(hkb:kb.length≤16)(nx:Nat→JS→Option JS){x:cA}(hx:RK ka x): ∀(bs xs:List cA) (pre:List Bool) (m:Bool) (post:List Bool),rm kb bs→xs.length+bs.length≤1000000→
  if F7 n.Cond bs x then∃q:List cA×List Bool,fD (vb n) nx pre.length x bs (none,(xs,pre++m::post,0,[]))=some (some 0,(q.1,q.2,140,[]))
  else fD (vb n) nx pre.length x bs (none,(xs,pre++m::post,0,[]))=nx (pre.length+1) (none,(xs++rb n.Cond bs x,pre++(m||yK n.Cond bs x)::post,0,[]))
 |[],xs,pre,m,post,_,_=>by
  have:F7 n.Cond [] x=false:=rfl
  rw [this,aM (by decide)]
  unfold fD
  simp [rb,yK]
 |y::t,xs,pre,m,post,hb,hl=>by
  rw [gX]at hl
  have hy:=hb y (kE ..)
  have ht:rm kb t:=fun z hz=>hb z (ky _ hz)
  have hxy:RK (ka++kb) (x++y):=hx.app hy
  have hlx:=hx.len
  have hly:=hy.len
  have e1:F7 n.Cond (y::t) x=(yL n.Cond (x++y)||F7 n.Cond t x):=rfl
  have e2:rb n.Cond (y::t) x=(if vc n.Cond (x++y)=true then(x++y)::rb n.Cond t x else rb n.Cond t x):=by
   unfold rb
   rw [wi,List.filter_cons]
  have e3:yK n.Cond (y::t) x=(vc n.Cond (x++y)||yK n.Cond t x):=rfl
  have step:fD (vb n) nx pre.length x (y::t) (none,(xs,pre++m::post,0,[]))=(gL n ((pre.length:Int),x++y) xs (pre++m::post) 0 []).bind fun r=>if(!r.1.isNone)=true then some r else fD (vb n) nx pre.length x t r:=by
   conv=>lhs;unfold fD
   rw [FD x y (by omega) (by omega),ba]
   unfold vb wq
   simp only []
   cases gL n ((pre.length:Int),x++y) xs (pre++m::post) 0 []with
   |none=>rfl
   |some r=>rfl
  have hbody:gL n ((pre.length:Int),x++y) xs (pre++m::post) 0 []=some (if yL n.Cond (x++y)then(some 0,(xs,pre++m::post,140,[]))else if vc n.Cond (x++y)then(none,(xs++[x++y],pre++true::post,0,[]))else(none,(xs,pre++m::post,0,[]))):=by
   unfold gL
   rw [KB he hk hxy,ba]
   by_cases hf:yL n.Cond (x++y)=true
   ·rw [hf];rfl
   ·rw [rn.2 hf]
    simp only [fZ,d9,yR]
    by_cases hh:vc n.Cond (x++y)=true
    ·rw [aX hh,aX hh,N6,ba,Ac,Tk,ba,bY (by simp;omega),ba]
    ·rw [aM hh,aM hh]
  rw [e1,step,hbody,ba]
  by_cases hf:yL n.Cond (x++y)=true
  ·rw [hf]
   simp only [eK,Bool.true_or]
   exact⟨(xs,pre++m::post),rfl⟩
  ·rw [rn.2 hf]
   simp only [fZ,d9,rE]
   by_cases hh:vc n.Cond (x++y)=true
   ·rw [aX hh]
    simp only [Option.isNone_none,mi,fZ,d9]
    have ih:=Ex he hk hka hkb nx hx t (xs++[x++y]) pre true post ht (by simp only [iF,wN];omega)
    rw [e2,aX hh,e3,hh]
    simpa using ih
   ·rw [aM hh]
    simp only [Option.isNone_none,mi,fZ,d9]
    have ih:=Ex he hk hka hkb nx hx t xs pre m post ht (by omega)
    rw [e2,aM hh,e3,rn.2 hh,rE]
    exact ih
theorem JW{n:ak}(he:Qh n.Cond){ka kb:List Int}(hk:(fC n.Cond (ka++kb)).2=0)(hka:ka.length≤16)(hkb:kb.length≤16){b:List cA}(hb:rm kb b): ∀(a xs:List cA) (pre:List Bool),rm ka a→xs.length+a.length*b.length+b.length≤1000000→
  if a.any (F7 n.Cond b)then∃q:List cA×List Bool,dJ b (vb n) a pre.length (none,(xs,pre++List.replicate a.length false,0,[]))=some (some 0,(q.1,q.2,140,[]))
  else dJ b (vb n) a pre.length (none,(xs,pre++List.replicate a.length false,0,[]))=some (none,(xs++a.flatMap (rb n.Cond b),pre++a.map (yK n.Cond b),0,[]))
 |[],xs,pre,_,_=>by
  rw [List.any_nil,aM (by decide)]
  unfold dJ
  simp
 |x::t,xs,pre,ha,hl=>by
  rw [gX,um,Nat.one_mul]at hl
  have hx:=ha x (kE ..)
  have ht:rm ka t:=fun z hz=>ha z (ky _ hz)
  have h2:=Ex he hk hka hkb (dJ b (vb n) t) hx b xs pre false (List.replicate t.length false) hb (by omega)
  have er:List.replicate (x::t).length false=false::List.replicate t.length false:=rfl
  rw [er,wO]
  unfold dJ
  by_cases hf:F7 n.Cond b x=true
  ·rw [hf]at h2 ⊢
   simpa using h2
  ·rw [rn.2 hf]at h2 ⊢
   simp only [fZ,d9,rE]at h2 ⊢
   have ih:=JW he hk hka hkb hb t (xs++rb n.Cond b x) (pre++[yK n.Cond b x]) ht (by have:=GQ n.Cond b x;simp only [iF];omega)
   rw [h2]
   simp only [iF,wN,jK,Gn]at ih ⊢
   rw [List.flatMap_cons,wi]
   exact ih
theorem N3{ob:cW}{n:ak}{w:Nat}(hw:w≤16)(hB:cR ob.width n.B=some (w:Int))(e:bK)(b:List cA)(st:JS)(u:Unit): ∀(t:List cA) (pre:List Bool) (out:List cA),(∀x∈t,x.length≤16)→st.2.2.1=pre++t.map (yK e b)→out.length+t.length≤1000000→gK ob n (st,u) t pre.length out=some (out++t.flatMap (KA e b w n.Left),0)
 |[],pre,out,_,_,_=>by unfold gK;simp
 |x::t,pre,out,hx,hs,hl=>by
  rw [gX]at hl
  unfold gK
  have hxl:=hx x (kE ..)
  have ht:=fun z hz=>hx z (ky x hz)
  rw [wi]at hs
  have hi:cR st.2.2.1 (pre.length:Int)=some (yK e b x):=by rw [hs,N6]
  have ih:=N3 hw hB e b st u t (pre++[yK e b x])
  rw [iF,wN]at ih
  have hs2:st.2.2.1=pre++[yK e b x]++t.map (yK e b):=by rw [hs];simp
  rw [List.flatMap_cons]
  have ec:(if n.Left=true then((cR st.2.2.1 (pre.length:Int)).bind fun e4=>some (!e4))else some false)=some (n.Left&& !yK e b x):=by
   rw [hi]
   cases n.Left<;>rfl
  show((if n.Left=true then((cR st.2.2.1 (pre.length:Int)).bind fun e4=>some (!e4))else some false).bind fun q=>_)=_
  rw [ec,ba]
  unfold KA
  by_cases hc:(n.Left&& !yK e b x)=true
  ·rw [aX hc,aX hc,hB,ba]
   have hz:nD (w:Int) (⟨0,0,0,[]⟩:ac)=some (List.replicate w zV):=by
    unfold nD
    rw [aX (by omega)]
    rfl
   rw [hz,ba,FD x _ (by omega) (by simp;omega),ba,bY (by simp;omega),ba,ih _ ht hs2 (by simp only [iF,wN];omega),jK]
   rfl
  ·rw [aM hc,aM hc,ih _ ht hs2 (by omega),kz]
   rfl
def CE(n:ak)(a b:List cA)(w:Nat):List cA×Int:=
 if 40000<a.length*b.length then([],3)else if a.any (F7 n.Cond b)then([],140)else(a.flatMap (rb n.Cond b)++a.flatMap (KA n.Cond b w n.Left),0)
structure O5(n:ak)(ka kb:List Int):Prop where
 cond:Qh n.Cond
 kind:(fC n.Cond (ka++kb)).2=0
 ka:ka.length≤16
 kb:kb.length≤16
theorem Rd{q:Nat}(hp:p≤8000)(hq:q≤8000):decide ((40000:Int)<(IntKind.i64.wrap ((p:Int)*(q:Int))))=decide (40000<p*q):=by
 have h:p*q≤8000*8000:=wv hp hq
 rw [←wR,tL (by omega) (by omega),Ck]
 omega
theorem TV{ka kb:List Int}(h:O5 n ka kb){a b:List cA}(ha:rm ka a)(hb:rm kb b)(hal:a.length≤8000)(hbl:b.length≤8000)(ob:cW)(hA:cR ob.rows n.A=some a)(hB:cR ob.rows n.B=some b)(hW:cR ob.width n.B=some (kb.length:Int)):jA ob n=some (CE n a b kb.length):=by
 unfold jA CE
 rw [hA,hB,ba,ba,Rd hal hbl]
 by_cases hm:40000<a.length*b.length
 ·rw [aX (by simpa using hm),aX hm]
 ·rw [aM (by simpa using hm),aM hm]
  have hz:nD (a.length:Int) false=some (List.replicate a.length false):=by
   unfold nD
   rw [aX (by omega)]
   rfl
  have hp:vV a b=some (fun _=>lT a b):=rfl
  rw [hz,ba,hp,ba]
  have hit:(itU (fun(Sg:Type)=>lT (Sg:=Sg) a b)) JS (vb n) (none,(([]:List cA),List.replicate a.length false,(0:Int),[]))=(dJ b (vb n) a 0 (none,(([]:List cA),List.replicate a.length false,(0:Int),[]))).map fun r=>(r,()):=rfl
  have hp1:=JW h.cond h.kind h.ka h.kb hb a [] [] ha (by simp only [oC];omega)
  show((itU (fun(Sg:Type)=>lT (Sg:=Sg) a b)) JS (vb n) (none,(([]:List cA),List.replicate a.length false,(0:Int),[]))).bind _=_
  rw [hit]
  by_cases hf:a.any (F7 n.Cond b)=true
  ·rw [aX hf]at hp1 ⊢
   obtain⟨q,hq⟩:=hp1
   have hq2:dJ b (vb n) a 0 (none,(([]:List cA),List.replicate a.length false,(0:Int),[]))=some (some 0,(q.1,q.2,140,[])):=hq
   rw [hq2]
   rfl
  ·rw [aM hf]at hp1 ⊢
   have hq2:dJ b (vb n) a 0 (none,(([]:List cA),List.replicate a.length false,(0:Int),[]))=some (none,(a.flatMap (rb n.Cond b),a.map (yK n.Cond b),0,[])):=hp1
   rw [hq2]
   have hlen:=CI (rb n.Cond b) b.length (GQ n.Cond b) a
   have:=N3 (ob:=ob) (n:=n) h.kb hW n.Cond b (none,(a.flatMap (rb n.Cond b),a.map (yK n.Cond b),0,[])) () a [] (a.flatMap (rb n.Cond b)) (fun x hx=>by rw [(ha x hx).len];exact h.ka) rfl (by omega)
   exact this
theorem TX{ka kb:List Int}{a b:List cA}(ha:rm ka a)(hb:rm kb b):rm (ka++kb) (a.flatMap (rb n.Cond b)):=by
 intro r hr
 obtain⟨x,hx,hr⟩:=List.mem_flatMap.1 hr
 unfold rb at hr
 obtain⟨y,hy,e⟩:=tK.1 (DD.1 hr).1
 rw [←e]
 exact(ha x hx).app (hb y hy)
theorem TY{ka kb:List Int}{a b:List cA}(ha:rm ka a):rm (ka++kb) (a.flatMap (KA n.Cond b kb.length n.Left)):=by
 intro r hr
 obtain⟨x,hx,hr⟩:=List.mem_flatMap.1 hr
 unfold KA at hr
 split at hr
 ·rw [CX.1 hr]
  exact(ha x hx).app (Le kb)
 ·cases hr
theorem DV(h:e.Nodes.any YG=true):Jk e=true:=by
 unfold Jk
 rw [h,yQ]
 cases hn:e.Nodes with
 |nil=>rw [hn]at h;cases h
 |cons x t=>rfl
theorem TW{ka kb:List Int}(h:O5 n ka kb){a b:List cA}(ha:rm ka a)(hb:rm kb b):rm (ka++kb) (CE n a b kb.length).1∧((CE n a b kb.length).2=0∨CE n a b kb.length=([],3)∨CE n a b kb.length=([],140)∧Jk n.Cond=true):=by
 unfold CE
 by_cases hm:40000<a.length*b.length
 ·rw [aX hm]
  exact⟨(fun r hr=>by cases hr),.inr (.inl rfl)⟩
 ·rw [aM hm]
  by_cases hf:a.any (F7 n.Cond b)=true
  ·rw [aX hf]
   refine⟨(fun r hr=>by cases hr),.inr (.inr ⟨rfl,?_⟩)⟩
   obtain⟨x,hx,hq⟩:=sC.1 hf
   unfold F7 at hq
   obtain⟨y,hy,hq⟩:=sC.1 hq
   rcases Vv h.cond h.kind ((ha x hx).app (hb y hy))with q|q
   ·rw [q.2.1]at hq;cases hq
   ·exact DV q.2.2.2
  ·rw [aM hf]
   refine⟨fun r hr=>?_,.inl rfl⟩
   rcases Aa.1 hr with q|q
   ·exact TX ha hb r q
   ·exact TY ha r q

theorem Mi(hS:mP l)(hr:lg l=true){ks:Nat→List Int}(K:Hk l sz ks)(hp:p<l.Nodes.length): ∃d,s5 l (p:Int)=some (d,0)∧ra d=some (ks p,0):=by
 obtain⟨_,_,ob,j,r3,r4⟩:=sR hS
 obtain⟨hL,hj⟩:=r4 hr
 rw [hr]at r3
 have hle:=hL.le
 have H:FG l (wE ob.first) (Mw ob.kinds):=fun j hj=>KJ hL.inv hle hj
 obtain⟨N0,hf⟩:=hL.inv.at hp
 have h1:=N0.pos
 have h2:=N0.le
 have hb:((p+1-wE ob.first p:Nat):Int)=(p:Int)+1-(wE ob.first p:Int):=by omega
 have hfi:cR ob.first (p:Int)=some ((p+1-wE ob.first p:Nat):Int):=by rw [bW,hf,hb]
 have hpart:s5 l (p:Int)=some (zE l (p+1-wE ob.first p) p,0):=by
  unfold s5
  rw [r3]
  simp only [ba,mi,fZ,d9]
  rw [aM (by simp;omega),hfi]
  simp only [ba]
  rw [Nj hS hle hp (by omega) ((l.Nodes.take (p+1)).drop (p+1-wE ob.first p)) (p+1-wE ob.first p) im _ rfl (by simp;omega) (vd (by simp;omega)) (by simp)]
  rfl
 refine⟨_,hpart,?_⟩
 have hpr:=Mh H hle hp h2 h1
 have hps:=H4 hS (p+1-wE ob.first p) p
 obtain⟨sz',ks',K'⟩:=AN hps hpr
 have hk:=(Kq hps K' (Ew H hle hp h2)).1
 have hlen:=vN (l:=l) (e:=p+1-wE ob.first p) hp
 rw [K'.kinds,←hk,hlen]
 have hsame:=YU (l:=l) (d:=l) (e:=0) (m:=l.Nodes.length) K.all H (dn _) (by omega) (by omega) (by omega) (fun j hj n hn=>by
  obtain⟨m,F⟩:=K.all j hj
  have hm:n=m:=by rw [F.node]at hn;injection hn with hn;exact hn.symm
  subst hm
  rw [uo,Pz K F hj]
  exact F.node) p hp
 have e:p+1-wE ob.first p+(p+1-(p+1-wE ob.first p)-1)=p:=by omega
 simp only [e]
 have:=hsame.2
 rw [uo]at this
 rw [this]
structure zh(n:ak):Prop where
 small:iW n
 cond:Qh n.Cond
 items: ∀e∈n.Items,Qh e
 args: ∀g∈n.Aggs,Qh g.Arg
def kS(base:cB)(n:ak):List cA:=(base.Tables[n.Table.toNat]?).getD []
def u7(n:ak)(base:cB)(a b:List cA)(w:Nat):List cA×Int:=
 if n.Op=1 then(kS base n,0)
 else if n.Op=2 then CE n a b w
 else if n.Op=3 then(if a.any (yL n.Cond)then([],140)else(a.filter (vc n.Cond),0))
 else if n.Op=4 then xu n a
 else if n.Op=5 then(if a.any (Il n.Items)then([],140)else(a.map (JQ n.Items),0))
 else if n.Op=6 then(qe (wA a),0)
 else if n.Op=7 then(a++b,0)
 else(MU n.Limit (rC (G9 n.Order) a),0)
def F8(n:ak)(q:List cA×Int):List cA×Int:=if q.2≠0 then([],q.2)else if 8000<q.1.length then([],3)else(if n.Op=8 then q.1 else wA q.1,0)
def uj(n:ak)(base:cB)(a b:List cA)(w:Nat):List cA×Int:=F8 n (u7 n base a b w)
theorem Sb{limit:Int}{l:List cA}(h:r∈MU limit l):r∈l:=by
 unfold MU at h
 split at h
 ·exact List.mem_of_mem_take h
 ·exact h
def HP(base:cB)(n:ak)(k:List Int):Prop:=n.Op=1→n.Table.toNat<base.Tables.length∧rm k (kS base n)∧(kS base n).length≤12
theorem LH(h:e∈n.Items)(hu:Jk e=true):HC n=true:=by
 unfold HC
 rw [sC.2 ⟨e,h,hu⟩]
 simp
variable{base:cB}
theorem NT{ka kb:List Int}{a b:List cA}(hn:zh n)(hop:FI n.Op=true)(hk:bq n ka kb=some (k,true))(hka:ka.length≤16)(hkb:kb.length≤16)(hsc:HP base n k)(ha:rm ka a)(hb:rm kb b)(hal:a.length≤8000):
  rm k (u7 n base a b kb.length).1∧((u7 n base a b kb.length).2=0∨(u7 n base a b kb.length).2=3∨((u7 n base a b kb.length).2=140∧HC n=true)):=by
 unfold u7
 rcases qm hop with o|o|o|o|o|o|o|o
 ·rw [aX o]
  exact⟨(hsc o).2.1,.inl rfl⟩
 ·rw [aM (by omega),aX o]
  obtain⟨e,ht⟩:=NV o hk
  subst e
  have hj:O5 n ka kb:=⟨hn.cond,xO ht,hka,hkb⟩
  obtain⟨p1,p2⟩:=TW hj ha hb
  refine⟨p1,?_⟩
  rcases p2 with q|q|q
  ·exact .inl q
  ·rw [q];exact .inr (.inl rfl)
  ·rw [q.1];exact .inr (.inr ⟨rfl,by unfold HC;rw [q.2];rfl⟩)
 ·rw [aM (by omega),aM (by omega),aX o]
  obtain⟨e,ht⟩:=GK o hk
  subst e
  by_cases hf:a.any (yL n.Cond)=true
  ·rw [aX hf]
   refine⟨(fun r hr=>by cases hr),.inr (.inr ⟨rfl,?_⟩)⟩
   obtain⟨r,hr,hq⟩:=sC.1 hf
   rcases Vv hn.cond (xO ht) (ha r hr)with q|q
   ·rw [q.2.1]at hq;cases hq
   ·unfold HC;rw [DV q.2.2.2];rfl
  ·rw [aM hf]
   exact⟨fun r hr=>ha r (DD.1 hr).1,.inl rfl⟩
 ·rw [aM (by omega),aM (by omega),aM (by omega),aX o]
  obtain⟨p1,p2,p3,p4⟩:=Kl hn.small o hk
  subst p3
  have hg:Lm n ka:=⟨p1,fun g hg=>⟨hn.args g hg,p2 g hg⟩,hka,by omega,hn.small.aggs⟩
  obtain⟨q1,_,q3⟩:=RA hg ha hal
  refine⟨q1,?_⟩
  rcases q3 with q|q
  ·exact .inl q
  ·rw [q.1];exact .inr (.inr ⟨rfl,by unfold HC;rw [q.2];simp⟩)
 ·rw [aM (by omega),aM (by omega),aM (by omega),aM (by omega),aX o]
  obtain⟨p1,p2⟩:=EJ hn.small o hk
  subst p2
  by_cases hf:a.any (Il n.Items)=true
  ·rw [aX hf]
   refine⟨(fun r hr=>by cases hr),.inr (.inr ⟨rfl,?_⟩)⟩
   obtain⟨r,hr,hq⟩:=sC.1 hf
   unfold Il at hq
   obtain⟨e,he,hq⟩:=sC.1 hq
   rcases Vv (hn.items e he) (p1 e he) (ha r hr)with q|q
   ·rw [q.2.1]at hq;cases hq
   ·exact LH he (DV q.2.2.2)
  ·rw [aM hf]
   refine⟨?_,.inl rfl⟩
   intro x hx
   obtain⟨r,hr,e⟩:=tK.1 hx
   rw [←e]
   refine RK.map _ _ _ fun e he=>?_
   rcases Vv (hn.items e he) (p1 e he) (ha r hr)with q|q
   ·exact q.2.2
   ·rw [q.2.2.1];exact⟨.z,.inr rfl⟩
 ·rw [aM (by omega),aM (by omega),aM (by omega),aM (by omega),aM (by omega),aX o]
  have e:=Km o hk
  subst e
  exact⟨fun r hr=>ha r ((lD eE a).mem_iff.1 ((u8 _ _).1 hr)),.inl rfl⟩
 ·rw [aM (by omega),aM (by omega),aM (by omega),aM (by omega),aM (by omega),aM (by omega),aX o]
  obtain⟨p1,p2,p3⟩:=Rc (by omega) o hk
  refine⟨?_,.inl rfl⟩
  intro r hr
  rcases Aa.1 hr with q|q
  ·refine(ha r q).as p2 fun j x z h1 h2=>?_
   have hj:j<kb.length:=by
    have:=jL.1 h1
    obtain⟨h,_⟩:=this
    omega
   exact(p3 j x kb[j] z h1 (ox hj) h2).1
  ·refine(hb r q).as (by omega) fun j y z h1 h2=>?_
   have hj:j<ka.length:=by
    have:=jL.1 h1
    obtain⟨h,_⟩:=this
    omega
   exact(p3 j ka[j] y z (ox hj) h1 h2).2
 ·rw [aM (by omega),aM (by omega),aM (by omega),aM (by omega),aM (by omega),aM (by omega),aM (by omega)]
  obtain⟨p1,_⟩:=NU hn.small o hk
  subst p1
  exact⟨fun r hr=>ha r ((lD _ a).mem_iff.1 (Sb hr)),.inl rfl⟩
theorem OF{ka kb:List Int}{a b:List cA}(hn:zh n)(hop:FI n.Op=true)(hk:bq n ka kb=some (k,true))(hka:ka.length≤16)(hkb:kb.length≤16)(hsc:HP base n k)(ha:rm ka a)(hb:rm kb b)(hal:a.length≤8000):
  rm k (uj n base a b kb.length).1∧(uj n base a b kb.length).1.length≤8000∧((uj n base a b kb.length).2=0∨uj n base a b kb.length=([],3)∨(uj n base a b kb.length=([],140)∧HC n=true)):=by
 obtain⟨p1,p2⟩:=NT hn hop hk hka hkb hsc ha hb hal
 unfold uj F8
 by_cases h0:(u7 n base a b kb.length).2=0
 ·rw [aM (by simpa using h0)]
  by_cases hl:8000<(u7 n base a b kb.length).1.length
  ·rw [aX hl]
   exact⟨(fun r hr=>by cases hr),by simp,.inr (.inl rfl)⟩
  ·rw [aM hl]
   by_cases h8:n.Op=8
   ·rw [aX h8]
    exact⟨p1,by show(u7 n base a b kb.length).1.length≤8000;omega,.inl rfl⟩
   ·rw [aM h8]
    exact⟨p1.perm (lD _ _).symm,by show(wA _).length≤8000;rw [xQ];omega,.inl rfl⟩
 ·rw [aX h0]
  refine⟨(fun r hr=>by cases hr),by simp,?_⟩
  rcases p2 with q|q|q
  ·exact absurd q h0
  ·rw [q];exact .inr (.inl rfl)
  ·rw [q.1];exact .inr (.inr ⟨rfl,q.2⟩)

def Dv{α:Type}(l:List (List α))(i:Int):List α:=if i<0 then []else(l[i.toNat]?).getD []
def Xl(ks:Nat→List Int)(i:Int):Nat:=(if i<0 then []else ks i.toNat).length
def xc(base:cB)(ks:Nat→List Int):List ak→List (List cA)→List (List cA)×Int
 |[],rows=>(rows,0)
 |n::t,rows=>if(uj n base (Dv rows n.A) (Dv rows n.B) (Xl ks n.B)).2≠0 then([],(uj n base (Dv rows n.A) (Dv rows n.B) (Xl ks n.B)).2)else xc base ks t (rows++[(uj n base (Dv rows n.A) (Dv rows n.B) (Xl ks n.B)).1])
def EQ(rows:List (List cA)):List cA:=(rows[rows.length-1]?).getD []
def PO(r:List (List cA)×Int):List cA×Int:=if r.2≠0 then([],r.2)else(EQ r.1,0)
def sM(l:bE)(base:cB)(ks:Nat→List Int):List cA×Int:=PO (xc base ks l.Nodes [])
structure Gc(ks:Nat→List Int)(rows:List (List cA))(i:Nat):Prop where
 len:rows.length=i
 ok: ∀j,j<i→rm (ks j) ((rows[j]?).getD [])∧((rows[j]?).getD []).length≤8000
theorem N5{i:Int}(h:0≤i)(h2:i<(rows.length:Int)):cR rows i=some (Dv rows i):=by
 obtain⟨k,hk⟩:=DH h
 subst hk
 have hk:k<rows.length:=by omega
 unfold Dv
 rw [bW,aM (by omega)]
 simp [hk]
theorem Gc.at{ks:Nat→List Int}(h:Gc ks rows i)(hx:x= -1∨0≤x∧x<(i:Int)):rm (if x<0 then []else ks x.toNat) (Dv rows x)∧(Dv rows x).length≤8000:=by
 unfold Dv
 rcases hx with q|q
 ·rw [aX (by omega),aX (by omega)]
  exact⟨(fun r hr=>by cases hr),by simp⟩
 ·rw [aM (by omega),aM (by omega)]
  exact h.ok x.toNat (by omega)
structure ze(l:bE)(base:cB)(sz:Nat→Nat)(ks:Nat→List Int):Prop where
 known:Hk l sz ks
 right:lg l=true
 nodes: ∀n∈l.Nodes,zh n
 scan: ∀(j:Nat) (n:ak),cR l.Nodes (j:Int)=some n→HP base n (ks j)
theorem ze.small{ks:Nat→List Int}(T:ze l base sz ks):mP l:=fun n hn=>(T.nodes n hn).small
structure WK(l:bE)(base:cB)(ks:Nat→List Int)(rows:List (List cA))(j:Nat)(n:ak)(ka kb:List Int):Prop where
 g:zh n
 op:FI n.Op=true
 kinds:bq n ka kb=some (ks j,true)
 k16:(ks j).length≤16
 ka16:ka.length≤16
 kb16:kb.length≤16
 scan:HP base n (ks j)
 a:rm ka (Dv rows n.A)
 al:(Dv rows n.A).length≤8000
 b:rm kb (Dv rows n.B)
 bl:(Dv rows n.B).length≤8000
 w:Xl ks n.B=kb.length
 ia:n.Op≠1→cR rows n.A=some (Dv rows n.A)
 ib:n.Op=2∨n.Op=7→cR rows n.B=some (Dv rows n.B)∧0≤n.B∧n.B<(j:Int)
theorem V7{ks:Nat→List Int}(T:ze l base sz ks)(hj:j<l.Nodes.length)(I:Gc ks rows j): ∃n,cR l.Nodes (j:Int)=some n∧WK l base ks rows j n (if n.A<0 then []else ks n.A.toNat) (if n.B<0 then []else ks n.B.toNat):=by
 obtain⟨n,F⟩:=T.known.all j hj
 have hmem:n∈l.Nodes:=by
  have:=F.node
  rw [bW]at this
  exact qU this
 obtain⟨pA,pB⟩:=q8 F
 have h16: ∀x:Int,(x= -1∨0≤x∧x<(j:Int))→(if x<0 then([]:List Int)else ks x.toNat).length≤16:=by
  intro x hx
  rcases hx with q|q
  ·rw [aX (by omega)];simp
  ·rw [aM (by omega)]
   obtain⟨m,Fm⟩:=T.known.all x.toNat (by omega)
   exact Fm.len
 refine⟨n,F.node,⟨T.nodes n hmem,F.op,F.kinds,F.len,h16 _ pA,h16 _ pB,T.scan j n F.node,(I.at pA).1,(I.at pA).2,(I.at pB).1,(I.at pB).2,rfl,?_,?_⟩⟩
 ·intro h1
  have:0≤n.A∧n.A<(rows.length:Int):=by
   rw [I.len]
   by_cases h27:n.Op=2∨n.Op=7
   ·have:=F.bi h27;omega
   ·have:=F.un h1 (fun h=>h27 (.inl h)) (fun h=>h27 (.inr h));omega
  exact N5 this.1 this.2
 ·intro h27
  have:=F.bi h27
  have hb:0≤n.B∧n.B<(j:Int):=by omega
  exact⟨N5 hb.1 (by rw [I.len];exact hb.2),hb⟩
abbrev abI:=cW→ak→Option ((List cA×Int)×cW)
def Rj:List (Int×abI):=cY (cY (cY (cY (cY (cY (cY (cY ([]:List (Int×(cW→ak→Option (((List (List ac))×Int)×cW)))) (1:Int) (fun(mc:cW) (mx:ak)=>(kM mc mx).map fun mr=>(mr,mc))) (2:Int) (fun(mc:cW) (mx:ak)=>(jA mc mx).map fun mr=>(mr,mc))) (3:Int) (fun(mc:cW) (mx:ak)=>(jt mc mx).map fun mr=>(mr,mc))) (4:Int) (fun(mc:cW) (mx:ak)=>(iT mc mx).map fun mr=>(mr,mc))) (5:Int) (fun(mc:cW) (mx:ak)=>(iS mc mx).map fun mr=>(mr,mc))) (6:Int) (fun(mc:cW) (mx:ak)=>(iv mc mx).map fun mr=>(mr,mc))) (7:Int) (fun(mc:cW) (mx:ak)=>(j4 mc mx).map fun mr=>(mr,mc))) (8:Int) (fun(mc:cW) (mx:ak)=>(j5 mc mx).map fun mr=>(mr,mc))
theorem Zl(hr:RK ks r)(h: ∀o∈n.Order,0≤o.Col∧o.Col<(ks.length:Int)):V5 n.Order r=true:=by
 unfold V5
 rw [jx]
 intro o ho
 have:=h o ho
 rw [←hr.len]at this
 simp [this.1,this.2]
theorem Pw{ks:Nat→List Int}{ka kb:List Int}(M:WK l base ks rows j n ka kb)(ob:cW)(hB:ob.Base=base)(hR:ob.rows=rows)(hW: ∀i:Int,0≤i→i<(j:Int)→cR ob.width i=some (Xl ks i:Int)):((kD Rj n.Op).getD fun _ _=>none) ob n=some (u7 n base (Dv rows n.A) (Dv rows n.B) kb.length,ob):=by
 unfold Rj
 rw [Rh]
 have hk:=M.kinds
 unfold u7
 have hsm:=M.a.small M.ka16 M.al
 rcases qm M.op with o|o|o|o|o|o|o|o
 ·rw [aX o,aX o]
  obtain⟨_,t1,t2⟩:=Ie o hk
  obtain⟨s1,s2,s3⟩:=M.scan o
  show(kM ob n).map _=_
  unfold kM
  have:cR base.Tables n.Table=some (kS base n):=by
   unfold kS
   rw [gJ n.Table.toNat (by omega),ox s1]
   rfl
  rw [hB,this]
  rfl
 ·rw [aM (by omega),aX o,aM (by omega),aX o]
  obtain⟨e,ht⟩:=NV o hk
  have hj:O5 n ka kb:=⟨M.g.cond,xO ht,M.ka16,M.kb16⟩
  obtain⟨b1,b2,b3⟩:=M.ib (.inl o)
  show(jA ob n).map _=_
  rw [TV hj M.a M.b M.al M.bl ob (by rw [hR];exact M.ia (by omega)) (by rw [hR];exact b1) (by rw [hW n.B b2 b3,M.w])]
  rfl
 ·rw [aM (by omega),aM (by omega),aX o,aM (by omega),aM (by omega),aX o]
  obtain⟨e,ht⟩:=GK o hk
  show(jt ob n).map _=_
  unfold jt
  rw [hR,M.ia (by omega),ba,BT M.g.cond (xO ht) _ [] M.a (by have:=M.al;simp only [oC];omega)]
  rfl
 ·rw [aM (by omega),aM (by omega),aM (by omega),aX o,aM (by omega),aM (by omega),aM (by omega),aX o]
  obtain⟨p1,p2,p3,p4⟩:=Kl M.g.small o hk
  have hg:Lm n ka:=⟨p1,fun g hg=>⟨M.g.args g hg,p2 g hg⟩,M.ka16,by omega,M.g.small.aggs⟩
  show(iT ob n).map _=_
  rw [Rz hg M.a M.al ob (by rw [hR];exact M.ia (by omega))]
  rfl
 ·rw [aM (by omega),aM (by omega),aM (by omega),aM (by omega),aX o,aM (by omega),aM (by omega),aM (by omega),aM (by omega),aX o]
  obtain⟨p1,p2⟩:=EJ M.g.small o hk
  show(iS ob n).map _=_
  unfold iS
  rw [hR,M.ia (by omega),ba,NN (fun e he=>⟨M.g.items e he,p1 e he⟩) (by have:=M.g.small.items;omega) _ [] M.a (by have:=M.al;simp only [oC];omega)]
  rfl
 ·rw [aM (by omega),aM (by omega),aM (by omega),aM (by omega),aM (by omega),aX o,aM (by omega),aM (by omega),aM (by omega),aM (by omega),aM (by omega),aX o]
  show(iv ob n).map _=_
  unfold iv
  rw [hR,M.ia (by omega),ba,C2 hsm,M.a.allr M.ka16]
  rfl
 ·rw [aM (by omega),aM (by omega),aM (by omega),aM (by omega),aM (by omega),aM (by omega),aX o,aM (by omega),aM (by omega),aM (by omega),aM (by omega),aM (by omega),aM (by omega),aX o]
  obtain⟨b1,b2,b3⟩:=M.ib (.inr o)
  show(j4 ob n).map _=_
  unfold j4
  rw [hR,M.ia (by omega),ba,b1,ba,No _ _ M.al M.bl]
  rfl
 ·rw [aM (by omega),aM (by omega),aM (by omega),aM (by omega),aM (by omega),aM (by omega),aM (by omega),aX o,aM (by omega),aM (by omega),aM (by omega),aM (by omega),aM (by omega),aM (by omega),aM (by omega)]
  obtain⟨p1,p2⟩:=NU M.g.small o hk
  show(j5 ob n).map _=_
  unfold j5
  have ho:Nk n.Order (Dv rows n.A):=⟨fun r hr=>(M.a r hr).right M.ka16,fun r hr=>Zl (M.a r hr) p2⟩
  rw [hR,M.ia (by omega),ba,B0 ho (by have:=M.al;omega)]
  rfl
theorem Gc.next{ks:Nat→List Int}(h:Gc ks rows i){r:List cA}(hr:rm (ks i) r)(hl:r.length≤8000):Gc ks (rows++[r]) (i+1):=by
 have hlen:=h.len
 refine⟨by simp [hlen],fun j hj=>?_⟩
 by_cases hji:j<i
 ·rw [Af (by omega)]
  exact h.ok j hji
 ·have:j=i:=by omega
  subst this
  rw [tH (by omega),hlen]
  simpa using ⟨hr,hl⟩
theorem JF{l:bE}{base:cB}{sz:Nat→Nat}{ks:Nat→List Int}(T:ze l base sz ks): ∀(tl:List ak) (i:Nat) (rows:List (List cA)),l.Nodes.drop i=tl→i≤l.Nodes.length→Gc ks rows i→((xc base ks tl rows).2=0→Gc ks (xc base ks tl rows).1 l.Nodes.length)∧((xc base ks tl rows).2=0∨(xc base ks tl rows).2=3∨((xc base ks tl rows).2=140∧l.Nodes.any HC=true))
 |[],i,rows,hd,hi,I=>by
  have h1:=tg hd
  have h2:i=l.Nodes.length:=by omega
  unfold xc
  exact⟨fun _=>h2▸I,.inl rfl⟩
 |n::t,i,rows,hd,hi,I=>by
  obtain⟨h1,h2,h3⟩:=kw hd
  obtain⟨n',hn',M⟩:=V7 T h2 I
  rw [h1]at hn'
  injection hn' with hn'
  subst hn'
  obtain⟨c1,c2,c3⟩:=OF (base:=base) M.g M.op M.kinds M.ka16 M.kb16 M.scan M.a M.b M.al
  unfold xc
  rw [M.w]
  by_cases h0:(uj n base (Dv rows n.A) (Dv rows n.B) (if n.B<0 then []else ks n.B.toNat).length).2=0
  ·rw [aM (by simp [h0])]
   exact JF T t (i+1) _ h3 h2 (I.next c1 c2)
  ·rw [aX h0]
   refine⟨fun h=>absurd h h0,?_⟩
   rcases c3 with q|q|q
   ·exact absurd q h0
   ·rw [q];exact .inr (.inl rfl)
   ·rw [q.1]
    refine .inr (.inr ⟨rfl,sC.2 ⟨n,?_,q.2⟩⟩)
    rw [bW]at h1
    exact qU h1



def KG:List ac→List Int→Bool
 |v::t,k::ks=>(fF v&&(v.Kind==0||v.Kind==k))&&KG t ks
 |[],_=>true
 |_::_,[]=>false
def RH(kinds:List Int)(r:cA):Bool:=decide (r.length=kinds.length)&&KG r kinds
def GX(rows:List cA)(kinds:List Int):Bool:=decide (rows.length≤12)&&rows.all (RH kinds)
theorem EZ(kinds:List Int)(nx:Option Bool)(r:cA)(hl:r.length=kinds.length): ∀(n i:Nat),r.length-i=n→i≤r.length→lU kinds nx (r.drop i) i=if KG (r.drop i) (kinds.drop i)then nx else some false
 |0,i,h,hi=>by
  rw [DA (by omega)]
  unfold lU KG
  rfl
 |n+1,i,h,hi=>by
  have hlt:i<r.length:=by omega
  have hlk:i<kinds.length:=by omega
  rw [wz hlt,wz hlk]
  unfold lU KG
  rw [EZ kinds nx r hl n (i+1) (by omega) (by omega),nG,ba,bW,ox hlk]
  simp only [ba]
  have e:(r[i].Kind==0)= !(r[i].Kind !=0):=by rw [bne,Bool.not_not]
  have e2:(r[i].Kind==kinds[i])= !(r[i].Kind !=kinds[i]):=by rw [bne,Bool.not_not]
  rw [e,e2]
  cases fF r[i]<;>cases (r[i].Kind !=0)<;>cases (r[i].Kind !=kinds[i])<;>simp
theorem abS(a b:Nat):((a:Int) !=(b:Int))= !decide (a=b):=by
 rw [zk];simp;omega
theorem E0(kinds:List Int): ∀rows:List cA,lV kinds rows=some (rows.all (RH kinds))
 |[]=>rfl
 |r::t=>by
  unfold lV
  rw [abS,yB,RH,E0 kinds t]
  by_cases h:r.length=kinds.length
  ·have:=EZ kinds (some (t.all (RH kinds))) r h r.length 0 rfl (lw _)
   rw [yC,yC]at this
   rw [wH h,this]
   cases KG r kinds<;>simp
  ·rw [ww h];simp
theorem E9(rows:List cA)(kinds:List Int):rf rows kinds=some (GX rows kinds):=by
 unfold rf GX
 rw [E0]
 by_cases h:rows.length≤12
 ·rw [aM (by rw [kI];omega),wH h];rfl
 ·rw [aX (by rw [kI];omega),ww h];rfl
end Go.Proofs.YtfhhakidodmdfaaGreatDoor

