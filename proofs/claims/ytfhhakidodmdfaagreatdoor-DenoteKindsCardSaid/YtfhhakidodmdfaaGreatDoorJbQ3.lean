/- db of this claim: L5, L6, L7, L8, L9, L10, L11, L12, L13, L14, J5, J6, J7, J8, J9, J10, J11, Q1, Q2. -/
import Derived.Test.YtfhhakidodmdfaaGreatDoorJbQ2
import Derived.Test.YtfhhakidodmdfaaGreatDoorJbQ1
import Derived.Laws.RangeAny
import Derived.Shelf.Strings.CaseAny
set_option linter.all false
namespace Go.Proofs.YtfhhakidodmdfaaGreatDoor
open Go

def Ez(op:Int):Bool:=decide (1≤op)&&decide (op≤8)
theorem pr{op:Int}(h:Ez op=true):op=1∨op=2∨op=3∨op=4∨op=5∨op=6∨op=7∨op=8:=by
 simp [Ez]at h;omega
def zD(n:am):Bool:=(ss n).getD false
variable{n:am}
theorem pQ(n:am):ss n=some (zD n):=by
 unfold zD ss
 repeat' split
 all_goals rfl
variable{l:bN}{α:Type}
theorem ab2(l:List α):((l.length:Int)==0)=l.isEmpty:=by cases l<;>simp<;>omega
theorem Rf(l:List α):decide ((0:Int)<(l.length:Int))= !l.isEmpty:=by cases l<;>simp<;>omega
variable{r:cM}
theorem QV(n:am)(h:Ez n.Op=true):((s5 n).bind fun r=>(s4 r).bind fun r1=>some r1)=some (zD n):=by
 obtain⟨op,A,B,V5,kinds,left,cond,keys,aggs,items,order,limit⟩:=n
 unfold zD ss s5 s4
 simp only [ab2,Rf]
 rcases pr h with h|h|h|h|h|h|h|h<;>simp only at h<;>subst h<;>simp<;>(try (by_cases t:V5=0<;>simp [t]))<;>(try (by_cases lm:limit=0<;>simp [lm]))<;>(try (cases left<;>simp))<;>(try (by_cases e1:kinds=[]<;>simp [e1]))<;>(try (by_cases e2:cond.Nodes=[]<;>simp [e2]))<;>(try (by_cases e3:keys=[]<;>simp [e3]))<;>(try (by_cases e4:aggs=[]<;>simp [e4]))<;>(try (by_cases e5:items=[]<;>simp [e5]))<;>(try (by_cases e6:order=[]<;>simp [e6]))
variable{e:br}{k:List Int}
theorem Rb{β:Type}(f1 f2 f3 f4 f5 f6 f7 f8:β)(k:Int):o6 (du (du (du (du (du (du (du (du ([]:List (Int×β)) 1 f1) 2 f2) 3 f3) 4 f4) 5 f5) 6 f6) 7 f7) 8 f8) k=
  if k=1 then some f1 else if k=2 then some f2 else if k=3 then some f3 else if k=4 then some f4 else if k=5 then some f5 else if k=6 then some f6 else if k=7 then some f7 else if k=8 then some f8 else none:=by
 have e:du (du (du (du (du (du (du (du ([]:List (Int×β)) 1 f1) 2 f2) 3 f3) 4 f4) 5 f5) 6 f6) 7 f7) 8 f8=[(1,f1),(2,f2),(3,f3),(4,f4),(5,f5),(6,f6),(7,f7),(8,f8)]:=rfl
 rw [e]
 simp only [o6,eq_comm (b:=k)]
theorem EL(op:Int):tX op=some (if op=1 then 0 else if op=2∨op=7 then 2 else 1):=by
 unfold tX pX
 by_cases h1:op=1
 ·simp [h1]
 by_cases h2:op=2
 ·simp [h2]
 by_cases h7:op=7
 ·simp [h7]
 simp [h1,h2,h7]
theorem lL(op:Int):wY op=some (if op=1 then 0 else if op=2∨op=7 then 2 else if Ez op then 1 else -1):=by
 unfold wY sT lK
 by_cases h:Ez op=true
 ·rcases pr h with rfl|rfl|rfl|rfl|rfl|rfl|rfl|rfl<;>rfl
 ·have h' : ¬(1≤op∧op≤8):=fun hh=>h (by simp [Ez];omega)
  have h1: ¬op=1:=by omega
  have h2: ¬op=2:=by omega
  have h3: ¬op=3:=by omega
  have h4: ¬op=4:=by omega
  have h5: ¬op=5:=by omega
  have h6: ¬op=6:=by omega
  have h7: ¬op=7:=by omega
  have h8: ¬op=8:=by omega
  simp [h1,h2,h3,h4,h5,h6,h7,h8,h]
structure Nb(l:bN)(j:Nat)(f:Int)(ks:List Int)(s:Nat):Prop where
 pos:1≤s
 le:s≤j+1
 fst:f=(j:Int)+1-(s:Int)
 size: ∀fu,j+1<fu→bU fu l (j:Int)=some (s:Int)
 len:ks.length≤16
 kinds: ∀fu,j+1<fu→cg fu l (j:Int)=some (ks,true)
structure Lo(l:bN)(i:Nat)(first:List Int)(kinds:List (List Int)):Prop where
 fl:first.length=i
 kl:kinds.length=i
 node: ∀j,j<i→ ∃f ks s,first[j]? =some f∧kinds[j]? =some ks∧Nb l j f ks s
variable{first:List Int}{i j:Nat}{ks:List Int}
theorem Lo.push{kinds:List (List Int)}(h:Lo l i first kinds){f:Int}{s:Nat}(hn:Nb l i f ks s):Lo l (i+1) (first++[f]) (kinds++[ks]):=by
 refine⟨by simp [h.fl],by simp [h.kl],fun j hj=>?_⟩
 by_cases hji:j=i
 ·subst hji
  refine⟨f,ks,s,?_,?_,hn⟩
  ·rw [ur (by rw [h.fl];exact dK _),h.fl,ze];rfl
  ·rw [ur (by rw [h.kl];exact dK _),h.kl,ze];rfl
 ·obtain⟨f',ks',s',h1,h2,h3⟩:=h.node j (by omega)
  exact⟨f',ks',s',by rw [Bx (by rw [h.fl];omega)];exact h1,by rw [Bx (by rw [h.kl];omega)];exact h2,h3⟩
def OQ(n:am)(i:Nat):Prop:=
 (n.Op=1→n.A= -1∧n.B= -1)∧(n.Op≠1→0<i∧0≤n.A∧n.A<i)∧(n.Op=2∨n.Op=7→n.B=(i:Int)-1)∧(n.Op≠1→n.Op≠2→n.Op≠7→n.B= -1)
variable{p:Nat}
theorem uQ(l:bN){fu:Nat}(hf:0<fu){p:Int}(h:p<0):bU fu l p=some 0:=by
 obtain⟨fu,rfl⟩: ∃k,fu=k+1:=⟨fu-1,by omega⟩
 unfold bU
 rw [aY (by simp [h])]
theorem MS{kinds:List (List Int)}(hI:Lo l i first kinds)(hn:cN l.Nodes (i:Int)=some n)(hi:i<l.Nodes.length)(hl:l.Nodes.length≤1000)(hop:Ez n.Op=true):
  ∃f ok,jI ⟨l,kinds,first⟩ (i:Int)=some (f,ok)∧((ok=true∧ ∃s:Nat,1≤s∧s≤i+1∧f=(i:Int)+1-(s:Int)∧(∀fu,i+1<fu→bU fu l (i:Int)=some (s:Int))∧OQ n i)∨(ok=false∧ ∀fu,i+1<fu→bU fu l (i:Int)=some 0)):=by
 have hstep: ∀fu,i+1<fu→ ∃fu',fu=fu' +1∧i<fu' :=fun fu h=>⟨fu-1,by omega,by omega⟩
 unfold jI
 simp only [hn,be,EL]
 by_cases h1:n.Op=1
 ·-- nothing below
  simp only [h1,eQ]
  rw [aY (by decide)]
  refine⟨_,_,rfl,?_⟩
  by_cases hAB:n.A= -1∧n.B= -1
  ·refine .inl ⟨by simp [hAB],1,dK _,by omega,by omega,fun fu hf=>?_,⟨fun _=>hAB,fun h=>absurd h1 h,fun h=>by omega,fun h=>absurd h1 h⟩⟩
   obtain⟨fu',rfl,_⟩:=hstep fu hf
   unfold bU
   rw [aM (by simp;omega),hn]
   simp only [be,lL,h1,eQ]
   rw [aY (by decide),aY (by simp [hAB])];rfl
  ·have hb:(n.A== -1&&n.B== -1)=false:=by rw [rA];intro h;apply hAB;simpa using h
   refine .inr ⟨hb,fun fu hf=>?_⟩
   obtain⟨fu',rfl,_⟩:=hstep fu hf
   unfold bU
   rw [aM (by simp;omega),hn]
   simp only [be,lL,h1,eQ]
   rw [aY (by decide),aM (by rw [hb];decide)]
 ·by_cases h27:n.Op=2∨n.Op=7
  ·-- two below
   simp only [h1,h27,eQ,ek]
   rw [aM (by decide),aM (by decide)]
   have hsz: ∀fu,i<fu→bU (fu+1) l (i:Int)=if n.B=(i:Int)-1 then((bU fu) l n.B).bind (fun r2=>if((decide ((0:Int)<r2))&&(n.A==(IntKind.i64.wrap (n.B-r2))))then(((bU fu) l n.A).bind fun r3=>if(decide ((0:Int)<r3))then(some (IntKind.i64.wrap ((IntKind.i64.wrap (r3+r2))+(1:Int))))else(some (0:Int)))else(some (0:Int)))else some 0:=by
    intro fu hfu
    conv=>lhs;unfold bU
    rw [aM (by simp;omega),hn]
    simp only [be,lL,h1,h27,eQ,ek]
    rw [aM (by decide),aM (by decide),aY (by decide),cn (n:=(i:Int)-1) (by omega) (by omega)]
    by_cases hB:n.B=(i:Int)-1
    ·rw [aY (by simp [hB]),aY hB]
    ·rw [aM (by simpa using hB),aM hB]
   by_cases hB:n.B=(i:Int)-1∧0<i
   ·have hcond:(!((n.B !=IntKind.i64.wrap ((i:Int)-1))||((i:Int)==0)))=true:=by
     rw [cn (by omega) (by omega)]
     have: ¬((i:Int)=0):=by omega
     simp [hB.1,this];omega
    rw [aY hcond]
    obtain⟨fB,kB,sB,g1,g2,g3⟩:=hI.node (i-1) (by omega)
    have hBi:n.B=((i-1:Nat):Int):=by omega
    have hidx:cN first n.B=some fB:=by rw [hBi,bZ];exact g1
    rw [hidx]
    have hfB:=g3.fst
    have hsB:=g3.pos
    have hsB2:=g3.le
    simp only [be]
    rw [cn (n:=fB-1) (by omega) (by omega)]
    by_cases hA:n.A=fB-1∧0≤n.A
    ·rw [aM (by simp [hA.1];omega)]
     obtain⟨fA,kA,sA,q1,q2,q3⟩:=hI.node n.A.toNat (by omega)
     have hidA:cN first n.A=some fA:=by
      rw [show n.A=((n.A.toNat:Nat):Int)from by omega,bZ];exact q1
     rw [hidA]
     have hfA:=q3.fst
     have hsA:=q3.pos
     have hsA2:=q3.le
     refine⟨fA,true,rfl,.inl ⟨rfl,sA+sB+1,by omega,by omega,by omega,fun fu hf=>?_,⟨fun h=>absurd h h1,fun _=>⟨hB.2,hA.2,by omega⟩,fun _=>hB.1,fun _ h2 h7=>by rcases h27 with h|h;exact absurd h h2;exact absurd h h7⟩⟩⟩
     obtain⟨fu',rfl,hf'⟩:=hstep fu hf
     rw [hsz fu' hf',aY hB.1]
     have e1:=g3.size fu' (by omega)
     rw [←hBi]at e1
     rw [e1]
     simp only [be]
     rw [cn (n:=n.B-(sB:Int)) (by omega) (by omega),aY (by simp;omega)]
     have e2:=q3.size fu' (by omega)
     rw [show((n.A.toNat:Nat):Int)=n.A from by omega]at e2
     rw [e2]
     simp only [be]
     rw [aY (by simp;omega),cn (n:=(sA:Int)+(sB:Int)) (by omega) (by omega),cn (by omega) (by omega)]
     congr 1
    ·have hb:(n.A !=fB-1||decide (n.A<0))=true:=by
      simp only [pH,qo,kO]
      by_cases h:n.A=fB-1
      ·exact .inr (by omega)
      ·exact .inl h
     rw [aY hb]
     refine⟨0,false,rfl,.inr ⟨rfl,fun fu hf=>?_⟩⟩
     obtain⟨fu',rfl,hf'⟩:=hstep fu hf
     rw [hsz fu' hf',aY hB.1]
     have e1:=g3.size fu' (by omega)
     rw [←hBi]at e1
     rw [e1]
     simp only [be]
     rw [cn (n:=n.B-(sB:Int)) (by omega) (by omega)]
     by_cases h:n.A=fB-1
     ·rw [aY (by simp;omega),uQ l (by omega) (by omega)]
      rfl
     ·rw [aM (by simp;omega)]
   ·have hcond:(!((n.B !=IntKind.i64.wrap ((i:Int)-1))||((i:Int)==0)))=false:=by
     rw [cn (by omega) (by omega)]
     by_cases h:n.B=(i:Int)-1
     ·have:i=0:=by omega
      simp [this]
     ·simp [h]
    rw [hcond]
    simp only [gp,ek,be,Bool.true_or,eQ]
    refine⟨0,false,rfl,.inr ⟨rfl,fun fu hf=>?_⟩⟩
    obtain⟨fu',rfl,hf'⟩:=hstep fu hf
    rw [hsz fu' hf']
    by_cases h:n.B=(i:Int)-1
    ·rw [aY h]
     rw [uQ l (by omega) (by omega)]
     rfl
    ·rw [aM h]
  ·-- one below
   simp only [h1,h27,ek]
   rw [aM (by decide),aY (by decide)]
   have hsz: ∀fu,i<fu→bU (fu+1) l (i:Int)=if n.A=(i:Int)-1∧n.B= -1 then((bU fu) l n.A).bind (fun r1=>if(decide ((0:Int)<r1))then(some (IntKind.i64.wrap (r1+(1:Int))))else(some (0:Int)))else some 0:=by
    intro fu hfu
    conv=>lhs;unfold bU
    rw [aM (by simp;omega),hn]
    simp only [be,lL,h1,h27,hop,eQ,ek]
    rw [aM (by decide),aY (by decide),cn (n:=(i:Int)-1) (by omega) (by omega)]
    by_cases hB:n.A=(i:Int)-1∧n.B= -1
    ·rw [aY (by simp [hB]),aY hB]
    ·rw [aM (by simpa using hB),aM hB]
   rw [cn (by omega) (by omega)]
   by_cases hA:(n.A=(i:Int)-1∧n.B= -1)∧0<i
   ·rw [aM (by simp [hA.1];omega)]
    obtain⟨fA,kA,sA,g1,g2,g3⟩:=hI.node (i-1) (by omega)
    have hAi:n.A=((i-1:Nat):Int):=by omega
    have hidx:cN first n.A=some fA:=by rw [hAi,bZ];exact g1
    rw [hidx]
    have hfA:=g3.fst
    have hsA:=g3.pos
    have hsA2:=g3.le
    refine⟨fA,true,rfl,.inl ⟨rfl,sA+1,by omega,by omega,by omega,fun fu hf=>?_,⟨fun h=>absurd h h1,fun _=>⟨hA.2,by omega,by omega⟩,fun h=>absurd h h27,fun _ _ _=>hA.1.2⟩⟩⟩
    obtain⟨fu',rfl,hf'⟩:=hstep fu hf
    rw [hsz fu' hf',aY hA.1]
    have e1:=g3.size fu' (by omega)
    rw [←hAi]at e1
    rw [e1]
    simp only [be]
    rw [aY (by simp;omega),cn (by omega) (by omega)]
    rfl
   ·have hb:(n.A !=(i:Int)-1||n.B != -1||(i:Int)==0)=true:=by
     simp only [pH,qo,qZ]
     by_cases h:n.A=(i:Int)-1
     ·by_cases h' :n.B= -1
      ·exact .inr (by omega)
      ·exact .inl (.inr h')
     ·exact .inl (.inl h)
    rw [aY hb]
    refine⟨0,false,rfl,.inr ⟨rfl,fun fu hf=>?_⟩⟩
    obtain⟨fu',rfl,hf'⟩:=hstep fu hf
    rw [hsz fu' hf']
    by_cases h:n.A=(i:Int)-1∧n.B= -1
    ·rw [aY h,uQ l (by omega) (by omega)]
     rfl
    ·rw [aM h]
theorem Mr{kinds:List (List Int)}(hI:Lo l i first kinds)(hn:cN l.Nodes (i:Int)=some n)(hl:l.Nodes.length≤1000)(hi:i<l.Nodes.length){s:Nat}(hs:1≤s)(hsz: ∀fu,i+1<fu→bU fu l (i:Int)=some (s:Int))(hp:OQ n i)(ho:zD n=true)(hop:Ez n.Op=true):
  ∃a b,(n.Op≠1→cN kinds n.A=some a)∧(n.Op=2∨n.Op=7→cN kinds n.B=some b)∧a.length≤16∧b.length≤16∧ ∀fu,i+1<fu→cg fu l (i:Int)=gH l (i:Int) n a b:=by
 obtain⟨p1,p2,p3,p4⟩:=hp
 have hsz0:kw l (i:Int)=some (s:Int):=hsz gX (wE (Dx _) (my (by omega)))
 have hu: ∀fu,cg (fu+1) l (i:Int)=if(decide ((0:Int)≤n.A))then(((cg fu) l n.A).bind fun r4=>if(!r4.2)then(some ([],false))else(ez (cg fu) l (i:Int) n r4.1))else(ez (cg fu) l (i:Int) n ([])):=by
  intro fu
  conv=>lhs;unfold cg
  rw [hsz0,hn]
  simp only [be,pQ,ho]
  have: ¬(s=0):=by omega
  simp [this]
 by_cases h1:n.Op=1
 ·obtain⟨hA,hB⟩:=p1 h1
  refine⟨[],[],fun h=>absurd h1 h,fun h=>by omega,by simp,by simp,fun fu hf=>?_⟩
  obtain⟨fu,rfl⟩: ∃k,fu=k+1:=⟨fu-1,by omega⟩
  rw [hu,aM (by simp [hA])]
  unfold ez
  rw [aM (by simp [hB])]
 ·obtain⟨hi0,hA0,hAi⟩:=p2 h1
  obtain⟨fA,kA,sA,g1,g2,g3⟩:=hI.node n.A.toNat (by omega)
  have eA:((n.A.toNat:Nat):Int)=n.A:=by omega
  have hkA:cN kinds n.A=some kA:=by rw [←eA,bZ];exact g2
  by_cases h27:n.Op=2∨n.Op=7
  ·have hB:=p3 h27
   obtain⟨fB,kB,sB,q1,q2,q3⟩:=hI.node (i-1) (by omega)
   have eB:((i-1:Nat):Int)=n.B:=by omega
   have hkB:cN kinds n.B=some kB:=by rw [←eB,bZ];exact q2
   refine⟨kA,kB,fun _=>hkA,fun _=>hkB,g3.len,q3.len,fun fu hf=>?_⟩
   obtain⟨fu,rfl⟩: ∃k,fu=k+1:=⟨fu-1,by omega⟩
   rw [hu,aY (by simpa using hA0)]
   have e1:=g3.kinds fu (by omega)
   rw [eA]at e1
   rw [e1]
   simp only [be,mS,gp,ek]
   unfold ez
   rw [aY (by simp;omega)]
   have e2:=q3.kinds fu (by omega)
   rw [eB]at e2
   rw [e2]
   simp only [be,mS,gp,ek]
  ·have hB:=p4 h1 (fun h=>h27 (.inl h)) (fun h=>h27 (.inr h))
   refine⟨kA,[],fun _=>hkA,fun h=>absurd h h27,g3.len,by simp,fun fu hf=>?_⟩
   obtain⟨fu,rfl⟩: ∃k,fu=k+1:=⟨fu-1,by omega⟩
   rw [hu,aY (by simpa using hA0)]
   have e1:=g3.kinds fu (by omega)
   rw [eA]at e1
   rw [e1]
   simp only [be,mS,gp,ek]
   unfold ez
   rw [aM (by simp [hB])]
theorem EQ(hn:cN l.Nodes (i:Int)=some n)(hl:i<1000)(h:(∀fu,i+1<fu→bU fu l (i:Int)=some 0)∨((∃s:Int,∀fu,i+1<fu→bU fu l (i:Int)=some s)∧zD n=false)):q9 l (i:Int)=some ([],false):=by
 have hF:i+1<gX:=wE (Dx _) (my (by omega))
 have e:gX=(gX-1)+1:=by omega
 unfold q9
 rw [e]
 unfold cg kw
 rcases h with h|⟨⟨s,h⟩,ho⟩
 ·rw [h _ hF];simp
 ·rw [h _ hF,hn]
  simp only [be,pQ,ho]
  by_cases hs:s=0<;>simp [hs]

def mP(l:bN):Prop:= ∀n∈l.Nodes,iy n
abbrev abS:=aE→am→Option (((List Int)×Bool)×aE)
def CC:List (Int×abS):=(du (du (du (du (du (du (du (du ([]:List (Int×(aE→am→Option (((List Int)×Bool)×aE)))) (1:Int) (fun(mc:aE) (mx:am)=>(eX mc mx).map fun mr=>(mr,mc))) (2:Int) (fun(mc:aE) (mx:am)=>(gS mc mx).map fun mr=>(mr,mc))) (3:Int) (fun(mc:aE) (mx:am)=>(fT mc mx).map fun mr=>(mr,mc))) (4:Int) (fun(mc:aE) (mx:am)=>(gx mc mx).map fun mr=>(mr,mc))) (5:Int) (fun(mc:aE) (mx:am)=>(fy mc mx).map fun mr=>(mr,mc))) (6:Int) (fun(mc:aE) (mx:am)=>(eZ mc mx).map fun mr=>(mr,mc))) (7:Int) (fun(mc:aE) (mx:am)=>(gv mc mx).map fun mr=>(mr,mc))) (8:Int) (fun(mc:aE) (mx:am)=>(gw mc mx).map fun mr=>(mr,mc)))
theorem Rc(op:Int):(o6 CC op).isSome=Ez op:=by
 unfold CC
 rw [Rb]
 by_cases h:Ez op=true
 ·rw [h]
  rcases pr h with rfl|rfl|rfl|rfl|rfl|rfl|rfl|rfl<;>rfl
 ·rw [rA.2 h]
  have h' : ¬(1≤op∧op≤8):=fun hh=>h (by simp [Ez];omega)
  have h1: ¬op=1:=by omega
  have h2: ¬op=2:=by omega
  have h3: ¬op=3:=by omega
  have h4: ¬op=4:=by omega
  have h5: ¬op=5:=by omega
  have h6: ¬op=6:=by omega
  have h7: ¬op=7:=by omega
  have h8: ¬op=8:=by omega
  simp [h1,h2,h3,h4,h5,h6,h7,h8]
theorem Pr(c:aE)(n:am)(a b:List Int)(hn:iy n)(hop:Ez n.Op=true)(ha:n.Op≠1→cN c.kinds n.A=some a)(hb:n.Op=2∨n.Op=7→cN c.kinds n.B=some b)(hal:a.length≤16)(hbl:b.length≤16):
  ∃k o k',((o6 CC n.Op).getD (fun _ _=>none)) c n=some ((k,o&&(if n.Op=8 then(c.kinds.length:Int)==IntKind.i64.wrap ((c.Logic.Nodes.length:Int)-(1:Int))else true)),c)∧bo n a b=some (k',o)∧(o=true→k=k'):=by
 have go: ∀(m:Option (List Int×Bool)) (last:Bool),Bl m (bo n a b) last→((o6 CC n.Op).getD (fun _ _=>none)) c n=m.map (fun mr=>(mr,c))→(if n.Op=8 then(c.kinds.length:Int)==IntKind.i64.wrap ((c.Logic.Nodes.length:Int)-(1:Int))else true)=last→ ∃k o k',((o6 CC n.Op).getD (fun _ _=>none)) c n=some ((k,o&&(if n.Op=8 then(c.kinds.length:Int)==IntKind.i64.wrap ((c.Logic.Nodes.length:Int)-(1:Int))else true)),c)∧bo n a b=some (k',o)∧(o=true→k=k'):=by
  intro m last ⟨k,o,k',h1,h2,h3⟩ he hl
  exact⟨k,o,k',by rw [he,h1,hl];rfl,h2,h3⟩
 unfold CC at go ⊢
 rw [Rb]at go ⊢
 rcases pr hop with h|h|h|h|h|h|h|h
 ·exact go _ _ (BG c n a b hn h) (by simp [h]) (by simp [h])
 ·exact go _ _ (Px c n a b hn h (ha (by omega)) (hb (.inl h)) hal hbl) (by simp [h]) (by simp [h])
 ·exact go _ _ (Kz c n a b hn h (ha (by omega))) (by simp [h]) (by simp [h])
 ·exact go _ _ (Ms c n a b hn h (ha (by omega))) (by simp [h]) (by simp [h])
 ·exact go _ _ (HU c n a b hn h (ha (by omega))) (by simp [h]) (by simp [h])
 ·exact go _ _ (F6 c n a b h (ha (by omega))) (by simp [h]) (by simp [h])
 ·exact go _ _ (Lx c n a b h (ha (by omega)) (hb (.inr h)) hal) (by simp [h]) (by simp [h])
 ·exact go _ _ (Me c n a b hn h (ha (by omega))) (by simp [h]) (by simp [h])
variable{x:Int}
theorem Pp{Sg:Type}(yld:(Int×Bool)→Sg→Option (Bool×Sg)){kinds:List (List Int)}(hI:Lo l i first kinds){tl:List am}(hd:l.Nodes.drop i=n::tl)(hS:mP l)(hl:l.Nodes.length≤60)(st:Sg):
  ∃first' kinds' ok,bE yld (n::tl) i st ⟨l,kinds,first⟩=((yld ((i:Int),ok) st).bind fun r2=>if((!r2.1)||(!ok))then some (r2.2,⟨l,kinds',first'⟩)else bE yld tl (i+1) r2.2 ⟨l,kinds',first'⟩)∧(∃x,q9 l (i:Int)=some (x,ok))∧(ok=true→Lo l (i+1) first' kinds'):=by
 obtain⟨hn,hi,_⟩:=iN hd
 have hfl:=hI.fl
 have hkl:=hI.kl
 have hSn:iy n:=hS n (by
  rw [bZ]at hn
  exact rC hn)
 have hF:i+1<gX:=wE (Dx _) (my (by omega))
 have hu:bE yld (n::tl) i st ⟨l,kinds,first⟩=(if(o6 CC n.Op).isSome then((s5 n).bind fun r=>(s4 r).bind fun r1=>some r1)else some false).bind fun t=>if t then((jI ⟨l,kinds,first⟩ (i:Int)).bind fun r4=>(app first ([r4.1])).bind fun l7=>d5 yld (bE yld tl) i n st r4.2 ⟨l,kinds,l7⟩)else(d5 yld (bE yld tl) i n st t ⟨l,kinds,first⟩):=rfl
 rw [hu,Rc]
 have hk2: ∀(ok1:Bool) (k:List Int) (f' :List Int),gi yld (bE yld tl) i st ok1 k ⟨l,kinds,f'⟩=((yld ((i:Int),ok1&&decide (k.length≤16)) st).bind fun r2=>if((!r2.1)||(!(ok1&&decide (k.length≤16))))then some (r2.2,⟨l,kinds++[k],f'⟩)else bE yld tl (i+1) r2.2 ⟨l,kinds++[k],f'⟩):=by
  intro ok1 k f'
  unfold gi
  rw [cq (by simp;omega)]
  have:decide ((k.length:Int)≤16)=decide (k.length≤16):=by rw [Ac];simp;omega
  simp only [be,this]
 have hk1: ∀(f' :List Int),d5 yld (bE yld tl) i n st false ⟨l,kinds,f'⟩=((yld ((i:Int),false) st).bind fun r2=>if((!r2.1)||(!false))then some (r2.2,⟨l,kinds++[[]],f'⟩)else bE yld tl (i+1) r2.2 ⟨l,kinds++[[]],f'⟩):=by
  intro f'
  unfold d5
  rw [aM (by decide),hk2]
  rfl
 by_cases hop:Ez n.Op=true
 ·rw [aY hop,QV n hop]
  simp only [be]
  obtain⟨f,ok,hb1,hb2⟩:=MS hI hn hi (by omega) hop
  cases ho:zD n with
  |false=>
   simp only [gp,ek]
   rw [hk1]
   refine⟨first,kinds++[[]],false,rfl,⟨[],EQ hn (by omega) (.inr ⟨?_,ho⟩)⟩,by simp⟩
   rcases hb2 with⟨_,s,_,_,_,h,_⟩|⟨_,h⟩
   ·exact⟨s,h⟩
   ·exact⟨0,h⟩
  |true=>
   simp only [eQ]
   rw [hb1]
   simp only [be]
   rw [cq (by simp;omega)]
   simp only [be]
   rcases hb2 with⟨hok,s,hs,hs2,hf,hsz,hp⟩|⟨hok,h⟩
   ·subst hok
    obtain⟨a,b,ha,hb,hal,hbl,hK⟩:=Mr hI hn (by omega) hi hs hsz hp ho hop
    obtain⟨k,o,k',m1,m2,m3⟩:=Pr ⟨l,kinds,first++[f]⟩ n a b hSn hop ha hb hal hbl
    have hk1' :d5 yld (bE yld tl) i n st true ⟨l,kinds,first++[f]⟩=((((o6 CC n.Op).getD (fun _ _=>none)) ⟨l,kinds,first++[f]⟩ n).bind fun r3=>gi yld (bE yld tl) i st r3.1.2 r3.1.1 r3.2):=rfl
    rw [hk1',m1]
    simp only [be]
    rw [hk2]
    have hlast:((kinds.length:Int)==IntKind.i64.wrap ((l.Nodes.length:Int)-1))=((i:Int)==IntKind.i64.wrap ((l.Nodes.length:Int)-1)):=by rw [hkl]
    have hKk: ∀fu,i+1<fu→ ∃x,cg fu l (i:Int)=some (x,(o&&(if n.Op=8 then(kinds.length:Int)==IntKind.i64.wrap ((l.Nodes.length:Int)-(1:Int))else true))&&decide (k.length≤16))∧(((o&&(if n.Op=8 then(kinds.length:Int)==IntKind.i64.wrap ((l.Nodes.length:Int)-(1:Int))else true))&&decide (k.length≤16))=true→x=k):=by
     intro fu hf
     rw [hK fu hf]
     unfold gH
     rw [m2]
     simp only [be]
     rw [hlast]
     cases o with
     |false=>
      simp only [DC]
      split
      ·exact⟨_,rfl,by simp⟩
      ·exact⟨_,rfl,by simp⟩
     |true=>
      have:=m3 rfl
      subst this
      simp only [uo]
      by_cases h8:n.Op=8
      ·by_cases hL:(i:Int)=IntKind.i64.wrap ((l.Nodes.length:Int)-1)
       ·by_cases h16:k.length≤16
        ·rw [aM (by simp [←hL];omega)]
         exact⟨k,by simp [h8,hL,h16],fun _=>rfl⟩
        ·rw [aY (by simp;omega)]
         exact⟨[],by simp [h16],by simp [h16]⟩
       ·rw [aY (by simp [h8,hL])]
        exact⟨[],by simp [h8,hL],by simp [h8,hL]⟩
      ·by_cases h16:k.length≤16
       ·rw [aM (by simp [h8];omega)]
        exact⟨k,by simp [h8,h16],fun _=>rfl⟩
       ·rw [aY (by simp;omega)]
        exact⟨[],by simp [h16],by simp [h16]⟩
    refine⟨first++[f],kinds++[k],_,rfl,?_,fun hok=>?_⟩
    ·obtain⟨x,h1,_⟩:=hKk gX hF
     exact⟨x,h1⟩
    ·refine hI.push (s:=s) ⟨hs,hs2,hf,hsz,?_,fun fu hfu=>?_⟩
     ·simp at hok;exact hok.2
     ·obtain⟨x,h1,h2⟩:=hKk fu hfu
      rw [h1,h2 hok,hok]
   ·subst hok
    rw [hk1]
    exact⟨first++[f],kinds++[[]],false,rfl,⟨[],EQ hn (by omega) (.inl h)⟩,by simp⟩
 ·rw [aM hop]
  simp only [be,gp,ek]
  rw [hk1]
  refine⟨first,kinds++[[]],false,rfl,⟨[],EQ hn (by omega) (.inl fun fu hf=>?_)⟩,by simp⟩
  obtain⟨fu,rfl⟩: ∃k,fu=k+1:=⟨fu-1,by omega⟩
  unfold bU
  rw [aM (by simp;omega),hn]
  simp only [be,lL]
  have h1: ¬n.Op=1:=fun h=>hop (by rw [h];rfl)
  have h2: ¬n.Op=2:=fun h=>hop (by rw [h];rfl)
  have h7: ¬n.Op=7:=fun h=>hop (by rw [h];rfl)
  simp [h1,h2,h7,hop]
theorem TQ(hS:mP l)(hl:l.Nodes.length≤60): ∀(tl:List am) (i:Nat) (first:List Int) (kinds:List (List Int)),Lo l i first kinds→l.Nodes.drop i=tl→i+tl.length=l.Nodes.length→
  ∃st ob,bE (wp (fun x s=>oG x s.1 s.2.1 s.2.2)) tl i (none,(false,(0:Int),false)) ⟨l,kinds,first⟩=some (st,ob)∧ob.Logic=l∧
   ((st=(none,(false,(0:Int),false))∧Lo l l.Nodes.length ob.first ob.kinds∧fg l tl i=fg l [] l.Nodes.length)∨(∃j:Nat,st=(some 0,(false,(j:Int),true))∧fg l tl i=some (j:Int))):=by
 intro tl
 induction tl with
 |nil=>
  intro i first kinds hI hd hi
  simp only [pC,yq]at hi
  subst hi
  exact⟨_,_,rfl,rfl,.inl ⟨rfl,hI,rfl⟩⟩
 |cons n tl ih=>
  intro i first kinds hI hd hi
  simp only [iO]at hi
  obtain⟨f',k',ok,h1,⟨x,h2⟩,h3⟩:=Pp (wp (fun x s=>oG x s.1 s.2.1 s.2.2)) hI hd hS hl (none,(false,(0:Int),false))
  rw [h1]
  have hW:fg l (n::tl) i=if(!ok)then some (i:Int)else fg l tl (i+1):=by
   conv=>lhs;unfold fg
   rw [h2];rfl
  rw [hW]
  cases ok with
  |false=>exact⟨_,_,rfl,rfl,.inr ⟨i,rfl,rfl⟩⟩
  |true=>
   obtain⟨st,ob,g1,g2,g3⟩:=ih (i+1) f' k' (h3 rfl) (iN hd).2.2 (by omega)
   refine⟨st,ob,?_,g2,?_⟩
   ·exact g1
   ·simpa using g3
theorem Lo.nil(l:bN):Lo l 0 [] []:=⟨rfl,rfl,fun j h=>absurd h (Nat.not_lt_zero _)⟩
structure Nc(l:bN)(ob:aE):Prop where
 logic:ob.Logic=l
 pos:1≤l.Nodes.length
 le:l.Nodes.length≤60
 inv:Lo l l.Nodes.length ob.first ob.kinds
 whole:kw l ((l.Nodes.length:Int)-1)=some (l.Nodes.length:Int)
theorem TR(hS:mP l): ∃ob j ok,o7 l=some (ob,j,ok)∧q8 l=some (if ok then -1 else j)∧(0≤j)∧(ok=true→Nc l ob∧j=(l.Nodes.length:Int)-1):=by
 unfold o7 q8
 by_cases h:l.Nodes.length<1∨60<l.Nodes.length
 ·rw [aY (by simp;omega),aY (by simp;omega)]
  exact⟨_,_,_,rfl,rfl,Int.le_refl _,by simp⟩
 ·rw [aM (by simp;omega),aM (by simp;omega)]
  unfold pY
  simp only [be]
  unfold lA
  obtain⟨st,ob,h1,h2,h3⟩:=TQ hS (by omega) l.Nodes 0 [] [] (Lo.nil l) rfl (by simp)
  have h1' :bE (wp (fun x s=>oG x s.1 s.2.1 s.2.2)) (⟨l,[],[]⟩:aE).Logic.Nodes 0 (none,(false,(0:Int),false)) ⟨l,[],[]⟩=some (st,ob):=h1
  rw [h1']
  simp only [be]
  rcases h3 with⟨rfl,hI,hW⟩|⟨j,rfl,hW⟩
  ·simp only [Option.isNone_none,eQ]
   rw [cn (by omega) (by omega)]
   obtain⟨f,ks,s,g1,g2,g3⟩:=hI.node (l.Nodes.length-1) (by omega)
   have e:((l.Nodes.length-1:Nat):Int)=(l.Nodes.length:Int)-1:=by omega
   have hid:cN ob.first ((l.Nodes.length:Int)-1)=some f:=by rw [←e,bZ];exact g1
   rw [hid]
   simp only [be]
   have hsz:kw l ((l.Nodes.length:Int)-1)=some (s:Int):=by
    have:=g3.size gX (wE (Dx _) (my (by omega)))
    rw [e]at this;exact this
   have hf:=g3.fst
   refine⟨_,_,_,rfl,?_,by omega,fun hok=>?_⟩
   ·rw [hW]
    unfold fg
    rw [cn (by omega) (by omega),hsz]
    simp only [be]
    by_cases hs:s=l.Nodes.length
    ·rw [aM (by simp [hs]),aY (by simp;omega)]
    ·rw [aY (by simp;omega),aM (by simp;omega)]
   ·have hs:s=l.Nodes.length:=by simp at hok;omega
    exact⟨⟨h2,by omega,by omega,hI,by rw [hsz,hs]⟩,rfl⟩
  ·simp only [Option.isNone_some,gp,ek]
   refine⟨ob,(j:Int),false,rfl,by rw [hW];rfl,by omega,by simp⟩

theorem va{n:Nat}(h:n≤900000):n<gX:=wE (Dx _) (my (by omega))
def D4(d x:Int):Int:=if 0≤x then IntKind.i64.wrap (x+d)else x
def FG(d:Int)(n:am):am:={n with A:=D4 d n.A,B:=D4 d n.B}
theorem iy.sh(h:iy n)(d:Int):iy (FG d n):=⟨h.cond,h.kinds,h.keys,h.aggs,h.items,h.order,h.args,h.exprs⟩
theorem iy.at(h:iy n)(a b:Int):iy {n with A:=a,B:=b}:=⟨h.cond,h.kinds,h.keys,h.aggs,h.items,h.order,h.args,h.exprs⟩
theorem set_same{xs:List α}{e:α}(h:xs[i]? =some e):xs.set i e=xs:=by
 apply I0
 intro j
 rw [List.getElem?_set]
 split
 ·rename_i hj;subst hj
  split
  ·exact h.symm
  ·rename_i h2;rw [DF (by omega)]
 ·rfl
theorem sj(h:iy n):mX n=some n:=by
 have hK:=h.kinds
 have hk:=h.keys
 have hA:=h.aggs
 have hI:=h.items
 have hO:=h.order
 have hc:=h.cond
 have hcl: ∀{l:List aX},l.length≤5000→cj l=some l:=fun{l} hl=>by
  unfold cj;rw [cq (by simp;omega)];rfl
 unfold mX
 rw [sl _ (by omega),sl _ (by omega)]
 simp only [be]
 have e1:dZ n.Order=some n.Order:=by unfold dZ;rw [cq (by simp;omega)];rfl
 rw [e1]
 simp only [be]
 rw [hcl hc]
 simp only [be]
 have e2:ff n.Aggs=some n.Aggs:=by unfold ff;rw [cq (by simp;omega)];rfl
 rw [e2]
 simp only [be]
 have e3:ep n.Items=some n.Items:=by unfold ep;rw [cq (by simp;omega)];rfl
 rw [e3]
 simp only [be]
 have key2: ∀(tl:List br) (i:Nat),n.Items.drop i=tl→(∀e∈tl,e.Nodes.length≤5000)→mV tl i n=some n:=by
  intro tl
  induction tl with
  |nil=>intro i _ _;rfl
  |cons x tl ih=>
   intro i hd hs
   obtain⟨h1,h2,h3⟩:=iN hd
   unfold mV
   rw [h1]
   simp only [be]
   rw [hcl (hs x (kJ ..))]
   simp only [be,Af]
   rw [bZ]at h1
   have e4:n.Items.set i ({x with Nodes:=x.Nodes}:br)=n.Items:=set_same h1
   rw [e4]
   exact ih (i+1) h3 (fun e he=>hs e (kF _ he))
 have key1: ∀(tl:List ea) (i:Nat),n.Aggs.drop i=tl→(∀e∈tl,e.Arg.Nodes.length≤5000)→mW tl i n=some n:=by
  intro tl
  induction tl with
  |nil=>intro i _ _;exact key2 n.Items 0 rfl h.exprs
  |cons x tl ih=>
   intro i hd hs
   obtain⟨h1,h2,h3⟩:=iN hd
   unfold mW
   rw [h1]
   simp only [be]
   rw [hcl (hs x (kJ ..))]
   simp only [be,Af]
   rw [bZ]at h1
   have e4:n.Aggs.set i ({x with Arg:=({x.Arg with Nodes:=x.Arg.Nodes}:br)}:ea)=n.Aggs:=set_same h1
   rw [e4]
   exact ih (i+1) h3 (fun e he=>hs e (kF _ he))
 exact key1 n.Aggs 0 rfl h.args
theorem C6(h:iy n)(d:Int):sf n d=some (FG d n):=by
 unfold sf oQ FG D4
 by_cases hA:0≤n.A<;>by_cases hB:0≤n.B
 ·rw [aY (by simpa using hA),aY (by simpa using hB),aY hA,aY hB]
  exact sj (h.at _ _)
 ·rw [aY (by simpa using hA),aM (by simpa using hB),aY hA,aM hB]
  exact sj (h.at _ _)
 ·rw [aM (by simpa using hA),aY (by simpa using hB),aM hA,aY hB]
  exact sj (h.at _ _)
 ·rw [aM (by simpa using hA),aM (by simpa using hB),aM hA,aM hB]
  exact sj (h.at _ _)
def lJ(l:bN):Bool:=decide ((q8 l).getD 0<0)
theorem sS(h:mP l):CA l=some (lJ l)∧(∃j,pu l=some (if lJ l then(0,0)else(j,230)))∧(∃ob j,o7 l=some (ob,j,lJ l)∧(lJ l=true→Nc l ob∧j=(l.Nodes.length:Int)-1)):=by
 obtain⟨ob,j,ok,h1,h2,h3,h4⟩:=TR h
 have e:lJ l=ok:=by
  unfold lJ
  rw [h2]
  cases ok<;>simp<;>omega
 refine⟨?_,⟨j,?_⟩,ob,j,?_⟩
 ·unfold CA lJ
  rw [h2];rfl
 ·unfold pu
  rw [h1,e]
  cases ok<;>rfl
 ·rw [e]
  exact⟨h1,h4⟩
theorem Jq(hA:n.A≤100000)(hB:n.B≤100000):FG 0 n=n:=by
 have h: ∀x:Int,x≤100000→D4 0 x=x:=by
  intro x hx
  unfold D4
  by_cases h:0≤x
  ·rw [aY h,Int.add_zero,cn (by omega) (by omega)]
  ·rw [aM h]
 unfold FG
 rw [h _ hA,h _ hB]
theorem TN{d:Int}{ns:List am}(h: ∀n∈ns,iy n): ∀n∈ns.map (FG d),iy n:=by
 intro n hn
 obtain⟨m,hm,rfl⟩:=uI.1 hn
 exact(h m hm).sh d

structure zZ(l:bN)(sz:Nat→Nat)(ks:Nat→List Int)(j:Nat)(n:am):Prop where
 node:cN l.Nodes (j:Int)=some n
 op:Ez n.Op=true
 own:zD n=true
 lf:n.Op=1→n.A= -1∧n.B= -1∧sz j=1
 un:n.Op≠1→n.Op≠2→n.Op≠7→0<j∧n.A=(j:Int)-1∧n.B= -1∧sz j=sz (j-1)+1
 bi:n.Op=2∨n.Op=7→0<j∧n.B=(j:Int)-1∧sz (j-1)<j∧n.A=(j:Int)-1-(sz (j-1):Int)∧sz j=sz (j-1-sz (j-1))+sz (j-1)+1
 kinds:bo n (if n.A<0 then []else ks n.A.toNat) (if n.B<0 then []else ks n.B.toNat)=some (ks j,true)
 last:n.Op=8→j+1=l.Nodes.length
 len:(ks j).length≤16
 pos:1≤sz j
 le:sz j≤j+1
theorem Gv(hn:cN l.Nodes (j:Int)=some n)(hj:j<l.Nodes.length)(hl:l.Nodes.length≤1000)(fu:Nat):bU (fu+1) l (j:Int)=
  if n.Op=1 then(if n.A= -1∧n.B= -1 then some 1 else some 0)
  else if n.Op=2∨n.Op=7 then(if n.B=(j:Int)-1 then((bU fu) l n.B).bind (fun r2=>if((decide ((0:Int)<r2))&&(n.A==(IntKind.i64.wrap (n.B-r2))))then(((bU fu) l n.A).bind fun r3=>if(decide ((0:Int)<r3))then(some (IntKind.i64.wrap ((IntKind.i64.wrap (r3+r2))+(1:Int))))else(some (0:Int)))else(some (0:Int)))else some 0)
  else if Ez n.Op=true then(if n.A=(j:Int)-1∧n.B= -1 then((bU fu) l n.A).bind (fun r1=>if(decide ((0:Int)<r1))then(some (IntKind.i64.wrap (r1+(1:Int))))else(some (0:Int)))else some 0)
  else some 0:=by
 conv=>lhs;unfold bU
 rw [aM (by simp;omega),hn]
 simp only [be,lL]
 by_cases h1:n.Op=1
 ·simp only [h1,eQ]
  rw [aY (by decide)]
  by_cases hAB:n.A= -1∧n.B= -1
  ·rw [aY hAB,aY (by simp [hAB])]
  ·rw [aM hAB,aM (by simpa using hAB)]
 by_cases h27:n.Op=2∨n.Op=7
 ·simp only [h1,h27,eQ,ek]
  rw [aM (by decide),aM (by decide),aY (by decide),cn (n:=(j:Int)-1) (by omega) (by omega)]
  by_cases hB:n.B=(j:Int)-1
  ·rw [aY (by simp [hB]),aY hB]
  ·rw [aM (by simpa using hB),aM hB]
 by_cases hop:Ez n.Op=true
 ·simp only [h1,h27,hop,eQ,ek]
  rw [aM (by decide),aY (by decide),cn (n:=(j:Int)-1) (by omega) (by omega)]
  by_cases hB:n.A=(j:Int)-1∧n.B= -1
  ·rw [aY (by simp [hB]),aY hB]
  ·rw [aM (by simpa using hB),aM hB]
 ·simp only [h1,h27,hop,ek]
  rw [aM (by decide),aM (by decide),aM (by decide)]
  rfl
theorem AN{s:Int}(hn:cN l.Nodes (j:Int)=some n)(hs:kw l (j:Int)=some s)(hs0:s≠0)(ho:zD n=true)(fu:Nat):cg (fu+1) l (j:Int)=if(decide ((0:Int)≤n.A))then(((cg fu) l n.A).bind fun r4=>if(!r4.2)then(some ([],false))else(ez (cg fu) l (j:Int) n r4.1))else(ez (cg fu) l (j:Int) n ([])):=by
 conv=>lhs;unfold cg
 rw [hs,hn]
 simp only [be,pQ,ho]
 have:(s==0)=false:=by simpa using hs0
 simp [this]
def wA(first:List Int)(j:Nat):Nat:=((j:Int)+1-(first[j]?).getD 0).toNat
def Mp(kinds:List (List Int))(j:Nat):List Int:=(kinds[j]?).getD []
theorem Lo.at{kinds:List (List Int)}(h:Lo l i first kinds)(hj:j<i):Nb l j ((j:Int)+1-(wA first j:Int)) (Mp kinds j) (wA first j)∧first[j]? =some ((j:Int)+1-(wA first j:Int)):=by
 obtain⟨f,k,s,h1,h2,h3⟩:=h.node j hj
 have e1:Mp kinds j=k:=by unfold Mp;rw [h2];rfl
 have hf:=h3.fst
 have hp:=h3.pos
 have e2:wA first j=s:=by unfold wA;rw [h1];simp only [Ge];omega
 rw [e1,e2,←hf]
 exact⟨h3,h1⟩
theorem E2{kinds:List (List Int)}(hI:Lo l l.Nodes.length first kinds)(hl:l.Nodes.length≤60)(hj:j<l.Nodes.length): ∃n,zZ l (wA first) (Mp kinds) j n:=by
 obtain⟨N0,_⟩:=hI.at hj
 have hn:cN l.Nodes (j:Int)=some l.Nodes[j]:=by rw [bZ,oy hj]
 obtain⟨n,hnn⟩: ∃n,n=l.Nodes[j]:=⟨_,rfl⟩
 rw [←hnn]at hn
 have hpos:=N0.pos
 have hsz:=N0.size (j+3) (by omega)
 rw [Gv hn hj (by omega)]at hsz
 have hnone: ∀{x:Int},x=0→ ¬(some x=some (wA first j:Int)):=by
  intro x hx h
  injection h with h
  omega
 -- the places
 have P:Ez n.Op=true∧(n.Op=1→n.A= -1∧n.B= -1∧wA first j=1)∧(n.Op≠1→n.Op≠2→n.Op≠7→0<j∧n.A=(j:Int)-1∧n.B= -1∧wA first j=wA first (j-1)+1)∧(n.Op=2∨n.Op=7→0<j∧n.B=(j:Int)-1∧wA first (j-1)<j∧n.A=(j:Int)-1-(wA first (j-1):Int)∧wA first j=wA first (j-1-wA first (j-1))+wA first (j-1)+1):=by
  by_cases h1:n.Op=1
  ·rw [aY h1]at hsz
   by_cases hAB:n.A= -1∧n.B= -1
   ·rw [aY hAB]at hsz
    injection hsz with hsz
    exact⟨by rw [h1];rfl,fun _=>⟨hAB.1,hAB.2,by omega⟩,fun h=>absurd h1 h,fun h=>by omega⟩
   ·rw [aM hAB]at hsz;exact absurd hsz (hnone rfl)
  rw [aM h1]at hsz
  by_cases h27:n.Op=2∨n.Op=7
  ·rw [aY h27]at hsz
   by_cases hB:n.B=(j:Int)-1
   ·rw [aY hB]at hsz
    by_cases hj0:j=0
    ·rw [uQ l (by omega) (by omega)]at hsz
     exact absurd hsz (hnone rfl)
    ·obtain⟨NB,_⟩:=hI.at (j:=j-1) (by omega)
     have eB:((j-1:Nat):Int)=n.B:=by omega
     have hszB:=NB.size (j+2) (by omega)
     have hpB:=NB.pos
     have hlB:=NB.le
     rw [eB]at hszB
     rw [hszB]at hsz
     simp only [be]at hsz
     rw [cn (n:=n.B-_) (by omega) (by omega)]at hsz
     by_cases hA:n.A=n.B-(wA first (j-1):Int)
     ·rw [aY (by simp [hA];omega)]at hsz
      by_cases hA0:n.A<0
      ·rw [uQ l (by omega) hA0]at hsz
       exact absurd hsz (hnone rfl)
      ·obtain⟨NA,_⟩:=hI.at (j:=j-1-wA first (j-1)) (by omega)
       have eA:((j-1-wA first (j-1):Nat):Int)=n.A:=by omega
       have hszA:=NA.size (j+2) (by omega)
       have hpA:=NA.pos
       have hlA:=NA.le
       rw [eA]at hszA
       rw [hszA]at hsz
       simp only [be]at hsz
       rw [aY (by simp;omega),cn (n:=(wA first (j-1-wA first (j-1)):Int)+(wA first (j-1):Int)) (by omega) (by omega),cn (by omega) (by omega)]at hsz
       injection hsz with hsz
       refine⟨?_,fun h=>absurd h h1,fun _ h2 h7=>by rcases h27 with h|h;exact absurd h h2;exact absurd h h7,fun _=>⟨by omega,hB,by omega,by omega,by omega⟩⟩
       rcases h27 with h|h<;>rw [h]<;>rfl
     ·rw [aM (by simp;intro _;exact hA)]at hsz
      exact absurd hsz (hnone rfl)
   ·rw [aM hB]at hsz;exact absurd hsz (hnone rfl)
  rw [aM h27]at hsz
  by_cases hop:Ez n.Op=true
  ·rw [aY hop]at hsz
   by_cases hA:n.A=(j:Int)-1∧n.B= -1
   ·rw [aY hA]at hsz
    by_cases hj0:j=0
    ·rw [uQ l (by omega) (by omega)]at hsz
     exact absurd hsz (hnone rfl)
    ·obtain⟨NA,_⟩:=hI.at (j:=j-1) (by omega)
     have eA:((j-1:Nat):Int)=n.A:=by omega
     have hszA:=NA.size (j+2) (by omega)
     have hpA:=NA.pos
     have hlA:=NA.le
     rw [eA]at hszA
     rw [hszA]at hsz
     simp only [be]at hsz
     rw [aY (by simp;omega),cn (by omega) (by omega)]at hsz
     injection hsz with hsz
     exact⟨hop,fun h=>absurd h h1,fun _ _ _=>⟨by omega,hA.1,hA.2,by omega⟩,fun h=>absurd h h27⟩
   ·rw [aM hA]at hsz;exact absurd hsz (hnone rfl)
  ·rw [aM hop]at hsz;exact absurd hsz (hnone rfl)
 obtain⟨p0,p1,p2,p3⟩:=P
 -- what it has of its own, and its kinds
 have hk:=N0.kinds (j+3) (by omega)
 have hszR:kw l (j:Int)=some (wA first j:Int):=N0.size gX (va (by omega))
 have ho:zD n=true:=by
  cases ho:zD n with
  |true=>rfl
  |false=>
   exfalso
   unfold cg at hk
   rw [hszR,hn]at hk
   simp only [be,pQ,ho]at hk
   have: ¬(wA first j=0):=by omega
   simp [this]at hk
 have hpl:n.A<(j:Int)∧n.B<(j:Int):=by
  by_cases h1:n.Op=1
  ·obtain⟨a,b,_⟩:=p1 h1;omega
  by_cases h27:n.Op=2∨n.Op=7
  ·obtain⟨a,b,c,d,_⟩:=p3 h27;omega
  ·obtain⟨a,b,c,_⟩:=p2 h1 (fun h=>h27 (.inl h)) (fun h=>h27 (.inr h));omega
 rw [AN hn hszR (by omega) ho]at hk
 have hkA: ∀(p:Int),0≤p→p<(j:Int)→cg (j+2) l p=some (Mp kinds p.toNat,true):=by
  intro p hp0 hpj
  obtain⟨NA,_⟩:=hI.at (j:=p.toNat) (by omega)
  have:=NA.kinds (j+2) (by omega)
  rw [show((p.toNat:Nat):Int)=p from by omega]at this
  exact this
 have hk1: ∀a,ez (cg (j+2)) l (j:Int) n a=gH l (j:Int) n a (if n.B<0 then []else Mp kinds n.B.toNat):=by
  intro a
  unfold ez
  by_cases hB:0≤n.B
  ·rw [aY (by simpa using hB),hkA n.B hB hpl.2,aM (by omega)]
   rfl
  ·rw [aM (by simpa using hB),aY (by omega)]
 have hk2:gH l (j:Int) n (if n.A<0 then []else Mp kinds n.A.toNat) (if n.B<0 then []else Mp kinds n.B.toNat)=some (Mp kinds j,true):=by
  by_cases hA:0≤n.A
  ·rw [aY (by simpa using hA),hkA n.A hA hpl.1]at hk
   simp only [be,mS,gp,ek]at hk
   rw [hk1]at hk
   rw [aM (show¬n.A<0 by omega)]
   exact hk
  ·rw [aM (by simpa using hA),hk1]at hk
   rw [aY (show n.A<0 by omega)]
   exact hk
 unfold gH at hk2
 cases hr:bo n (if n.A<0 then []else Mp kinds n.A.toNat) (if n.B<0 then []else Mp kinds n.B.toNat)with
 |none=>rw [hr]at hk2;cases hk2
 |some r=>
  rw [hr]at hk2
  simp only [be]at hk2
  split at hk2
  ·simp at hk2
  ·rename_i hc
   injection hk2 with hk2
   injection hk2 with e1 e2
   refine⟨n,hn,p0,ho,p1,p2,p3,?_,fun h8=>?_,N0.len,N0.pos,N0.le⟩
   ·rw [hr,←e1,←e2]
   ·simp only [pH,kN,qZ,qo,kO,not_or,not_and,Decidable.not_not]at hc
    have:=hc.1 h8
    rw [cn (by omega) (by omega)]at this
    omega
variable{sz:Nat→Nat}
theorem PE{ks:Nat→List Int}{m:Nat}(hl:l.Nodes.length≤60)(hm:m≤l.Nodes.length)(h: ∀j,j<m→ ∃n,zZ l sz ks j n): ∀(j:Nat),j<m→(∀fu,j+1<fu→bU fu l (j:Int)=some (sz j:Int))∧ ∀fu,j+1<fu→cg fu l (j:Int)=some (ks j,true):=by
 intro j
 induction j using Nat.strongRecOn with
 |ind j ih=>
  intro hj
  obtain⟨n,F⟩:=h j hj
  have hpl:n.A<(j:Int)∧n.B<(j:Int):=by
   by_cases h1:n.Op=1
   ·obtain⟨a,b,_⟩:=F.lf h1;omega
   by_cases h27:n.Op=2∨n.Op=7
   ·obtain⟨a,b,c,d,_⟩:=F.bi h27;omega
   ·obtain⟨a,b,c,_⟩:=F.un h1 (fun h=>h27 (.inl h)) (fun h=>h27 (.inr h));omega
  have hS: ∀fu,j+1<fu→bU fu l (j:Int)=some (sz j:Int):=by
   intro fu hf
   obtain⟨fu,rfl⟩: ∃k,fu=k+1:=⟨fu-1,by omega⟩
   rw [Gv F.node (by omega) (by omega)]
   by_cases h1:n.Op=1
   ·obtain⟨a,b,c⟩:=F.lf h1
    rw [aY h1,aY ⟨a,b⟩,c];rfl
   rw [aM h1]
   by_cases h27:n.Op=2∨n.Op=7
   ·obtain⟨a,b,c,d,e⟩:=F.bi h27
    obtain⟨nB,FB⟩:=h (j-1) (by omega)
    obtain⟨nA,FA⟩:=h (j-1-sz (j-1)) (by omega)
    have hB:=(ih (j-1) (by omega) (by omega)).1 fu (by omega)
    have hA:=(ih (j-1-sz (j-1)) (by omega) (by omega)).1 fu (by omega)
    rw [show((j-1:Nat):Int)=n.B from by omega]at hB
    rw [show((j-1-sz (j-1):Nat):Int)=n.A from by omega]at hA
    have q1:=FB.pos
    have q2:=FB.le
    have q3:=FA.pos
    have q4:=FA.le
    rw [aY h27,aY b,hB]
    simp only [be]
    rw [cn (n:=n.B-_) (by omega) (by omega),aY (by simp;omega),hA]
    simp only [be]
    rw [aY (by simp;omega),cn (n:=(sz (j-1-sz (j-1)):Int)+(sz (j-1):Int)) (by omega) (by omega),cn (by omega) (by omega),e]
    rfl
   ·obtain⟨a,b,c,d⟩:=F.un h1 (fun h=>h27 (.inl h)) (fun h=>h27 (.inr h))
    obtain⟨nA,FA⟩:=h (j-1) (by omega)
    have hA:=(ih (j-1) (by omega) (by omega)).1 fu (by omega)
    rw [show((j-1:Nat):Int)=n.A from by omega]at hA
    have q1:=FA.pos
    have q2:=FA.le
    rw [aM h27,aY F.op,aY ⟨b,c⟩,hA]
    simp only [be]
    rw [aY (by simp;omega),cn (by omega) (by omega),d]
    rfl
  refine⟨hS,fun fu hf=>?_⟩
  obtain⟨fu,rfl⟩: ∃k,fu=k+1:=⟨fu-1,by omega⟩
  have hszR:kw l (j:Int)=some (sz j:Int):=hS gX (va (by omega))
  have hp:=F.pos
  rw [AN F.node hszR (by omega) F.own]
  have hkA: ∀(p:Int),0≤p→p<(j:Int)→cg fu l p=some (ks p.toNat,true):=by
   intro p hp0 hpj
   have:=(ih p.toNat (by omega) (by omega)).2 fu (by omega)
   rw [show((p.toNat:Nat):Int)=p from by omega]at this
   exact this
  have hk1: ∀a,ez (cg fu) l (j:Int) n a=gH l (j:Int) n a (if n.B<0 then []else ks n.B.toNat):=by
   intro a
   unfold ez
   by_cases hB:0≤n.B
   ·rw [aY (by simpa using hB),hkA n.B hB hpl.2,aM (by omega)]
    rfl
   ·rw [aM (by simpa using hB),aY (by omega)]
  have hk2:gH l (j:Int) n (if n.A<0 then []else ks n.A.toNat) (if n.B<0 then []else ks n.B.toNat)=some (ks j,true):=by
   unfold gH
   rw [F.kinds]
   simp only [be]
   rw [aM]
   have hlen:=F.len
   simp only [pH,kN,qZ,qo,kO,not_or,not_and,Decidable.not_not]
   refine⟨fun h8=>?_,by omega⟩
   have:=F.last h8
   rw [cn (by omega) (by omega)]
   omega
  by_cases hA:0≤n.A
  ·rw [aY (by simpa using hA),hkA n.A hA hpl.1]
   simp only [be,mS,gp,ek]
   rw [hk1]
   rw [aM (show¬n.A<0 by omega)]at hk2
   exact hk2
  ·rw [aM (by simpa using hA),hk1]
   rw [aY (show n.A<0 by omega)]at hk2
   exact hk2
theorem KA{ks:Nat→List Int}(hl:l.Nodes.length≤60)(hp:1≤l.Nodes.length)(h: ∀j,j<l.Nodes.length→ ∃n,zZ l sz ks j n)(hw:sz (l.Nodes.length-1)=l.Nodes.length):lJ l=true:=by
 have H:=PE hl (dK _) h
 unfold lJ q8
 rw [aM (by simp;omega)]
 have key: ∀(tl:List am) (i:Nat),l.Nodes.drop i=tl→i+tl.length=l.Nodes.length→fg l tl i=some (-1):=by
  intro tl
  induction tl with
  |nil=>
   intro i _ _
   unfold fg
   have:=(H (l.Nodes.length-1) (by omega)).1 gX (va (by omega))
   rw [cn (by omega) (by omega),show(l.Nodes.length:Int)-1=((l.Nodes.length-1:Nat):Int)from by omega]
   unfold kw
   rw [this,hw]
   simp
  |cons n tl ih=>
   intro i hd hi
   simp only [iO]at hi
   obtain⟨_,h2,h3⟩:=iN hd
   unfold fg q9
   rw [(H i h2).2 gX (va (by omega))]
   simp only [be,mS,gp,ek]
   exact ih (i+1) h3 (by omega)
 rw [key l.Nodes 0 rfl (by simp)]
 rfl

theorem ri{kinds:List Int}(h:(fb e kinds).2=0):gQ e.Nodes=true:=by
 unfold fb at h
 cases hr:gQ e.Nodes with
 |true=>rfl
 |false=>rw [hr]at h;simp at h
theorem DU{kinds:List Int}(h:DV e kinds=true):gQ e.Nodes=true:=by
 unfold DV at h
 simp only [kN,qZ]at h
 exact ri h.1
theorem PS{g:ea}{kinds:List Int}(h:(zQ g kinds).2=true)(hp:0<g.Arg.Nodes.length):gQ g.Arg.Nodes=true:=by
 rw [←(Bj g kinds).1]at h
 unfold MX at h
 by_cases h1:g.Tag=1
 ·rw [aY h1]at h
  simp at h
  rw [h]at hp;simp at hp
 rw [aM h1]at h
 by_cases h2:g.Tag=2
 ·rw [aY h2]at h;exact ri (by simpa using h)
 rw [aM h2]at h
 by_cases h3:g.Tag=3
 ·rw [aY h3]at h
  simp only [kN,qZ]at h
  exact ri h.1
 rw [aM h3]at h
 by_cases h4:g.Tag=4∨g.Tag=5
 ·rw [aY h4]at h;exact ri (by simpa using h)
 ·rw [aM h4]at h;cases h
theorem Rh(n:am)(a:List Int): ∀(tl:List br) (i fu:Nat) (out:List Int) (ok:Bool) (k:List Int),n.Items.drop i=tl→n.Items.length≤5000→cQ n a fu out ok (i:Int)=some (k,true)→ok=true∧ ∀e∈tl,gQ e.Nodes=true:=by
 intro tl
 induction tl with
 |nil=>
  intro i fu out ok k hd hl h
  cases fu with
  |zero=>cases h
  |succ fu=>
   have:=oJ hd
   rw [cQ,aM (by simp;omega)]at h
   injection h with h
   injection h with _ h
   simp only [kN]at h
   exact⟨h.1.1,by simp⟩
 |cons x tl ih=>
  intro i fu out ok k hd hl h
  cases fu with
  |zero=>cases h
  |succ fu=>
   obtain⟨h1,h2,h3⟩:=iN hd
   rw [cQ,aY (by simp;omega),h1]at h
   simp only [be,j3]at h
   cases ha:app out [(fb x a).1]with
   |none=>rw [ha]at h;cases h
   |some o=>
    rw [ha]at h
    simp only [be]at h
    rw [cn (by omega) (by omega),show((i:Int)+1)=((i+1:Nat):Int)from by omega]at h
    obtain⟨g1,g2⟩:=ih (i+1) fu o _ k h3 hl h
    simp only [kN,qZ]at g1
    exact⟨g1.1,fun e he=>by
     rcases fc.1 he with rfl|he
     ·exact ri g1.2
     ·exact g2 e he⟩
theorem Ri(n:am)(a:List Int): ∀(tl:List ea) (i fu:Nat) (out:List Int) (ok:Bool) (k:List Int),n.Aggs.drop i=tl→n.Aggs.length≤5000→cI n a fu out ok (i:Int)=some (k,true)→ok=true∧ ∀g∈tl,0<g.Arg.Nodes.length→gQ g.Arg.Nodes=true:=by
 intro tl
 induction tl with
 |nil=>
  intro i fu out ok k hd hl h
  cases fu with
  |zero=>cases h
  |succ fu=>
   have:=oJ hd
   rw [cI,aM (by simp;omega)]at h
   injection h with h
   injection h with _ h
   simp only [kN]at h
   exact⟨h.1.1.1,by simp⟩
 |cons x tl ih=>
  intro i fu out ok k hd hl h
  cases fu with
  |zero=>cases h
  |succ fu=>
   obtain⟨h1,h2,h3⟩:=iN hd
   rw [cI,aY (by simp;omega),h1]at h
   simp only [be,mq]at h
   cases ha:app out [(zQ x a).1]with
   |none=>rw [ha]at h;cases h
   |some o=>
    rw [ha]at h
    simp only [be]at h
    rw [cn (by omega) (by omega),show((i:Int)+1)=((i+1:Nat):Int)from by omega]at h
    obtain⟨g1,g2⟩:=ih (i+1) fu o _ k h3 hl h
    simp only [kN]at g1
    exact⟨g1.1,fun g hg=>by
     rcases fc.1 hg with rfl|hg
     ·exact PS g1.2
     ·exact g2 g hg⟩
theorem Rj(n:am)(a:List Int): ∀(tl:List Int) (i fu:Nat) (out:List Int) (k:List Int),n.Keys.drop i=tl→n.Keys.length≤5000→cR n a fu out (i:Int)=some (k,true)→ ∃o,cI n a gX o true 0=some (k,true):=by
 intro tl
 induction tl with
 |nil=>
  intro i fu out k hd hl h
  cases fu with
  |zero=>cases h
  |succ fu=>
   have:=oJ hd
   rw [cR,aM (by simp;omega)]at h
   exact⟨_,h⟩
 |cons x tl ih=>
  intro i fu out k hd hl h
  cases fu with
  |zero=>cases h
  |succ fu=>
   obtain⟨h1,h2,h3⟩:=iN hd
   rw [cR,aY (by simp;omega),h1]at h
   simp only [be]at h
   split at h
   ·simp at h
   ·cases hx:cN a x with
    |none=>rw [hx]at h;cases h
    |some y=>
     rw [hx]at h
     simp only [be]at h
     cases ha:app out [y]with
     |none=>rw [ha]at h;cases h
     |some o=>
      rw [ha]at h
      simp only [be]at h
      rw [cn (by omega) (by omega),show((i:Int)+1)=((i+1:Nat):Int)from by omega]at h
      exact ih (i+1) fu o k h3 hl h
structure IQ(n:am):Prop where
 cond:0<n.Cond.Nodes.length→gQ n.Cond.Nodes=true
 items: ∀e∈n.Items,0<e.Nodes.length→gQ e.Nodes=true
 args: ∀g∈n.Aggs,0<g.Arg.Nodes.length→gQ g.Arg.Nodes=true
theorem QW(h:zD n=true):(n.Op≠2→n.Op≠3→n.Cond.Nodes.length=0)∧(n.Op≠4→n.Aggs.length=0)∧(n.Op≠5→n.Items.length=0):=by
 have e:=pQ n
 rw [h]at e
 unfold ss at e
 split at e
 ·simp at e
 ·split at e
  ·simp at e
  ·split at e
   ·simp at e
   ·rename_i h1 h2 h3
    simp only [pH,kN,qo,kO,not_or,not_and]at h1 h2 h3
    refine⟨fun a b=>?_,fun a=>?_,fun a=>?_⟩
    ·have:=h2.2 ⟨a,b⟩;omega
    ·have:=(h3.1 a).2;omega
    ·have:=h3.2 a;omega
theorem R4{a b:List Int}(hs:iy n)(hop:Ez n.Op=true)(ho:zD n=true)(h:bo n a b=some (k,true)):IQ n:=by
 obtain⟨o1,o2,o3⟩:=QW ho
 have hnil: ∀{α:Type} {l:List α} {p:α→Prop},l.length=0→ ∀x∈l,p x:=by
  intro α l p hl x hx
  rw [sH hl]at hx;cases hx
 unfold bo at h
 rcases pr hop with c|c|c|c|c|c|c|c
 ·exact⟨fun hp=>by have:=o1 (by omega) (by omega);omega,hnil (o3 (by omega)),hnil (o2 (by omega))⟩
 ·rw [aM (by simp [c]),aY (by simp [c])]at h
  refine⟨fun _=>?_,hnil (o3 (by omega)),hnil (o2 (by omega))⟩
  cases h1:app ([]:List Int) a with
  |none=>rw [h1]at h;cases h
  |some l1=>
   rw [h1]at h
   simp only [be]at h
   cases h2:app l1 b with
   |none=>rw [h2]at h;cases h
   |some l2=>
    rw [h2]at h
    simp only [be,jm]at h
    injection h with h
    injection h with _ h
    exact DU h
 ·rw [aM (by simp [c]),aM (by simp [c]),aY (by simp [c])]at h
  refine⟨fun _=>?_,hnil (o3 (by omega)),hnil (o2 (by omega))⟩
  simp only [be,jm]at h
  injection h with h
  injection h with _ h
  exact DU h
 ·rw [aM (by simp [c]),aM (by simp [c]),aM (by simp [c]),aY (by simp [c])]at h
  obtain⟨o,h'⟩:=Rj n a n.Keys 0 gX [] k rfl hs.keys h
  exact⟨fun hp=>by have:=o1 (by omega) (by omega);omega,hnil (o3 (by omega)),(Ri n a n.Aggs 0 gX o true k rfl hs.aggs h').2⟩
 ·rw [aM (by simp [c]),aM (by simp [c]),aM (by simp [c]),aM (by simp [c]),aY (by simp [c])]at h
  exact⟨fun hp=>by have:=o1 (by omega) (by omega);omega,fun e he _=>(Rh n a n.Items 0 gX [] true k rfl hs.items h).2 e he,hnil (o2 (by omega))⟩
 ·exact⟨fun hp=>by have:=o1 (by omega) (by omega);omega,hnil (o3 (by omega)),hnil (o2 (by omega))⟩
 ·exact⟨fun hp=>by have:=o1 (by omega) (by omega);omega,hnil (o3 (by omega)),hnil (o2 (by omega))⟩
 ·exact⟨fun hp=>by have:=o1 (by omega) (by omega);omega,hnil (o3 (by omega)),hnil (o2 (by omega))⟩
def Aq(e:br):Bool:= !e.Nodes.isEmpty&&e.Nodes.any WO
def Hw(g:ea):Bool:=if g.Tag=3 then true else Aq g.Arg
def C2(n:am):Bool:=Aq n.Cond||n.Items.any Aq||n.Aggs.any Hw
theorem tF{f:aX→Option Bool}{g:aX→Bool}(hf: ∀v,f v=some (g v)): ∀(l:List aX) (i:Nat),∃j:Int,cY f l i=some j∧decide (0≤j)=l.any g
 |[],i=>⟨-1,rfl,rfl⟩
 |e::l,i=>by
  unfold cY
  rw [hf,be]
  cases h:g e with
  |true=>exact⟨(i:Int),by simp,by simp [h]⟩
  |false=>
   obtain⟨j,h1,h2⟩:=tF hf l (i+1)
   exact⟨j,by simpa using h1,by rw [h2];simp [h]⟩
theorem ul{f:br→Option Bool}{g:br→Bool}: ∀(l:List br) (i:Nat),(∀v∈l,f v=some (g v))→ ∃j:Int,dl f l i=some j∧decide (0≤j)=l.any g
 |[],i,_=>⟨-1,rfl,rfl⟩
 |e::l,i,hf=>by
  unfold dl
  rw [hf e (kJ ..),be]
  cases h:g e with
  |true=>exact⟨(i:Int),by simp,by simp [h]⟩
  |false=>
   obtain⟨j,h1,h2⟩:=ul l (i+1) (fun v hv=>hf v (kF _ hv))
   exact⟨j,by simpa using h1,by rw [h2];simp [h]⟩
theorem vm{f:ea→Option Bool}{g:ea→Bool}: ∀(l:List ea) (i:Nat),(∀v∈l,f v=some (g v))→ ∃j:Int,dI f l i=some j∧decide (0≤j)=l.any g
 |[],i,_=>⟨-1,rfl,rfl⟩
 |e::l,i,hf=>by
  unfold dI
  rw [hf e (kJ ..),be]
  cases h:g e with
  |true=>exact⟨(i:Int),by simp,by simp [h]⟩
  |false=>
   obtain⟨j,h1,h2⟩:=vm l (i+1) (fun v hv=>hf v (kF _ hv))
   exact⟨j,by simpa using h1,by rw [h2];simp [h]⟩
theorem TU(l:List α):decide ((0:Int)<(l.length:Int))= !l.isEmpty:=Rf l
theorem Cf(e:br)(h:0<e.Nodes.length→gQ e.Nodes=true):gj e=some (Aq e):=by
 unfold gj Aq
 rw [TU]
 by_cases hp:0<e.Nodes.length
 ·have hr:=h hp
  have hl:=Ej hr
  have:e.Nodes.isEmpty=false:=by cases hh:e.Nodes with
   |nil=>rw [hh]at hp;simp at hp
   |cons a l=>rfl
  simp only [this,Bt,eQ,uo]
  unfold BZ
  rw [qV e (by omega),hr]
  simp only [eQ,be]
  rw [aY (by decide)]
  unfold fL gr
  obtain⟨j,h1,h2⟩:=tF (f:=xq) (g:=WO) (fun v=>rfl) e.Nodes 0
  rw [h1]
  simp only [be,h2,Bool.not_not]
 ·have:e.Nodes.isEmpty=true:=by cases hh:e.Nodes with
   |nil=>rfl
   |cons a l=>rw [hh]at hp;simp at hp
  simp [this]
theorem Fj: ∀ns:List am,(∀n∈ns,IQ n)→oH ns=some (!(ns.any C2))
 |[],_=>rfl
 |n::ns,h=>by
  have hn:=h n (kJ ..)
  unfold oH
  rw [Cf _ hn.cond,Fj ns (fun m hm=>h m (kF _ hm))]
  have c1:ed n.Items gj=some (n.Items.any Aq):=by
   unfold ed gO
   obtain⟨j,h1,h2⟩:=ul (f:=gj) (g:=Aq) n.Items 0 (fun v hv=>Cf v (hn.items v hv))
   rw [h1,be,h2]
  have c2:eG n.Aggs (oe gj)=some (n.Aggs.any Hw):=by
   unfold eG il
   obtain⟨j,h1,h2⟩:=vm (f:=oe gj) (g:=Hw) n.Aggs 0 (fun v hv=>by
    unfold oe Hw
    rw [Cf _ (hn.args v hv)]
    by_cases h3:v.Tag=3<;>simp [h3])
   rw [h1,be,h2]
  rw [c1,c2]
  simp only [be,wH,C2]
  cases Aq n.Cond<;>cases n.Items.any Aq<;>cases n.Aggs.any Hw<;>simp

theorem QD{a b:List Int}(hs:iy n)(h1:n.Op=1)(h:bo n a b=some (k,true)):0≤n.Table∧n.Table≤3:=by
 obtain⟨k1,o,k',g1,g2,_⟩:=BG default n a b hs h1
 rw [h]at g2
 injection g2 with g2
 injection g2 with _ g2
 subst g2
 unfold eX at g1
 split at g1
 ·rename_i hc
  simp only [kN,kO]at hc
  omega
 ·simp at g1
def zB(l:bN)(e p:Nat):bN:=⟨((l.Nodes.take (p+1)).drop e).map (FG (-(e:Int)))⟩
theorem vP{e:Nat}(hp:p<l.Nodes.length):(zB l e p).Nodes.length=p+1-e:=by
 unfold zB;simp;omega
theorem HW(h:mP l)(e p:Nat):mP (zB l e p):=
 TN fun n hn=>h n (List.mem_of_mem_take (List.mem_of_mem_drop hn))
theorem M0(hS:mP l)(hl:l.Nodes.length≤60){e:Nat}(hp:p<l.Nodes.length)(he:e≤100): ∀(tl:List am) (i fu:Nat) (out:bN),(l.Nodes.take (p+1)).drop i=tl→i+tl.length=p+1→tl.length<fu→out.Nodes.length≤i→ne l (p:Int) (e:Int) fu (i:Int) out=some (⟨out.Nodes++tl.map (FG (-(e:Int)))⟩,0):=by
 intro tl
 induction tl with
 |nil=>
  intro i fu out hd hi hf _
  obtain⟨fu,rfl⟩: ∃k,fu=k+1:=⟨fu-1,by omega⟩
  simp only [pC,yq]at hi
  rw [ne,aM (by simp;omega)]
  simp
 |cons x tl ih=>
  intro i fu out hd hi hf ho
  simp only [iO]at hi hf
  obtain⟨fu,rfl⟩: ∃k,fu=k+1:=⟨fu-1,by omega⟩
  obtain⟨h1,h2,h3⟩:=iN hd
  have h1' :cN l.Nodes (i:Int)=some x:=by
   rw [bZ]at h1 ⊢
   rw [Bw (by omega)]at h1
   exact h1
  have hx:iy x:=hS x (by rw [bZ]at h1';exact rC h1')
  rw [ne,aY (by simp;omega),h1']
  simp only [be]
  rw [cn (n:=(0:Int)-(e:Int)) (by omega) (by omega),C6 hx]
  simp only [be]
  rw [cq (by simp;omega),cn (by omega) (by omega),show((i:Int)+1)=((i+1:Nat):Int)from by omega]
  simp only [be]
  rw [ih (i+1) fu _ h3 (by omega) (by omega) (by simp;omega)]
  simp
theorem JZ(hS:mP l){ob:aE}(hL:Nc l ob): ∀n∈l.Nodes,IQ n∧(n.Op=1→0≤n.Table∧n.Table≤3):=by
 intro n hn
 obtain⟨j,hj,rfl⟩:=List.mem_iff_getElem.1 hn
 obtain⟨m,F⟩:=E2 hL.inv hL.le hj
 have hm:m=l.Nodes[j]:=by
  have:=F.node
  rw [bZ,oy hj]at this
  injection this with this
  exact this.symm
 subst hm
 exact⟨R4 (hS _ hn) F.op F.own F.kinds,fun h1=>QD (hS _ hn) h1 F.kinds⟩

theorem Km(n:am)(d:Int): ∀(fu:Nat) (ok:Bool) (i:Int),dx (FG d n) fu ok i=dx n fu ok i:=by
 intro fu
 induction fu with
 |zero=>intros;rfl
 |succ fu ih=>intros;simp only [dx,ih];rfl
theorem Kk(n:am)(d:Int)(a:List Int): ∀(fu:Nat) (out:List Int) (ok:Bool) (i:Int),cI (FG d n) a fu out ok i=cI n a fu out ok i:=by
 intro fu
 induction fu with
 |zero=>intros;rfl
 |succ fu ih=>intros;simp only [cI,ih];rfl
theorem Kl(n:am)(d:Int)(a:List Int): ∀(fu:Nat) (out:List Int) (i:Int),cR (FG d n) a fu out i=cR n a fu out i:=by
 intro fu
 induction fu with
 |zero=>intros;rfl
 |succ fu ih=>intros;simp only [cR,ih,Kk];rfl
theorem Kj(n:am)(d:Int)(a:List Int): ∀(fu:Nat) (out:List Int) (ok:Bool) (i:Int),cQ (FG d n) a fu out ok i=cQ n a fu out ok i:=by
 intro fu
 induction fu with
 |zero=>intros;rfl
 |succ fu ih=>intros;simp only [cQ,ih];rfl
theorem Ki(n:am)(d:Int)(a:List Int): ∀(fu:Nat) (ok:Bool) (i:Int),de (FG d n) a fu ok i=de n a fu ok i:=by
 intro fu
 induction fu with
 |zero=>intros;rfl
 |succ fu ih=>intros;simp only [de,ih];rfl
theorem Kh(n:am)(d:Int)(a b:List Int):bo (FG d n) a b=bo n a b:=by
 unfold bo
 simp only [Km,Kl,Kj,Ki]
 rfl
theorem Tv(n:am)(d:Int):zD (FG d n)=zD n:=rfl
section
variable{ks:Nat→List Int}
abbrev FE(l:bN)(sz:Nat→Nat)(ks:Nat→List Int):Prop:= ∀j,j<l.Nodes.length→ ∃n,zZ l sz ks j n
theorem Zq(H:FE l sz ks): ∀(p:Nat),p<l.Nodes.length→ ∀q,p+1-sz p≤q→q≤p→p+1-sz p≤q+1-sz q:=by
 intro p
 induction p using Nat.strongRecOn with
 |ind p ih=>
  intro hp q h1 h2
  by_cases hq:q=p
  ·subst hq;exact dK _
  obtain⟨n,F⟩:=H p hp
  by_cases c1:n.Op=1
  ·obtain⟨_,_,e⟩:=F.lf c1
   omega
  by_cases c27:n.Op=2∨n.Op=7
  ·obtain⟨a,b,c,d,e⟩:=F.bi c27
   obtain⟨nA,FA⟩:=H (p-1-sz (p-1)) (by omega)
   have hpA:=FA.pos
   have hlA:=FA.le
   by_cases hB:p-1+1-sz (p-1)≤q
   ·have:=ih (p-1) (by omega) (by omega) q hB (by omega)
    omega
   ·have:=ih (p-1-sz (p-1)) (by omega) (by omega) q (by omega) (by omega)
    omega
  ·obtain⟨a,b,c,d⟩:=F.un c1 (fun h=>c27 (.inl h)) (fun h=>c27 (.inr h))
   have:=ih (p-1) (by omega) (by omega) q (by omega) (by omega)
   omega
theorem XN(H:FE l sz ks)(hp:p<l.Nodes.length)(h1:p+1-sz p≤i)(h2:i≤p)(F:zZ l sz ks i n):(n.A= -1∨((p+1-sz p:Nat):Int)≤n.A∧n.A<(i:Int))∧(n.B= -1∨((p+1-sz p:Nat):Int)≤n.B∧n.B<(i:Int)):=by
 have hn:=Zq H p hp i h1 h2
 by_cases c1:n.Op=1
 ·obtain⟨a,b,_⟩:=F.lf c1
  exact⟨.inl a,.inl b⟩
 by_cases c27:n.Op=2∨n.Op=7
 ·obtain⟨a,b,c,d,e⟩:=F.bi c27
  obtain⟨nA,FA⟩:=H (i-1-sz (i-1)) (by omega)
  have hpA:=FA.pos
  have hlA:=FA.le
  exact⟨.inr (by omega),.inr (by omega)⟩
 ·obtain⟨a,b,c,d⟩:=F.un c1 (fun h=>c27 (.inl h)) (fun h=>c27 (.inr h))
  obtain⟨nA,FA⟩:=H (i-1) (by omega)
  have hpA:=FA.pos
  exact⟨.inr (by omega),.inl c⟩
theorem Aw{d:Int}(h:x= -1):D4 d x= -1:=by unfold D4;rw [aM (by omega),h]
theorem HC{e:Int}(h:0≤e)(h2:e≤x)(h3:x≤100000):D4 (-e) x=x-e:=by
 unfold D4
 rw [aY (by omega),cn (by omega) (by omega)]
 omega
theorem Ev(H:FE l sz ks)(hl:l.Nodes.length≤60)(hp:p<l.Nodes.length)(hs:sz p≤p+1):FE (zB l (p+1-sz p) p) (fun j=>sz (p+1-sz p+j)) (fun j=>ks (p+1-sz p+j)):=by
 obtain⟨e,he⟩: ∃e,e=p+1-sz p:=⟨_,rfl⟩
 rw [←he]
 intro j hj
 rw [vP hp]at hj
 obtain⟨n,F⟩:=H (e+j) (by omega)
 have hin:=XN H hp (i:=e+j) (by omega) (by omega) F
 have hnest:=Zq H p hp (e+j) (by omega) (by omega)
 rw [←he]at hin hnest
 obtain⟨hA,hB⟩:=hin
 refine⟨FG (-(e:Int)) n,⟨?_,F.op,by rw [Tv];exact F.own,fun c1=>?_,fun c1 c2 c7=>?_,fun c27=>?_,?_,fun c8=>?_,F.len,F.pos,?_⟩⟩
 ·have h1:=F.node
  rw [bZ]at h1 ⊢
  unfold zB
  simp only
  rw [Cp,wF,Bw (by omega),h1]
  rfl
 ·obtain⟨a,b,c⟩:=F.lf c1
  exact⟨Aw a,Aw b,c⟩
 ·obtain⟨a,b,c,d⟩:=F.un c1 c2 c7
  obtain⟨nA,FA⟩:=H (e+j-1) (by omega)
  have hpA:=FA.pos
  have eA:D4 (-(e:Int)) n.A=n.A-(e:Int):=HC (by omega) (by omega) (by omega)
  refine⟨by omega,?_,Aw c,?_⟩
  ·show D4 (-(e:Int)) n.A=_
   rw [eA];omega
  ·show sz (e+j)=sz (e+(j-1))+1
   rw [d,show e+j-1=e+(j-1)from by omega]
 ·obtain⟨a,b,c,d,g⟩:=F.bi c27
  obtain⟨nA,FA⟩:=H (e+j-1-sz (e+j-1)) (by omega)
  have hpA:=FA.pos
  have eA:D4 (-(e:Int)) n.A=n.A-(e:Int):=HC (by omega) (by omega) (by omega)
  have eB:D4 (-(e:Int)) n.B=n.B-(e:Int):=HC (by omega) (by omega) (by omega)
  have ej:e+(j-1)=e+j-1:=by omega
  refine⟨by omega,?_,?_,?_,?_⟩
  ·show D4 (-(e:Int)) n.B=_
   rw [eB];omega
  ·show sz (e+(j-1))<j
   rw [ej];omega
  ·show D4 (-(e:Int)) n.A=(j:Int)-1-(sz (e+(j-1)):Int)
   rw [eA,ej];omega
  ·show sz (e+j)=sz (e+(j-1-sz (e+(j-1))))+sz (e+(j-1))+1
   rw [ej,g,show e+(j-1-sz (e+j-1))=e+j-1-sz (e+j-1)from by omega]
 ·rw [Kh]
  have key: ∀x:Int,(x= -1∨(e:Int)≤x∧x<((e+j:Nat):Int))→(if D4 (-(e:Int)) x<0 then([]:List Int)else ks (e+(D4 (-(e:Int)) x).toNat))=if x<0 then []else ks x.toNat:=by
   intro x hx
   rcases hx with hx|hx
   ·rw [Aw hx,aY (by decide),aY (by omega)]
   ·rw [HC (by omega) hx.1 (by omega),aM (by omega),aM (by omega)]
    congr 1
    omega
  have h1:=F.kinds
  rw [←key n.A hA,←key n.B hB]at h1
  exact h1
 ·have:=F.last c8
  rw [vP hp]
  omega
 ·show sz (e+j)≤j+1
  have:=F.le
  omega
theorem LY(H:FE l sz ks)(hl:l.Nodes.length≤60)(hp:p<l.Nodes.length)(hs:sz p≤p+1)(hs1:1≤sz p):lJ (zB l (p+1-sz p) p)=true:=by
 have hlen:=vP (l:=l) (e:=p+1-sz p) hp
 refine KA (by rw [hlen];omega) (by rw [hlen];omega) (Ev H hl hp hs) ?_
 rw [hlen]
 show sz (p+1-sz p+(p+1-(p+1-sz p)-1))=_
 rw [show p+1-sz p+(p+1-(p+1-sz p)-1)=p from by omega]
 omega
end

theorem ab3{k:Int}(h:k4 k):(decide (0≤k)&&decide (k≤3))=true:=by simp;unfold k4 at h;omega
theorem xZ{a b:List Int}(ha:yD a=true)(hb:yD b=true):yD (a++b)=true:=by unfold yD at*;rw [List.all_append,ha,hb];rfl
theorem Dl{k:Int}(h:k4 k):yD [k]=true:=by rw [AQ,ab3 h];rfl
theorem qc{xs ys zs:List α}(h:app xs ys=some zs):zs=xs++ys:=by
 unfold app at h
 split at h
 ·injection h with h;exact h.symm
 ·cases h
theorem Kn(e:br)(kinds:List Int):k4 (fb e kinds).1:=by
 unfold fb
 split
 ·split
  ·rename_i hk
   split
   ·cases ht:mg e.Nodes with
    |none=>exact .inl rfl
    |some t=>
     obtain⟨hw,_,_⟩:=jX ht
     simp only [be]
     cases hd:kd kinds t with
     |none=>exact .inl rfl
     |some k=>exact NV (fun k=>xY hk) t hw hd
   ·exact .inl rfl
  ·exact .inl rfl
 ·exact .inl rfl
theorem YK(g:ea)(kinds:List Int):k4 (zQ g kinds).1:=by
 have hk:=Kn g.Arg kinds
 unfold zQ kR
 rw [j3]
 simp only [be]
 repeat' split
 all_goals first|exact hk|simp [k4]
theorem Rr{a:List Int}{i k:Int}(ha:yD a=true)(h:cN a i=some k):k4 k:=by
 obtain⟨_,h2⟩:=mY h
 exact xY ha (rC h2)
theorem XK(n:am)(a:List Int): ∀(fu:Nat) (out:List Int) (ok:Bool) (i:Int) (k:List Int) (o:Bool),yD out=true→cI n a fu out ok i=some (k,o)→yD k=true:=by
 intro fu
 induction fu with
 |zero=>intro _ _ _ _ _ _ h;cases h
 |succ fu ih=>
  intro out ok i k o ho h
  rw [cI]at h
  split at h
  ·cases hx:cN n.Aggs i with
   |none=>rw [hx]at h;cases h
   |some g=>
    rw [hx]at h
    simp only [be,mq]at h
    cases ha:app out [(zQ g a).1]with
    |none=>rw [ha]at h;cases h
    |some z=>
     rw [ha]at h
     exact ih _ _ _ _ _ (by rw [qc ha];exact xZ ho (Dl (YK g a))) h
  ·injection h with h
   injection h with h _
   rw [←h];exact ho
theorem XL(n:am)(a:List Int)(hka:yD a=true): ∀(fu:Nat) (out:List Int) (i:Int) (k:List Int) (o:Bool),yD out=true→cR n a fu out i=some (k,o)→yD k=true:=by
 intro fu
 induction fu with
 |zero=>intro _ _ _ _ _ h;cases h
 |succ fu ih=>
  intro out i k o ho h
  rw [cR]at h
  split at h
  ·cases hx:cN n.Keys i with
   |none=>rw [hx]at h;cases h
   |some g=>
    rw [hx]at h
    simp only [be]at h
    split at h
    ·injection h with h;injection h with h _;rw [←h];rfl
    ·cases hy:cN a g with
     |none=>rw [hy]at h;cases h
     |some y=>
      rw [hy]at h
      simp only [be]at h
      cases ha:app out [y]with
      |none=>rw [ha]at h;cases h
      |some z=>
       rw [ha]at h
       exact ih _ _ _ _ (by rw [qc ha];exact xZ ho (Dl (Rr hka hy))) h
  ·exact XK n a _ _ _ _ _ _ ho h
theorem XJ(n:am)(a:List Int): ∀(fu:Nat) (out:List Int) (ok:Bool) (i:Int) (k:List Int) (o:Bool),yD out=true→cQ n a fu out ok i=some (k,o)→yD k=true:=by
 intro fu
 induction fu with
 |zero=>intro _ _ _ _ _ _ h;cases h
 |succ fu ih=>
  intro out ok i k o ho h
  rw [cQ]at h
  split at h
  ·cases hx:cN n.Items i with
   |none=>rw [hx]at h;cases h
   |some g=>
    rw [hx]at h
    simp only [be,j3]at h
    cases ha:app out [(fb g a).1]with
    |none=>rw [ha]at h;cases h
    |some z=>
     rw [ha]at h
     exact ih _ _ _ _ _ (by rw [qc ha];exact xZ ho (Dl (Kn g a))) h
  ·injection h with h
   injection h with h _
   rw [←h];exact ho
theorem Zu(n:am)(a:List Int): ∀(fu:Nat) (ok:Bool) (i:Int) (k:List Int) (o:Bool),de n a fu ok i=some (k,o)→k=a:=by
 intro fu
 induction fu with
 |zero=>intro _ _ _ _ h;cases h
 |succ fu ih=>
  intro ok i k o h
  rw [de]at h
  split at h
  ·generalize (if ok=true then(cN n.Order i).bind fun e10=>some (decide ((0:Int)≤e10.Col))else some false)=z at h
   cases z with
   |none=>cases h
   |some z=>
    simp only [be]at h
    generalize (if z=true then(cN n.Order i).bind fun e11=>some (decide (e11.Col<(a.length:Int)))else some false)=y at h
    cases y with
    |none=>cases h
    |some y=>exact ih _ _ _ _ h
  ·injection h with h
   injection h with h _
   exact h.symm
theorem Zw(n:am): ∀(fu:Nat) (ok:Bool) (i:Int) (k:List Int) (o:Bool),dx n fu ok i=some (k,o)→k=n.Kinds:=by
 intro fu
 induction fu with
 |zero=>intro _ _ _ _ h;cases h
 |succ fu ih=>
  intro ok i k o h
  rw [dx]at h
  split at h
  ·generalize (if ok=true then(cN n.Kinds i).bind fun e10=>some (decide ((1:Int)≤e10))else some false)=z at h
   cases z with
   |none=>cases h
   |some z=>
    simp only [be]at h
    generalize (if z=true then(cN n.Kinds i).bind fun e11=>some (decide (e11≤(3:Int)))else some false)=y at h
    cases y with
    |none=>cases h
    |some y=>exact ih _ _ _ _ h
  ·injection h with h
   injection h with h _
   exact h.symm
theorem Zv(b:List Int): ∀(tl:List Int) (i:Nat) (out:List Int) (ok:Bool) (k:List Int) (o:Bool),yD tl=true→yD b=true→yD out=true→dw b tl i out ok=some (k,o)→yD k=true∧k.length=out.length+tl.length:=by
 intro tl
 induction tl with
 |nil=>
  intro i out ok k o _ _ ho h
  rw [dw]at h
  injection h with h
  injection h with h _
  rw [←h];exact⟨ho,rfl⟩
 |cons x tl ih=>
  intro i out ok k o ht hb ho h
  rw [AQ,kN]at ht
  have step: ∀z:Int,k4 z→ip b (dw b tl) i out ok z=some (k,o)→yD k=true∧k.length=out.length+(tl.length+1):=by
   intro z hz hk
   unfold ip at hk
   cases ha:app out [z]with
   |none=>rw [ha]at hk;cases hk
   |some w=>
    rw [ha]at hk
    simp only [be]at hk
    generalize (if ok=true then(cN b (i:Int)).bind fun e7=>(if(!(e7==z))=true then(cN b (i:Int)).bind fun e8=>some (e8==(0:Int))else some true).bind fun t3=>some t3 else some false)=q at hk
    cases q with
    |none=>cases hk
    |some q=>
     have:=ih (i+1) w q k o ht.2 hb (by rw [qc ha];exact xZ ho (Dl hz)) hk
     rw [qc ha]at this
     simp only [jd,iO,pC]at this
     exact⟨this.1,by omega⟩
  rw [dw]at h
  split at h
  ·cases hx:cN b (i:Int)with
   |none=>rw [hx]at h;cases h
   |some y=>
    rw [hx]at h
    exact step y (Rr hb hx) h
  ·exact step x (by have:=ht.1;simp at this;unfold k4;omega) h
theorem Pw{a b:List Int}(hs:iy n)(hop:Ez n.Op=true)(ha:yD a=true)(hb:yD b=true)(h:bo n a b=some (k,true)):yD k=true:=by
 have h0:=h
 unfold bo at h
 rcases pr hop with c|c|c|c|c|c|c|c
 ·rw [aY (by simp [c])]at h
  rw [Zw n _ _ _ _ _ h]
  obtain⟨k1,o,k',g1,g2,_⟩:=BG default n a b hs c
  rw [h0]at g2
  injection g2 with g2
  injection g2 with _ g2
  subst g2
  unfold eX at g1
  split at g1
  ·have hc:cx n.Kinds jr=some (n.Kinds.any fun k=> !(((k==(1:Int))||(k==(2:Int)))||(k==(3:Int)))):=jN (fun v=>rfl) _
   rw [hc]at g1
   simp only [be,yM]at g1
   injection g1 with g1
   injection g1 with _ g1
   rw [CX,IZ]at g1
   unfold yD
   rw [jO]
   intro z hz
   have:=g1 z hz
   simp at this
   simp;omega
  ·simp at g1
 ·rw [aM (by simp [c]),aY (by simp [c])]at h
  cases h1:app ([]:List Int) a with
  |none=>rw [h1]at h;cases h
  |some l1=>
   rw [h1]at h
   simp only [be]at h
   cases h2:app l1 b with
   |none=>rw [h2]at h;cases h
   |some l2=>
    rw [h2]at h
    simp only [be,jm]at h
    injection h with h
    injection h with h _
    rw [←h,qc h2,qc h1]
    exact xZ (xZ rfl ha) hb
 ·rw [aM (by simp [c]),aM (by simp [c]),aY (by simp [c])]at h
  simp only [be,jm]at h
  injection h with h
  injection h with h _
  rw [←h];exact ha
 ·rw [aM (by simp [c]),aM (by simp [c]),aM (by simp [c]),aY (by simp [c])]at h
  exact XL n a ha _ _ _ _ _ rfl h
 ·rw [aM (by simp [c]),aM (by simp [c]),aM (by simp [c]),aM (by simp [c]),aY (by simp [c])]at h
  exact XJ n a _ _ _ _ _ _ rfl h
 ·rw [aM (by simp [c]),aM (by simp [c]),aM (by simp [c]),aM (by simp [c]),aM (by simp [c]),aY (by simp [c])]at h
  injection h with h
  injection h with h _
  rw [←h];exact ha
 ·rw [aM (by simp [c]),aM (by simp [c]),aM (by simp [c]),aM (by simp [c]),aM (by simp [c]),aM (by simp [c]),aY (by simp [c])]at h
  split at h
  ·injection h with h;injection h with _ h;cases h
  ·exact(Zv b a 0 [] true k true ha hb rfl h).1
 ·rw [aM (by simp [c]),aM (by simp [c]),aM (by simp [c]),aM (by simp [c]),aM (by simp [c]),aM (by simp [c]),aM (by simp [c])]at h
  rw [Zu n a _ _ _ _ _ h];exact ha
section
variable{d:bN}{sz' :Nat→Nat}{ks ks' :Nat→List Int}
theorem rf(F:zZ l sz ks j n):(n.A= -1∨0≤n.A∧n.A<(j:Int))∧(n.B= -1∨0≤n.B∧n.B<(j:Int)):=by
 by_cases c1:n.Op=1
 ·obtain⟨a,b,_⟩:=F.lf c1
  exact⟨.inl a,.inl b⟩
 by_cases c27:n.Op=2∨n.Op=7
 ·obtain⟨a,b,c,d,e⟩:=F.bi c27
  exact⟨.inr (by omega),.inr (by omega)⟩
 ·obtain⟨a,b,c,d⟩:=F.un c1 (fun h=>c27 (.inl h)) (fun h=>c27 (.inr h))
  exact⟨.inr (by omega),.inl c⟩
theorem VT(hS:mP l)(H:FE l sz ks): ∀j,j<l.Nodes.length→yD (ks j)=true:=by
 intro j
 induction j using Nat.strongRecOn with
 |ind j ih=>
  intro hj
  obtain⟨n,F⟩:=H j hj
  have hn:iy n:=hS n (by have:=F.node;rw [bZ]at this;exact rC this)
  obtain⟨hA,hB⟩:=rf F
  refine Pw hn F.op ?_ ?_ F.kinds
  ·split
   ·rfl
   ·exact ih _ (by omega) (by omega)
  ·split
   ·rfl
   ·exact ih _ (by omega) (by omega)
theorem Th{e:Nat}(h:0≤x)(h2:x≤10000)(h3:e≤10000):D4 (e:Int) x=x+e:=by
 unfold D4
 rw [aY h,cn (by omega) (by omega)]
theorem YX{e m:Nat}(H:FE l sz ks)(H' :FE d sz' ks')(hm:m≤l.Nodes.length)(hl:l.Nodes.length≤200)(he:e≤200)(hd:e+m≤d.Nodes.length)(hn: ∀j,j<m→ ∀n,cN l.Nodes (j:Int)=some n→cN d.Nodes ((e+j:Nat):Int)=some (FG (e:Int) n)): ∀j,j<m→sz' (e+j)=sz j∧ks' (e+j)=ks j:=by
 intro j
 induction j using Nat.strongRecOn with
 |ind j ih=>
  intro hj
  obtain⟨n,F⟩:=H j (by omega)
  obtain⟨n',F'⟩:=H' (e+j) (by omega)
  have hnn:n' =FG (e:Int) n:=by
   have h1:=hn j hj n F.node
   rw [F'.node]at h1
   injection h1
  subst hnn
  obtain⟨hA,hB⟩:=rf F
  constructor
  ·by_cases c1:n.Op=1
   ·rw [(F'.lf c1).2.2,(F.lf c1).2.2]
   by_cases c27:n.Op=2∨n.Op=7
   ·obtain⟨a,b,c,g,q⟩:=F.bi c27
    obtain⟨a',b',c',g',q'⟩:=F'.bi c27
    have ej:e+j-1=e+(j-1):=by omega
    rw [ej,(ih (j-1) (by omega) (by omega)).1,show e+(j-1)-sz (j-1)=e+(j-1-sz (j-1))from by omega,(ih (j-1-sz (j-1)) (by omega) (by omega)).1]at q'
    rw [q',q]
   ·obtain⟨a,b,c,g⟩:=F.un c1 (fun h=>c27 (.inl h)) (fun h=>c27 (.inr h))
    obtain⟨a',b',c',g'⟩:=F'.un c1 (fun h=>c27 (.inl h)) (fun h=>c27 (.inr h))
    rw [show e+j-1=e+(j-1)from by omega,(ih (j-1) (by omega) (by omega)).1]at g'
    rw [g',g]
  ·have key: ∀x:Int,(x= -1∨0≤x∧x<(j:Int))→(if D4 (e:Int) x<0 then([]:List Int)else ks' (D4 (e:Int) x).toNat)=if x<0 then []else ks x.toNat:=by
    intro x hx
    rcases hx with hx|hx
    ·rw [Aw hx,aY (by decide),aY (by omega)]
    ·rw [Th (by omega) (by omega) (by omega),aM (by omega),aM (by omega),show(x+(e:Int)).toNat=e+x.toNat from by omega,(ih x.toNat (by omega) (by omega)).2]
   have h1:=F'.kinds
   have hA' :(FG (e:Int) n).A=D4 (e:Int) n.A:=rfl
   have hB' :(FG (e:Int) n).B=D4 (e:Int) n.B:=rfl
   rw [Kh,hA',hB',key n.A hA,key n.B hB,F.kinds]at h1
   injection h1 with h1
   injection h1 with h1 _
   exact h1.symm
end
structure Hd(l:bN)(sz:Nat→Nat)(ks:Nat→List Int):Prop where
 pos:1≤l.Nodes.length
 le:l.Nodes.length≤60
 all:FE l sz ks
 whole:sz (l.Nodes.length-1)=l.Nodes.length
 kinds:pt l=some (ks (l.Nodes.length-1),0)
theorem EP(hS:mP l)(h:lJ l=true): ∃sz ks,Hd l sz ks:=by
 obtain⟨_,_,ob,j,r3,r4⟩:=sS hS
 obtain⟨hL,hj⟩:=r4 h
 have hle:=hL.le
 have hpos:=hL.pos
 obtain⟨N0,_⟩:=hL.inv.at (j:=l.Nodes.length-1) (by omega)
 refine⟨wA ob.first,Mp ob.kinds,hpos,hle,fun j hj=>E2 hL.inv hle hj,?_,?_⟩
 ·have e1:=N0.size gX (va (by omega))
  have e2:=hL.whole
  unfold kw at e2
  rw [show(l.Nodes.length:Int)-1=((l.Nodes.length-1:Nat):Int)from by omega,e1]at e2
  injection e2 with e2
  omega
 ·unfold pt
  rw [r3,h]
  simp only [be,mS,gp,ek]
  have hk:cN ob.kinds j=some (Mp ob.kinds (l.Nodes.length-1)):=by
   rw [hj,show(l.Nodes.length:Int)-1=((l.Nodes.length-1:Nat):Int)from by omega,bZ]
   unfold Mp
   rw [oy (by rw [hL.inv.kl];omega)];rfl
  rw [hk]
  simp only [be]
  rw [sl _ (by have:=N0.len;omega)]
  rfl
theorem Kf{sz' :Nat→Nat}{ks ks' :Nat→List Int}(hS:mP l)(K:Hd l sz ks)(H:FE l sz' ks'):ks' (l.Nodes.length-1)=ks (l.Nodes.length-1)∧sz' (l.Nodes.length-1)=l.Nodes.length:=by
 have hle:=K.le
 have hpos:=K.pos
 have:=YX (l:=l) (d:=l) (e:=0) (m:=l.Nodes.length) K.all H (dK _) (by omega) (by omega) (by omega) (fun j hj n hn=>by
  obtain⟨n',F⟩:=K.all j hj
  have e:n' =n:=by have:=F.node;rw [hn]at this;injection this with this;exact this.symm
  subst e
  obtain⟨hA,hB⟩:=rf F
  rw [uD,hn]
  have hz:=Jq (n:=n') (by omega) (by omega)
  rw [show((0:Nat):Int)=0 from rfl,hz]) (l.Nodes.length-1) (by omega)
 simp only [uD]at this
 exact⟨this.2,by rw [this.1];exact K.whole⟩

def atN(x y:Int)(n:am):am:={n with A:=x,B:=y}
def d1(n:am)(a:bN):bN:=⟨a.Nodes++[atN ((a.Nodes.length:Int)-1) (-1) n]⟩
def d2(n:am)(a b:bN):bN:=⟨(a.Nodes++b.Nodes.map (FG (a.Nodes.length:Int)))++[atN ((a.Nodes.length:Int)-1) ((a.Nodes.length:Int)+(b.Nodes.length:Int)-1) n]⟩
theorem Pu{a:bN}{ks:Nat→List Int}(K:Hd a sz ks)(F:zZ a sz ks j n)(hj:j<a.Nodes.length):FG ((0:Nat):Int) n=n:=by
 obtain⟨hA,hB⟩:=rf F
 have hle:=K.le
 exact Jq (by omega) (by omega)

theorem LS(hS:mP l)(h:lJ l=true):vQ l=some (!(l.Nodes.any C2)):=by
 obtain⟨_,⟨j,r2⟩,ob,j',r3,r4⟩:=sS hS
 obtain⟨hL,_⟩:=r4 h
 unfold vQ
 rw [r2,h]
 simp only [eQ,be]
 rw [aM (by decide)]
 exact Fj l.Nodes (fun n hn=>(JZ hS hL n hn).1)

theorem xF(h:i≤100000):IntKind.i64.wrap ((i:Int)+1)=((i+1:Nat):Int):=by rw [tL (by omega) (by omega)];omega
theorem NR(n:am): ∀(fu:Nat) (ok:Bool) (i:Int) (k:List Int),dx n fu ok i=some (k,true)→ok=true∧0≤n.Table∧n.Table≤3∧k=n.Kinds
 |0,_,_,_,h=>by unfold dx at h;cases h
 |fu+1,ok,i,k,h=>by
  unfold dx at h
  split at h
  ·cases ok with
   |false=>
    simp only [gp,ek,be]at h
    exact absurd (NR n fu false _ k h).1 (by simp)
   |true=>
    simp only [eQ]at h
    cases hx:cN n.Kinds i with
    |none=>rw [hx]at h;cases h
    |some e=>
     rw [hx]at h
     simp only [be]at h
     split at h
     ·exact⟨rfl,(NR n fu _ _ k h).2⟩
     ·exact⟨rfl,(NR n fu _ _ k h).2⟩
  ·injection h with h
   injection h with h h2
   simp only [kN,kO]at h2
   exact⟨h2.1.1.1.1,h2.1.1.1.2,h2.1.1.2,h.symm⟩
theorem We(n:am)(a:List Int)(hs:n.Aggs.length≤5000): ∀(l:List ea) (fu:Nat) (out:List Int) (ok:Bool) (i:Nat) (k:List Int),n.Aggs.drop i=l→cI n a fu out ok (i:Int)=some (k,true)→ok=true∧(∀g∈l,(zQ g a).2=true)∧k=out++(l.map fun g=>(zQ g a).1)∧n.Keys.length≤3
 |_,0,_,_,_,_,_,h=>by unfold cI at h;cases h
 |[],fu+1,out,ok,i,k,hd,h=>by
  unfold cI at h
  have:=oJ hd
  rw [aM (by rw [kO];omega)]at h
  injection h with h
  injection h with h h2
  simp only [kN,kO]at h2
  exact⟨h2.1.1.1,by simp,by simp [h],by have:=h2.1.1.2;omega⟩
 |g::t,fu+1,out,ok,i,k,hd,h=>by
  obtain⟨h1,h2,h3⟩:=iN hd
  unfold cI at h
  rw [aY (by rw [kO];omega),h1,be,mq,be,xF (by omega)]at h
  cases ha:app out [(zQ g a).1]with
  |none=>rw [ha]at h;cases h
  |some z=>
   rw [ha,be]at h
   obtain⟨p1,p2,p3,p4⟩:=We n a hs t fu z _ (i+1) k h3 h
   rw [kN]at p1
   refine⟨p1.1,?_,?_,p4⟩
   ·intro y hy
    rcases fc.1 hy with q|q
    ·rw [q];exact p1.2
    ·exact p2 y q
   ·rw [p3,qc ha];simp
def ER(a:List Int)(c:Int):Int:=(a[c.toNat]?).getD 0
theorem Rq{a:List Int}{c:Int}(h:0≤c)(h2:c<(a.length:Int)):cN a c=some (ER a c):=by
 obtain⟨k,hk⟩:=DG h
 subst hk
 have hk:k<a.length:=by omega
 unfold ER
 rw [gT k rfl]
 simp [hk]
theorem Wd(n:am)(a:List Int)(hs:n.Keys.length≤5000)(hs2:n.Aggs.length≤5000): ∀(l:List Int) (fu:Nat) (out:List Int) (i:Nat) (k:List Int),n.Keys.drop i=l→cR n a fu out (i:Int)=some (k,true)→(∀c∈l,0≤c∧c<(a.length:Int))∧(∀g∈n.Aggs,(zQ g a).2=true)∧k=(out++l.map (ER a))++(n.Aggs.map fun g=>(zQ g a).1)∧n.Keys.length≤3
 |_,0,_,_,_,_,h=>by unfold cR at h;cases h
 |[],fu+1,out,i,k,hd,h=>by
  unfold cR at h
  have:=oJ hd
  rw [aM (by rw [kO];omega)]at h
  obtain⟨_,p2,p3,p4⟩:=We n a hs2 n.Aggs gX out true 0 k (by simp) h
  exact⟨by simp,p2,by simpa using p3,p4⟩
 |c::t,fu+1,out,i,k,hd,h=>by
  obtain⟨h1,h2,h3⟩:=iN hd
  unfold cR at h
  rw [aY (by rw [kO];omega),h1,be,xF (by omega)]at h
  by_cases hc:0≤c∧c<(a.length:Int)
  ·rw [aM (by simp only [pH,kO];omega),Rq hc.1 hc.2,be]at h
   cases ha:app out [ER a c]with
   |none=>rw [ha]at h;cases h
   |some z=>
    rw [ha,be]at h
    obtain⟨p1,p2,p3,p4⟩:=Wd n a hs hs2 t fu z (i+1) k h3 h
    refine⟨?_,p2,?_,p4⟩
    ·intro y hy
     rcases fc.1 hy with q|q
     ·rw [q];exact hc
     ·exact p1 y q
    ·rw [p3,qc ha];simp
  ·rw [aY (by simp only [pH,kO];omega)]at h
   injection h with h
   injection h with h h2
   cases h2
theorem Wc(n:am)(a:List Int)(hs:n.Items.length≤5000): ∀(l:List br) (fu:Nat) (out:List Int) (ok:Bool) (i:Nat) (k:List Int),n.Items.drop i=l→cQ n a fu out ok (i:Int)=some (k,true)→ok=true∧(∀e∈l,(fb e a).2=0)∧k=out++l.map fun e=>(fb e a).1
 |_,0,_,_,_,_,_,h=>by unfold cQ at h;cases h
 |[],fu+1,out,ok,i,k,hd,h=>by
  unfold cQ at h
  have:=oJ hd
  rw [aM (by rw [kO];omega)]at h
  injection h with h
  injection h with h h2
  simp only [kN,kO]at h2
  exact⟨h2.1.1,by simp,by simp [h]⟩
 |g::t,fu+1,out,ok,i,k,hd,h=>by
  obtain⟨h1,h2,h3⟩:=iN hd
  unfold cQ at h
  rw [aY (by rw [kO];omega),h1,be,j3,be,xF (by omega)]at h
  cases ha:app out [(fb g a).1]with
  |none=>rw [ha]at h;cases h
  |some z=>
   rw [ha,be]at h
   obtain⟨p1,p2,p3⟩:=Wc n a hs t fu z _ (i+1) k h3 h
   simp only [kN,qZ]at p1
   refine⟨p1.1,?_,?_⟩
   ·intro y hy
    rcases fc.1 hy with q|q
    ·rw [q];exact p1.2
    ·exact p2 y q
   ·rw [p3,qc ha];simp
theorem NP(n:am)(a:List Int)(hs:n.Order.length≤5000): ∀(l:List gL) (fu:Nat) (ok:Bool) (i:Nat) (k:List Int),n.Order.drop i=l→de n a fu ok (i:Int)=some (k,true)→ok=true∧k=a∧ ∀o∈l,0≤o.Col∧o.Col<(a.length:Int)
 |_,0,_,_,_,_,h=>by unfold de at h;cases h
 |[],fu+1,ok,i,k,hd,h=>by
  unfold de at h
  have:=oJ hd
  rw [aM (by rw [kO];omega)]at h
  injection h with h
  injection h with h h2
  simp only [kN,kO]at h2
  exact⟨h2.1.1.1,h.symm,by simp⟩
 |o::t,fu+1,ok,i,k,hd,h=>by
  obtain⟨h1,h2,h3⟩:=iN hd
  unfold de at h
  rw [aY (by rw [kO];omega),h1,xF (by omega)]at h
  cases ok with
  |false=>
   simp only [gp,ek,be]at h
   exact absurd (NP n a hs t fu false (i+1) k h3 h).1 (by simp)
  |true=>
   simp only [eQ,be]at h
   by_cases hc:0≤o.Col
   ·rw [aY (by simpa using hc),be]at h
    obtain⟨p1,p2,p3⟩:=NP n a hs t fu _ (i+1) k h3 h
    refine⟨rfl,p2,?_⟩
    intro y hy
    rcases fc.1 hy with q|q
    ·rw [q];exact⟨hc,by simpa using p1⟩
    ·exact p3 y q
   ·rw [aM (by simpa using hc),be]at h
    exact absurd (NP n a hs t fu false (i+1) k h3 h).1 (by simp)
def N3(x y k:Int):Prop:=(x=k∨x=0)∧(y=k∨y=0)
theorem NQ(b:List Int)(hb:b.length≤5000): ∀(l:List Int) (i:Nat) (out:List Int) (ok:Bool) (k:List Int),l.length+i=b.length→dw b l i out ok=some (k,true)→ok=true∧ ∃t:List Int,k=out++t∧t.length=l.length∧ ∀(j:Nat) (x y z:Int),l[j]? =some x→b[i+j]? =some y→t[j]? =some z→N3 x y z
 |[],i,out,ok,k,_,h=>by
  unfold dw at h
  injection h with h
  injection h with h h2
  exact⟨h2,[],by simp [h],rfl,by simp⟩
 |x::l,i,out,ok,k,hl,h=>by
  rw [iO]at hl
  have hib:i<b.length:=by omega
  have hi:cN b (i:Int)=some b[i]:=by rw [gT i rfl,oy hib]
  have key: ∀k0:Int,ip b (dw b l) i out ok k0=some (k,true)→ok=true∧(b[i]=k0∨b[i]=0)∧ ∃t:List Int,k=out++k0::t∧t.length=l.length∧ ∀(j:Nat) (x y z:Int),l[j]? =some x→b[i+1+j]? =some y→t[j]? =some z→N3 x y z:=by
   intro k0 h
   unfold ip at h
   cases ha:app out [k0]with
   |none=>rw [ha]at h;cases h
   |some z=>
    rw [ha,be,hi]at h
    cases ok with
    |false=>
     simp only [gp,ek,be]at h
     exact absurd (NQ b hb l (i+1) z false k (by omega) h).1 (by simp)
    |true=>
     simp only [eQ,be]at h
     by_cases he:b[i]=k0
     ·rw [aM (by simp [he]),be,be]at h
      obtain⟨_,t,p1,p2,p3⟩:=NQ b hb l (i+1) z _ k (by omega) h
      exact⟨rfl,.inl he,t,by rw [p1,qc ha];simp,p2,p3⟩
     ·rw [aY (by simp [he]),be,be]at h
      obtain⟨p0,t,p1,p2,p3⟩:=NQ b hb l (i+1) z _ k (by omega) h
      exact⟨rfl,.inr (by simpa using p0),t,by rw [p1,qc ha];simp,p2,p3⟩
  have fin: ∀k0:Int,(x=k0∨x=0)→ip b (dw b l) i out ok k0=some (k,true)→ok=true∧ ∃t:List Int,k=out++t∧t.length=(x::l).length∧ ∀(j:Nat) (x1 y z:Int),(x::l)[j]? =some x1→b[i+j]? =some y→t[j]? =some z→N3 x1 y z:=by
   intro k0 hx h
   obtain⟨p0,p1,t,p2,p3,p4⟩:=key k0 h
   refine⟨p0,k0::t,p2,by simp [p3],?_⟩
   intro j x1 y z h1 h2 h3
   cases j with
   |zero=>
    simp only [FI,Al]at h1 h3
    rw [yq,oy hib,Al]at h2
    subst h1;subst h3;subst h2
    exact⟨hx,p1⟩
   |succ j=>
    rw [Nn]at h1 h3
    exact p4 j x1 y z h1 (by rw [←h2];congr 1;omega) h3
  unfold dw at h
  by_cases hx:x=0
  ·rw [aY (by simpa using hx),hi,be]at h
   exact fin _ (.inr hx) h
  ·rw [aM (by simpa using hx)]at h
   exact fin _ (.inl rfl) h
theorem H7{a b:List Int}(hop:n.Op=1)(h:bo n a b=some (k,true)):k=n.Kinds∧0≤n.Table∧n.Table≤3:=by
 unfold bo at h
 rw [aY (by simpa using hop)]at h
 obtain⟨_,h1,h2,h3⟩:=NR n _ _ _ _ h
 exact⟨h3,h1,h2⟩
theorem NO{a b:List Int}(hop:n.Op=2)(h:bo n a b=some (k,true)):k=a++b∧DV n.Cond (a++b)=true:=by
 unfold bo at h
 rw [aM (by rw [hop];decide),aY (by simpa using hop)]at h
 cases h1:app ([]:List Int) a with
 |none=>rw [h1]at h;cases h
 |some l=>
  rw [h1,be]at h
  cases h2:app l b with
  |none=>rw [h2]at h;cases h
  |some o=>
   have e1:=qc h1
   have e2:=qc h2
   rw [h2,be,jm,be]at h
   injection h with h
   injection h with h h3
   subst h
   rw [e1,kL]at e2
   rw [e2]at h3 ⊢
   exact⟨rfl,h3⟩
theorem GG{a b:List Int}(hop:n.Op=3)(h:bo n a b=some (k,true)):k=a∧DV n.Cond a=true:=by
 unfold bo at h
 rw [aM (by rw [hop];decide),aM (by rw [hop];decide),aY (by simpa using hop),jm,be]at h
 injection h with h
 injection h with h h3
 exact⟨h.symm,h3⟩
theorem J0{a b:List Int}(hs:iy n)(hop:n.Op=4)(h:bo n a b=some (k,true)):(∀c∈n.Keys,0≤c∧c<(a.length:Int))∧(∀g∈n.Aggs,(zQ g a).2=true)∧k=n.Keys.map (ER a)++(n.Aggs.map fun g=>(zQ g a).1)∧n.Keys.length≤3:=by
 unfold bo at h
 rw [aM (by rw [hop];decide),aM (by rw [hop];decide),aM (by rw [hop];decide),aY (by simpa using hop)]at h
 have:=Wd n a hs.keys hs.aggs n.Keys gX [] 0 k (by simp) h
 simpa using this
theorem EH{a b:List Int}(hs:iy n)(hop:n.Op=5)(h:bo n a b=some (k,true)):(∀e∈n.Items,(fb e a).2=0)∧k=n.Items.map fun e=>(fb e a).1:=by
 unfold bo at h
 rw [aM (by rw [hop];decide),aM (by rw [hop];decide),aM (by rw [hop];decide),aM (by rw [hop];decide),aY (by simpa using hop)]at h
 have:=Wc n a hs.items n.Items gX [] true 0 k (by simp) h
 simpa using this.2
theorem Ka{a b:List Int}(hop:n.Op=6)(h:bo n a b=some (k,true)):k=a:=by
 unfold bo at h
 rw [aM (by rw [hop];decide),aM (by rw [hop];decide),aM (by rw [hop];decide),aM (by rw [hop];decide),aM (by rw [hop];decide),aY (by simpa using hop)]at h
 injection h with h
 injection h with h _
 exact h.symm
theorem Q7{a b:List Int}(hal:a.length≤5000)(hop:n.Op=7)(h:bo n a b=some (k,true)):a.length=b.length∧k.length=a.length∧ ∀(j:Nat) (x y z:Int),a[j]? =some x→b[j]? =some y→k[j]? =some z→N3 x y z:=by
 unfold bo at h
 rw [aM (by rw [hop];decide),aM (by rw [hop];decide),aM (by rw [hop];decide),aM (by rw [hop];decide),aM (by rw [hop];decide),aM (by rw [hop];decide),aY (by simpa using hop)]at h
 by_cases he:a.length=b.length
 ·rw [aM (by simp [he])]at h
  obtain⟨_,t,p1,p2,p3⟩:=NQ b (by omega) a 0 [] true k (by omega) h
  rw [kL]at p1
  subst p1
  refine⟨he,p2,fun j x y z h1 h2 h3=>p3 j x y z h1 (by rw [uD];exact h2) h3⟩
 ·rw [aY (by simp only [qo,pI];omega)]at h
  injection h with h
  injection h with h h2
  cases h2
theorem NN{a b:List Int}(hs:iy n)(hop:n.Op=8)(h:bo n a b=some (k,true)):k=a∧ ∀o∈n.Order,0≤o.Col∧o.Col<(a.length:Int):=by
 unfold bo at h
 rw [aM (by rw [hop];decide),aM (by rw [hop];decide),aM (by rw [hop];decide),aM (by rw [hop];decide),aM (by rw [hop];decide),aM (by rw [hop];decide),aM (by rw [hop];decide)]at h
 have:=NP n a hs.order n.Order gX true 0 k (by simp) h
 exact this.2

theorem Au{f:α→α→Int}(h:CW f){p:List α}(hp:p.Pairwise fun a b=>f a b<0):p.Nodup:=by
 unfold List.Nodup
 refine hp.imp ?_
 intro a b hab he
 subst he
 have:=h.self a
 omega
theorem FN [DecidableEq α]{f:α→α→Int}(h:CW f){p q:List α}(hp:p.Pairwise fun a b=>f a b<0)(hq:q.Pairwise fun a b=>f a b<0)(hm: ∀z,z∈p↔z∈q):p=q:=by
 have hpq:p.Perm q:=(List.perm_ext_iff_of_nodup (Au h hp) (Au h hq)).2 hm
 exact yU h (hp.imp fun h=>by omega) (hq.imp fun h=>by omega) hpq
theorem Ed{α κ:Type} [DecidableEq κ](key:α→κ)(kf:List α→κ): ∀(R:List (List α)),(∀y∈R,∀z∈y,key z=kf y)→R.Pairwise (fun a b=>kf a≠kf b)→ ∀y∈R,R.flatten.filter (fun z=>decide (key z=kf y))=y
 |[],_,_,y,hy=>by cases hy
 |x::t,h1,h2,y,hy=>by
  rw [Bu]at h2
  rw [List.flatten_cons,List.filter_append]
  have ht: ∀w∈t,∀z∈w,key z=kf w:=fun w hw=>h1 w (kF _ hw)
  rcases fc.1 hy with q|q
  ·subst q
   have e1:y.filter (fun z=>decide (key z=kf y))=y:=by
    rw [List.filter_eq_self]
    intro z hz
    rw [kO]
    exact h1 y (kJ ..) z hz
   have e2:t.flatten.filter (fun z=>decide (key z=kf y))=[]:=by
    rw [List.filter_eq_nil_iff]
    intro z hz
    obtain⟨w,hw,hz⟩:=List.mem_flatten.1 hz
    rw [kO,ht w hw z hz]
    exact fun e=>h2.1 w hw e.symm
   rw [e1,e2,sG]
  ·have e1:x.filter (fun z=>decide (key z=kf y))=[]:=by
    rw [List.filter_eq_nil_iff]
    intro z hz
    rw [kO,h1 x (kJ ..) z hz]
    exact h2.1 y q
   rw [e1,kL]
   exact Ed key kf t ht h2.2 y q
def t7(c:List Int)(l:List cM):List ic:=(ui (zp (l.map (gy c)))).map fun k=>⟨k,zp (l.filter fun r=>decide (gy c r=k))⟩
theorem Ju(c:List Int){l:List cM}(hl:l.length≤8000):(uS (F7 c) l.length (uu (xl c) l)).map (GN c)=t7 c l:=by
 have hC:=Kt c
 have hL:=zn hC l (by omega)
 have hP:=nH (xl c) l
 generalize hLe:uu (xl c) l=L at hL hP
 have hlen:L.length=l.length:=hP.length_eq
 have hflat:=Gz (F7 c) l.length L (by omega)
 have hkeys:=Gy c l.length L hL
 have hmem:=D9 (F7 c) l.length L
 generalize uS (F7 c) l.length L=R at hflat hkeys hmem
 have hkey: ∀y∈R,∀z∈y,gy c z=(GN c y).Key:=by
  intro y hy z hz
  obtain⟨x,t,e,_,h2⟩:=hmem y hy
  subst e
  show gy c z=gy c x
  rcases fc.1 hz with q|q
  ·rw [q]
  ·have:=(h2 z q).2
   unfold F7 at this
   exact(I2 this).symm
 have hpw:R.Pairwise fun a b=>(GN c a).Key≠(GN c b).Key:=by
  rw [List.pairwise_map]at hkeys
  refine hkeys.imp ?_
  intro a b hab he
  rw [he,i9.self]at hab
  omega
 have hfil:=Ed (gy c) (fun y=>(GN c y).Key) R hkey hpw
 rw [hflat]at hfil
 have hrows: ∀g∈R.map (GN c),g=⟨g.Key,zp (l.filter fun r=>decide (gy c r=g.Key))⟩:=by
  intro g hg
  obtain⟨y,hy,e⟩:=uI.1 hg
  subst e
  have hf:=hfil y hy
  have e:y=zp (l.filter fun r=>decide (gy c r=(GN c y).Key)):=by
   refine yU i9 ?_ (zn i9 _ (by have:=List.length_filter_le (fun r=>decide (gy c r=(GN c y).Key)) l;omega)) ?_
   ·have hs:sk (xl c) y:=by
     have:sk (xl c) (L.filter fun z=>decide (gy c z=(GN c y).Key)):=List.Pairwise.filter _ hL
     rw [hf]at this
     exact this
    refine List.Pairwise.imp_of_mem ?_ hs
    intro a b ha hb hab
    unfold xl at hab
    rw [hkey y hy a ha,hkey y hy b hb,i9.self]at hab
    exact hab
   ·have hp:=(hP.filter fun z=>decide (gy c z=(GN c y).Key))
    rw [hf]at hp
    exact hp.trans (nH eM _).symm
  have hR:GN c y=⟨(GN c y).Key,y⟩:=rfl
  rw [hR]
  simp only []
  rw [←e]
 have hk:(R.map (GN c)).map (fun g=>g.Key)=ui (zp (l.map (gy c))):=by
  refine FN i9 ?_ (ID i9 (zn i9 _ (by simp;omega))) ?_
  ·rw [List.pairwise_map];exact hkeys
  ·intro z
   rw [xW,(nH eM _).mem_iff,List.map_map,uI,uI]
   constructor
   ·rintro⟨y,hy,e⟩
    obtain⟨x,t,e2,hx,_⟩:=hmem y hy
    exact⟨x,hP.mem_iff.1 hx,by rw [←e,e2];rfl⟩
   ·rintro⟨x,hx,e⟩
    have hx:=hP.mem_iff.2 hx
    rw [←hflat]at hx
    obtain⟨y,hy,hxy⟩:=List.mem_flatten.1 hx
    exact⟨y,hy,by rw [←e];exact(hkey y hy x hxy).symm⟩
 unfold t7
 rw [←hk,List.map_map]
 conv=>lhs;rw [←List.map_id (R.map (GN c))]
 exact I1 fun g hg=>hrows g hg
theorem FR{l:List cM}(h:G5 l){c:List Int}(hr:vh l=true)(hc:AL l c=true):sQ l c=some (t7 c l,0):=by
 have ha:v7 l c=0:=by unfold v7;rw [hr,hc];rfl
 rw [FS h,aY ha,Ju c h.len]

def RK:List Int→cM→Prop
 |[],[]=>True
 |k::ks,v::vs=>Pl v∧qk v k∧RK ks vs
 |[],_::_=>False
 |_::_,[]=>False
theorem RK.len: ∀{ks:List Int} {r:cM},RK ks r→r.length=ks.length
 |[],[],_=>rfl
 |k::ks,v::vs,h=>by rw [iO,iO,h.2.2.len]
 |[],_::_,h=>h.elim
 |_::_,[],h=>h.elim
theorem RK.pl: ∀{ks:List Int} {r:cM},RK ks r→ ∀v∈r,Pl v
 |[],[],_,v,hv=>by cases hv
 |k::ks,w::vs,h,v,hv=>by
  rcases fc.1 hv with q|q
  ·rw [q];exact h.1
  ·exact h.2.2.pl v q
 |[],_::_,h,_,_=>h.elim
 |_::_,[],h,_,_=>h.elim
theorem RK.kindR: ∀{ks:List Int} {r:cM},RK ks r→kindR ks r
 |[],[],_=>fun j k h=>by simp at h
 |k::ks,v::vs,h=>fun j x hx=>by
  cases j with
  |zero=>
   simp only [FI,Al]at hx
   subst hx
   exact⟨v,rfl,h.1,h.2.1⟩
  |succ j=>
   rw [Nn]at hx
   exact h.2.2.kindR j x hx
 |[],_::_,h=>h.elim
 |_::_,[],h=>h.elim
theorem RK.rg(h:RK ks r):To r:=fun v hv=>(h.pl v hv).r64
theorem RK.right(h:RK ks r)(hk:ks.length≤16):ku r=true:=by
 unfold ku
 rw [kN,kO,jO]
 exact⟨by rw [h.len];exact hk,fun v hv=>(h.pl v hv).right⟩
theorem RK.app: ∀{a b:List Int} {x y:cM},RK a x→RK b y→RK (a++b) (x++y)
 |[],_,[],_,_,h=>h
 |k::ks,b,v::vs,y,h,h2=>⟨h.1,h.2.1,h.2.2.app h2⟩
 |[],_,_::_,_,h,_=>h.elim
 |_::_,_,[],_,h,_=>h.elim
theorem KW: ∀(ks:List Int),RK ks (List.replicate ks.length zV)
 |[]=>trivial
 |k::ks=>⟨.z,.inr rfl,KW ks⟩
theorem RK.map(f:α→ac)(g:α→Int): ∀(l:List α),(∀e∈l,Pl (f e)∧qk (f e) (g e))→RK (l.map g) (l.map f)
 |[],_=>trivial
 |e::t,h=>⟨(h e (kJ ..)).1,(h e (kJ ..)).2,RK.map f g t fun x hx=>h x (kF _ hx)⟩
theorem RK.at: ∀{ks:List Int} {r:cM},RK ks r→ ∀(j:Nat),j<ks.length→Pl ((r[j]?).getD zV)∧qk ((r[j]?).getD zV) ((ks[j]?).getD 0)
 |[],[],_,j,h=>by simp at h
 |k::ks,v::vs,h,j,hj=>by
  cases j with
  |zero=>exact⟨h.1,h.2.1⟩
  |succ j=>simpa using h.2.2.at j (by simpa using hj)
 |[],_::_,h,_,_=>h.elim
 |_::_,[],h,_,_=>h.elim
theorem RK.as: ∀{a k:List Int} {r:cM},RK a r→k.length=a.length→(∀(j:Nat) (x z:Int),a[j]? =some x→k[j]? =some z→x=z∨x=0)→RK k r
 |[],[],[],_,_,_=>trivial
 |x::a,z::k,v::vs,h,hl,hk=>by
  refine⟨h.1,?_,h.2.2.as (by simpa using hl) fun j x z h1 h2=>hk (j+1) x z (by simpa using h1) (by simpa using h2)⟩
  have:=hk 0 x z rfl rfl
  have h2:=h.2.1
  unfold qk at h2 ⊢
  omega
 |[],_::_,_,_,hl,_=>by simp at hl
 |_::_,[],_,_,hl,_=>by simp at hl
 |[],[],_::_,h,_,_=>h.elim
 |_::_,_::_,[],h,_,_=>h.elim
def rq(ks:List Int)(l:List cM):Prop:= ∀r∈l,RK ks r
theorem rq.perm{a b:List cM}(h:rq ks a)(hp:a.Perm b):rq ks b:=fun r hr=>h r (hp.mem_iff.2 hr)
theorem rq.allr{l:List cM}(h:rq ks l)(hk:ks.length≤16):vh l=true:=by
 unfold vh
 rw [jO]
 exact fun r hr=>(h r hr).right hk
theorem rq.small{l:List cM}(h:rq ks l)(hk:ks.length≤16)(hl:l.length≤8000):G5 l:=⟨hl,fun r hr=>by rw [(h r hr).len];omega⟩
theorem rq.rg{l:List cM}(h:rq ks l):Ek l:=fun r hr=>(h r hr).rg
structure Qb(e:br):Prop where
 len:e.Nodes.length≤200
 rg:Jx e.Nodes
def Wo(e:br)(r:cM):ac:=(ox r e.Nodes).1
def yG(e:br)(r:cM):Bool:=(ox r e.Nodes).2==140
theorem VA(he:Qb e)(hk:(fb e ks).2=0)(hr:RK ks r):((ox r e.Nodes).2=0∧yG e r=false∧Pl (Wo e r)∧qk (Wo e r) (fb e ks).1)∨(ox r e.Nodes=(zV,140)∧yG e r=true∧Wo e r=zV∧e.Nodes.any WO=true):=by
 rcases Pv e.Nodes he.len he.rg ks hk r hr.kindR hr.rg hr.len with h|h
 ·exact .inl ⟨h.1,by unfold yG;rw [h.1];rfl,h.2.1,h.2.2⟩
 ·have:ox r e.Nodes=(zV,140):=by
   rcases yd (r:=r) he.rg hr.rg with q|q|q
   ·rw [q.1]at h;exact absurd h.1 (by decide)
   ·exact absurd h.1 q.2.1
   ·exact q
  exact .inr ⟨this,by unfold yG;rw [this];rfl,by unfold Wo;rw [this],h.2⟩
def V1(v:ac):Bool:=v.Kind==1&&v.N==1
theorem yP{v:ac}(h:Pl v):vB v=some (V1 v):=by
 have e:oV true=some (bV true):=rfl
 unfold vB
 rw [e,be]
 congr 1
 cases h with
 |z=>rfl
 |b b=>cases b<;>rfl
 |i n _=>rfl
 |s s _=>rfl
def u9(e:br)(r:cM):Bool:=V1 (Wo e r)
theorem xG(h:DV e ks=true):(fb e ks).2=0:=by
 unfold DV at h
 rw [kN,qZ]at h
 exact h.1
theorem Kq(he:Qb e)(hk:(fb e ks).2=0)(hr:RK ks r):qb e r=some (u9 e r,if yG e r then 140 else 0):=by
 unfold qb
 rw [vW e r (by have:=he.len;omega) he.rg hr.rg,be]
 unfold u9
 rcases VA he hk hr with q|q
 ·rw [show(ox r e.Nodes).1=Wo e r from rfl,yP q.2.2.1,be,q.1,q.2.1];rfl
 ·rw [q.1,q.2.1,q.2.2.1,yP .z];rfl
theorem BV{n:am}(he:Qb n.Cond){ks:List Int}(hk:(fb n.Cond ks).2=0): ∀(l out:List cM),rq ks l→out.length+l.length≤1000000→fU n l out=some (if l.any (yG n.Cond)then([],140)else(out++l.filter (u9 n.Cond),0))
 |[],out,_,_=>by unfold fU;simp
 |r::t,out,h,hl=>by
  rw [iO]at hl
  unfold fU
  have hr:=h r (kJ ..)
  have ht:rq ks t:=fun x hx=>h x (kF _ hx)
  rw [Kq he hk hr,be,wH,List.filter_cons]
  by_cases hf:yG n.Cond r=true
  ·rw [hf];rfl
  ·rw [rA.2 hf]
   simp only [gp,ek,yN,rN]
   by_cases hh:u9 n.Cond r=true
   ·rw [aY hh,aY hh,cq (by simp;omega),be,BV he hk t _ ht (by simp only [jd,zg];omega),jP,Gl]
   ·rw [aM hh,aM hh,BV he hk t _ ht (by omega)]
def JE(items:List br)(r:cM):cM:=items.map fun e=>Wo e r
def Ie(items:List br)(r:cM):Bool:=items.any fun e=>yG e r
theorem NF(nx:List cM→Option (List cM×Int)){ks:List Int}{r:cM}(hr:RK ks r)(out:List cM)(ho:out.length≤1000000): ∀(items:List br) (y:cM),(∀e∈items,Qb e∧(fb e ks).2=0)→y.length+items.length≤1000000→gE nx r out items y=if Ie items r then some ([],140)else nx (out++[y++JE items r])
 |[],y,_,_=>by unfold gE;rw [cq (by simp;omega)];simp [Ie,JE]
 |e::t,y,h,hl=>by
  rw [iO]at hl
  unfold gE
  obtain⟨he,hk⟩:=h e (kJ ..)
  have ht:=fun x hx=>h x (kF e hx)
  rw [vW e r (by have:=he.len;omega) he.rg hr.rg,be]
  have e1:Ie (e::t) r=(yG e r||Ie t r):=rfl
  rw [e1]
  rcases VA he hk hr with q|q
  ·rw [aM (by rw [q.1];decide),cq (by simp;omega),be,NF nx hr out ho t _ ht (by simp only [jd,zg];omega),q.2.1]
   simp [JE,Wo]
  ·rw [q.1,q.2.1];rfl
theorem NH{n:am}{ks:List Int}(hi: ∀e∈n.Items,Qb e∧(fb e ks).2=0)(hil:n.Items.length≤100000): ∀(l out:List cM),rq ks l→out.length+l.length≤1000000→fC n l out=some (if l.any (Ie n.Items)then([],140)else(out++l.map (JE n.Items),0))
 |[],out,_,_=>by unfold fC;simp
 |r::t,out,h,hl=>by
  rw [iO]at hl
  unfold fC
  have hr:=h r (kJ ..)
  have ht:rq ks t:=fun x hx=>h x (kF _ hx)
  rw [NF _ hr out (by omega) n.Items [] hi (by simp;omega),wH]
  by_cases hf:Ie n.Items r=true
  ·rw [hf];rfl
  ·rw [rA.2 hf]
   simp only [gp,ek,rN,kL]
   rw [NH hi hil t _ ht (by simp only [jd,zg];omega)]
   simp

variable{rows:List (List cM)}
theorem MW{g:ea}(hg:Qb g.Arg)(h:(zQ g ks).2=true){rows:List cM}(hr:rq ks rows)(hl:rows.length≤8000):((wc g rows).2=0∧Pl (wc g rows).1∧qk (wc g rows).1 (zQ g ks).1)∨(wc g rows=(zV,140)∧Hw g=true):=by
 obtain⟨s1,s2⟩:=Bj g ks
 rw [←s1]at h
 rw [←s2 h]
 unfold MX at h ⊢
 unfold wc
 have hi: ∀n:Nat,n≤8000→Pl (iV (n:Int))∧qk (iV (n:Int)) 2:=fun n hn=>⟨.i _ (by unfold r64;omega),.inl rfl⟩
 by_cases h1:g.Tag=1
 ·rw [aY h1,aY h1]
  exact .inl ⟨rfl,hi _ hl⟩
 ·rw [aM h1]at h ⊢
  rw [aM h1]
  have hk:(fb g.Arg ks).2=0:=by
   by_cases h2:g.Tag=2
   ·rw [aY h2]at h;simpa using h
   ·rw [aM h2]at h
    by_cases h3:g.Tag=3
    ·rw [aY h3]at h;simp only [kN,qZ]at h;exact h.1
    ·rw [aM h3]at h
     by_cases h4:g.Tag=4∨g.Tag=5
     ·rw [aY h4]at h;simpa using h
     ·rw [aM h4]at h;cases h
  have hb:Da g.Arg.Nodes rows=false:=by
   unfold Da
   rw [IZ]
   intro r hm
   rcases VA hg hk (hr r hm)with q|q
   ·rw [q.1];decide
   ·rw [q.1];decide
  have hvs: ∀v∈A5 g.Arg.Nodes rows,Pl v∧v.Kind=(fb g.Arg ks).1:=by
   intro v hv
   refine⟨IC hg.rg hr.rg v hv,?_⟩
   unfold A5 at hv
   obtain⟨r,hm,he⟩:=List.mem_filterMap.1 hv
   split at he
   ·rename_i hc
    injection he with he
    rcases VA hg hk (hr r hm)with q|q
    ·rw [←he]
     exact q.2.2.2.resolve_right hc.2
    ·rw [q.1]at hc;exact absurd hc.1 (by decide)
   ·cases he
  have hlen:=Ou g.Arg.Nodes rows
  have ho:rF g.Tag (A5 g.Arg.Nodes rows)=false:=by
   unfold rF
   by_cases h3:g.Tag=3
   ·rw [aM (by omega),aY h3]at h
    simp only [kN,qZ,pH]at h
    rw [h3]
    simp only [Gg,uo]
    rw [IZ]
    intro v hv
    have hkv:=(hvs v hv).2
    have hne:v.Kind≠0:=by
     unfold A5 at hv
     obtain⟨r,hm,he⟩:=List.mem_filterMap.1 hv
     split at he
     ·rename_i hc;injection he with he;rw [←he];exact hc.2
     ·cases he
    simp only [qo,pI,Classical.not_not]
    omega
   ·have:(g.Tag==3)=false:=by simpa using h3
    rw [this];rfl
  rw [hb,ho]
  simp only [Bool.or_self,gp,ek]
  by_cases hf:C7 g.Arg.Nodes rows=true
  ·rw [aY hf]
   refine .inr ⟨rfl,?_⟩
   unfold Hw
   split
   ·rfl
   ·unfold C7 at hf
    obtain⟨r,hm,hq⟩:=tH.1 hf
    rcases VA hg hk (hr r hm)with q|q
    ·rw [q.1]at hq;cases hq
    ·unfold Aq
     rw [q.2.2.2,yM]
     cases hn:g.Arg.Nodes with
     |nil=>have:=q.2.2.2;rw [hn]at this;cases this
     |cons x t=>rfl
  ·rw [aM hf]
   unfold RF
   rw [aM (by decide)]
   by_cases h2:g.Tag=2
   ·rw [aY h2,aY h2]
    exact .inl ⟨rfl,hi _ (by omega)⟩
   ·rw [aM h2,aM h2]
    by_cases h3:g.Tag=3
    ·rw [aY h3,aY h3]
     unfold QF
     split
     ·exact .inl ⟨rfl,.z,.inr rfl⟩
     ·by_cases hs:r64 (qt (A5 g.Arg.Nodes rows))
      ·rw [aY hs];exact .inl ⟨rfl,.i _ hs,.inl rfl⟩
      ·rw [aM hs];exact .inr ⟨rfl,by unfold Hw;rw [aY h3]⟩
    ·rw [aM h3,aM h3]
     have h45:g.Tag=4∨g.Tag=5:=by
      rw [aM h2,aM h3]at h
      by_cases h4:g.Tag=4∨g.Tag=5
      ·exact h4
      ·rw [aM h4]at h;cases h
     rw [aY h45]
     refine .inl ⟨rfl,?_⟩
     by_cases hz:A5 g.Arg.Nodes rows=[]
     ·rw [hz];exact⟨.z,.inr rfl⟩
     ·have:=hvs _ (Sy g.Tag _ hz)
      exact⟨this.1,.inl this.2⟩
def Tm(aggs:List ea)(g:ic):cM:=g.Key++aggs.map fun a=>(wc a g.Rows).1
def If(aggs:List ea)(g:ic):Bool:=aggs.any fun a=>(wc a g.Rows).2==140
def GOK(aggs:List ea)(g:ic):Prop:= ∀a∈aggs,lV a g.Rows=some (wc a g.Rows)∧rD a g.Rows=some (wc a g.Rows)∧((wc a g.Rows).2=0∨wc a g.Rows=(zV,140))
theorem Rv(nx:List cM→Option (List cM×Int))(g:ic)(out:List cM)(ho:out.length≤1000000): ∀(aggs:List ea) (x:cM),GOK aggs g→x.length+aggs.length≤1000000→iD nx g out aggs x=if If aggs g then some ([],140)else nx (out++[x++aggs.map fun a=>(wc a g.Rows).1])
 |[],x,_,_=>by unfold iD;rw [cq (by simp;omega)];simp [If]
 |a::t,x,h,hl=>by
  rw [iO]at hl
  unfold iD
  obtain⟨h1,_,h3⟩:=h a (kJ ..)
  have ht:GOK t g:=fun x hx=>h x (kF a hx)
  have e1:If (a::t) g=((wc a g.Rows).2==140||If t g):=rfl
  rw [h1,be,e1]
  rcases h3 with q|q
  ·rw [aM (by rw [q];decide),cq (by simp;omega),be,Rv nx g out ho t _ ht (by simp only [jd,zg];omega),q]
   simp
  ·rw [q];rfl
theorem Qc(r:cM)(h:r.length≤1000):cv r=some r:=Cj r (by omega)
theorem Rw{n:am}(ha:n.Aggs.length≤100000): ∀(gs:List ic) (out:List cM),(∀g∈gs,GOK n.Aggs g∧g.Key.length≤1000)→out.length+gs.length≤1000000→ft n gs out=some (if gs.any (If n.Aggs)then([],140)else(out++gs.map (Tm n.Aggs),0))
 |[],out,_,_=>by unfold ft;simp
 |g::t,out,h,hl=>by
  rw [iO]at hl
  unfold ft
  obtain⟨h1,h2⟩:=h g (kJ ..)
  have ht:=fun x hx=>h x (kF g hx)
  rw [Qc _ h2,be,Rv _ g out (by omega) n.Aggs g.Key h1 (by omega),wH]
  by_cases hf:If n.Aggs g=true
  ·rw [hf];rfl
  ·rw [rA.2 hf]
   simp only [gp,ek,rN]
   rw [Rw ha t _ ht (by simp only [jd,zg];omega)]
   simp [Tm]
theorem Jk{r:cM}: ∀{c:List Int} (out:cM),(∀e∈c,0≤e∧e<(r.length:Int))→out.length+c.length≤1000→mb r c out=some (out++c.map (atR r))
 |[],out,_,_=>by unfold mb;simp
 |e::t,out,h,hl=>by
  rw [iO]at hl
  unfold mb
  have he:=h e (kJ ..)
  rw [Ic he.1 he.2,be,cq (by simp;omega),be,Jk _ (fun x hx=>h x (kF _ hx)) (by simp only [jd,zg];omega)]
  simp
theorem QC{c:List Int}(h:nP r c=true):gy c r=c.map (atR r):=by
 unfold nP at h
 rw [kN,kO,jO]at h
 have:nJ r c=some ([]++c.map (atR r)):=Jk [] (fun e he=>by have:=h.2 e he;simpa using this) (by simp;omega)
 unfold gy
 rw [this];rfl
theorem RK.key(h:RK ks r): ∀c:List Int,(∀e∈c,0≤e∧e<(ks.length:Int))→RK (c.map (ER ks)) (c.map (atR r)):=fun c hc=>
 RK.map (atR r) (ER ks) c fun e he=>by
  obtain⟨h1,h2⟩:=hc e he
  exact h.at e.toNat (by omega)
def gP(c:List Int)(l:List cM):List ic:=if c=[]∧t7 c l=[]then [⟨[],[]⟩]else t7 c l
structure Lc(n:am)(ks:List Int):Prop where
 cols: ∀c∈n.Keys,0≤c∧c<(ks.length:Int)
 ags: ∀g∈n.Aggs,Qb g.Arg∧(zQ g ks).2=true
 len:ks.length≤16
 keys:n.Keys.length≤16
 naggs:n.Aggs.length≤5000
theorem NL(h:Lc n ks){l:List cM}(hr:rq ks l):AL l n.Keys=true:=by
 unfold AL
 simp only [kN,kO,jO]
 refine⟨⟨h.keys,fun e he=>(h.cols e he).1⟩,fun r hm=>?_⟩
 unfold nP
 simp only [kN,kO,jO]
 refine⟨h.keys,fun e he=>?_⟩
 have:=(hr r hm).len
 have:=h.cols e he
 omega
theorem Xs{g:ea}(h:(zQ g ks).2=true):g.Tag=1∨g.Tag=2∨g.Tag=3∨g.Tag=4∨g.Tag=5:=by
 rw [←(Bj g ks).1]at h
 unfold MX at h
 by_cases h1:g.Tag=1
 ·exact .inl h1
 ·by_cases h2:g.Tag=2
  ·exact .inr (.inl h2)
  ·by_cases h3:g.Tag=3
   ·exact .inr (.inr (.inl h3))
   ·by_cases h4:g.Tag=4∨g.Tag=5
    ·exact .inr (.inr (.inr h4))
    ·rw [aM h1,aM h2,aM h3,aM h4]at h;cases h
theorem YO(h:Lc n ks){key:cM}{rows:List cM}(hr:rq ks rows)(hl:rows.length≤8000):GOK n.Aggs ⟨key,rows⟩:=by
 intro a ha
 obtain⟨h1,h2⟩:=h.ags a ha
 refine⟨yH a (by have:=h1.len;omega) h1.rg (Xs h2) hr.rg (by show rows.length≤90000;omega),zz a h1.rg hr.rg (by show rows.length≤90000;omega),?_⟩
 rcases MW h1 h2 hr hl with q|q
 ·exact .inl q.1
 ·exact .inr q.1
theorem Xu(h:Lc n ks){key:cM}{rows:List cM}(hr:rq ks rows)(hl:rows.length≤8000)(hk:RK (n.Keys.map (ER ks)) key):RK (n.Keys.map (ER ks)++n.Aggs.map fun g=>(zQ g ks).1) (Tm n.Aggs ⟨key,rows⟩):=by
 refine hk.app (RK.map _ _ _ fun a ha=>?_)
 obtain⟨h1,h2⟩:=h.ags a ha
 rcases MW h1 h2 hr hl with q|q
 ·exact q.2
 ·show Pl (wc a rows).1∧qk (wc a rows).1 _
  rw [q.1];exact⟨.z,.inr rfl⟩
theorem EU(h:Lc n ks){l:List cM}(hr:rq ks l)(hl:l.length≤8000): ∀g∈gP n.Keys l,∃key rows,g=⟨key,rows⟩∧rq ks rows∧rows.length≤8000∧RK (n.Keys.map (ER ks)) key:=by
 intro g hg
 unfold gP at hg
 split at hg
 ·rename_i hc
  have hc1:=hc.1
  simp only [CY]at hg
  subst hg
  refine⟨[],[],rfl,(fun r hr=>by cases hr),by simp,?_⟩
  rw [hc1];trivial
 ·unfold t7 at hg
  obtain⟨k,hk,e⟩:=uI.1 hg
  subst e
  refine⟨_,_,rfl,?_,?_,?_⟩
  ·intro r hm
   rw [(nH eM _).mem_iff]at hm
   exact hr r (Gc.1 hm).1
  ·rw [xI]
   have:=List.length_filter_le (fun r=>decide (gy n.Keys r=k)) l
   omega
  ·rw [xW,(nH eM _).mem_iff]at hk
   obtain⟨r,hm,e⟩:=uI.1 hk
   have hoc:=xV (NL h hr) hm
   rw [←e,QC hoc]
   exact(hr r hm).key n.Keys h.cols
theorem RA(c:List Int)(l:List cM)(hl:l.length≤8000):(gP c l).length≤8000:=by
 unfold gP
 split
 ·simp
 ·unfold t7
  rw [Cm]
  have:=PO (zp (l.map (gy c)))
  rw [xI,Cm]at this
  omega
def xk(n:am)(l:List cM):List cM×Int:=if(gP n.Keys l).any (If n.Aggs)then([],140)else((gP n.Keys l).map (Tm n.Aggs),0)
theorem Rx(h:Lc n ks){l:List cM}(hr:rq ks l)(hl:l.length≤8000)(ob:cT)(hA:cN ob.rows n.A=some l):i8 ob n=some (xk n l):=by
 unfold i8
 rw [hA,be,FR (hr.small h.len hl) (hr.allr h.len) (NL h hr),be]
 rw [aM (by show¬((0:Int) !=0)=true;decide)]
 have hgs: ∀g∈gP n.Keys l,GOK n.Aggs g∧g.Key.length≤1000:=by
  intro g hg
  obtain⟨key,rows,e,p1,p2,p3⟩:=EU h hr hl g hg
  subst e
  refine⟨YO h p1 p2,?_⟩
  have:=p3.len
  have hk:=h.keys
  rw [Cm]at this
  show key.length≤1000
  omega
 have main:ft n (gP n.Keys l) []=some (xk n l):=by
  rw [Rw (by have:=h.naggs;omega) _ [] hgs (by have:=RA n.Keys l hl;simp only [pC];omega)]
  rfl
 rw [←main]
 unfold lB gP
 by_cases hc:n.Keys=[]∧t7 n.Keys l=[]
 ·rw [aY (by rw [hc.2,hc.1];rfl),aY hc]
 ·rw [aM,aM hc]
  intro hh
  simp only [kN,qZ]at hh
  exact hc ⟨sH (by omega),sH (by omega)⟩
theorem Ry(h:Lc n ks){l:List cM}(hr:rq ks l)(hl:l.length≤8000):rq (n.Keys.map (ER ks)++n.Aggs.map fun g=>(zQ g ks).1) (xk n l).1∧(xk n l).1.length≤8000∧((xk n l).2=0∨xk n l=([],140)∧n.Aggs.any Hw=true):=by
 unfold xk
 by_cases hf:(gP n.Keys l).any (If n.Aggs)=true
 ·rw [aY hf]
  refine⟨(fun r hr=>by cases hr),by simp,.inr ⟨rfl,?_⟩⟩
  obtain⟨g,hg,hfg⟩:=tH.1 hf
  obtain⟨key,rows,e,p1,p2,p3⟩:=EU h hr hl g hg
  subst e
  unfold If at hfg
  obtain⟨a,ha,hq⟩:=tH.1 hfg
  obtain⟨h1,h2⟩:=h.ags a ha
  rcases MW h1 h2 p1 p2 with q|q
  ·rw [q.1]at hq;cases hq
  ·exact tH.2 ⟨a,ha,q.2⟩
 ·rw [aM hf]
  refine⟨?_,by rw [Cm];exact RA _ _ hl,.inl rfl⟩
  intro r hm
  obtain⟨g,hg,e⟩:=uI.1 hm
  obtain⟨key,rows,e2,p1,p2,p3⟩:=EU h hr hl g hg
  subst e2
  rw [←e]
  exact Xu h p1 p2 p3

def rj(e:br)(b:List cM)(x:cM):List cM:=(b.map fun y=>x++y).filter (u9 e)
def yE(e:br)(b:List cM)(x:cM):Bool:=b.any fun y=>u9 e (x++y)
def F4(e:br)(b:List cM)(x:cM):Bool:=b.any fun y=>yG e (x++y)
def Kp(e:br)(b:List cM)(w:Nat)(left:Bool)(x:cM):List cM:=if left&& !yE e b x then [x++List.replicate w zV]else []
theorem GK(e:br)(b:List cM)(x:cM):(rj e b x).length≤b.length:=by
 unfold rj
 have:=List.length_filter_le (u9 e) (b.map fun y=>x++y)
 rw [Cm]at this
 exact this
theorem CJ{α β:Type}(f:α→List β)(m:Nat)(h: ∀x,(f x).length≤m): ∀l:List α,(l.flatMap f).length≤l.length*m
 |[]=>by simp
 |x::t=>by
  rw [List.flatMap_cons,jd,iO,um,Nat.one_mul]
  have:=CJ f m h t
  have:=h x
  omega
theorem SN(n:Int)(h0:0≤n)(h:n≤68719476736):gz n=some []:=by
 unfold gz io
 rw [aM (by simp;omega)]
 have e:IntKind.i64.wrap (n-IntKind.i64.wrap ((0:Int)-0))=n:=by
  rw [cn (n:=(0:Int)-0) (by omega) (by omega),cn (by omega) (by omega)];omega
 rw [e]
 by_cases hp:0<n
 ·rw [aY (by simpa using hp)]
  unfold Wj nC
  rw [aY hp]
  simp only [be]
  rw [aY ⟨h0,h⟩]
  simp only [be]
  rw [show dD (List.replicate n.toNat (⟨0,0,0,[]⟩:ac)) 0 0=some []from by unfold dD;rw [aY (by simp;omega)];simp]
  rfl
 ·rw [aM (by simpa using hp)];rfl
theorem Fy(a b:cM)(ha:a.length≤8000)(hb:b.length≤8000):dy [a,b]=some (a++b):=by
 unfold dy
 simp only [eV]
 rw [cn (n:=(0:Int)+(a.length:Int)) (by omega) (by omega),aM (by simp),cn (by omega) (by omega),aM (by simp;omega),SN _ (by omega) (by omega)]
 simp only [be,eU]
 rw [cq (by simp;omega)]
 simp only [be,kL]
 rw [cq (by omega)]
 rfl
abbrev JS:=Option Nat×(List cM×List Bool×Int×List cM)
def u8(n:am):Int×cM→JS→Option (Bool×JS):=wp (fun x s=>gW n x s.1 s.2.1 s.2.2.1 s.2.2.2)
theorem Tk(p q:List α)(w v:α):(p++w::q).set p.length v=p++v::q:=by
 induction p with
 |nil=>rfl
 |cons x t ih=>simp [ih]
theorem NZ(p q:List α)(w:α):cN (p++w::q) (p.length:Int)=some w:=by
 rw [Rt];simp
theorem Ew{n:am}(he:Qb n.Cond){ka kb:List Int}(hk:(fb n.Cond (ka++kb)).2=0)(hka:ka.length≤16)(hkb:kb.length≤16)(nx:Nat→JS→Option JS){x:cM}(hx:RK ka x): ∀(bs xs:List cM) (pre:List Bool) (m:Bool) (post:List Bool),rq kb bs→xs.length+bs.length≤1000000→
  if F4 n.Cond bs x then∃q:List cM×List Bool,fK (u8 n) nx pre.length x bs (none,(xs,pre++m::post,0,[]))=some (some 0,(q.1,q.2,140,[]))
  else fK (u8 n) nx pre.length x bs (none,(xs,pre++m::post,0,[]))=nx (pre.length+1) (none,(xs++rj n.Cond bs x,pre++(m||yE n.Cond bs x)::post,0,[]))
 |[],xs,pre,m,post,_,_=>by
  have:F4 n.Cond [] x=false:=rfl
  rw [this,aM (by decide)]
  unfold fK
  simp [rj,yE]
 |y::t,xs,pre,m,post,hb,hl=>by
  rw [iO]at hl
  have hy:=hb y (kJ ..)
  have ht:rq kb t:=fun z hz=>hb z (kF _ hz)
  have hxy:RK (ka++kb) (x++y):=hx.app hy
  have hlx:=hx.len
  have hly:=hy.len
  have e1:F4 n.Cond (y::t) x=(yG n.Cond (x++y)||F4 n.Cond t x):=rfl
  have e2:rj n.Cond (y::t) x=(if u9 n.Cond (x++y)=true then(x++y)::rj n.Cond t x else rj n.Cond t x):=by
   unfold rj
   rw [wi,List.filter_cons]
  have e3:yE n.Cond (y::t) x=(u9 n.Cond (x++y)||yE n.Cond t x):=rfl
  have step:fK (u8 n) nx pre.length x (y::t) (none,(xs,pre++m::post,0,[]))=(gW n ((pre.length:Int),x++y) xs (pre++m::post) 0 []).bind fun r=>if(!r.1.isNone)=true then some r else fK (u8 n) nx pre.length x t r:=by
   conv=>lhs;unfold fK
   rw [Fy x y (by omega) (by omega),be]
   unfold u8 wp
   simp only []
   cases gW n ((pre.length:Int),x++y) xs (pre++m::post) 0 []with
   |none=>rfl
   |some r=>rfl
  have hbody:gW n ((pre.length:Int),x++y) xs (pre++m::post) 0 []=some (if yG n.Cond (x++y)then(some 0,(xs,pre++m::post,140,[]))else if u9 n.Cond (x++y)then(none,(xs++[x++y],pre++true::post,0,[]))else(none,(xs,pre++m::post,0,[]))):=by
   unfold gW
   rw [Kq he hk hxy,be]
   by_cases hf:yG n.Cond (x++y)=true
   ·rw [hf];rfl
   ·rw [rA.2 hf]
    simp only [gp,ek,yN]
    by_cases hh:u9 n.Cond (x++y)=true
    ·rw [aY hh,aY hh,NZ,be,Af,Tk,be,cq (by simp;omega),be]
    ·rw [aM hh,aM hh]
  rw [e1,step,hbody,be]
  by_cases hf:yG n.Cond (x++y)=true
  ·rw [hf]
   simp only [eQ,Bool.true_or]
   exact⟨(xs,pre++m::post),rfl⟩
  ·rw [rA.2 hf]
   simp only [gp,ek,rN]
   by_cases hh:u9 n.Cond (x++y)=true
   ·rw [aY hh]
    simp only [Option.isNone_none,mS,gp,ek]
    have ih:=Ew he hk hka hkb nx hx t (xs++[x++y]) pre true post ht (by simp only [jd,zg];omega)
    rw [e2,aY hh,e3,hh]
    simpa using ih
   ·rw [aM hh]
    simp only [Option.isNone_none,mS,gp,ek]
    have ih:=Ew he hk hka hkb nx hx t xs pre m post ht (by omega)
    rw [e2,aM hh,e3,rA.2 hh,rN]
    exact ih
theorem JJ{n:am}(he:Qb n.Cond){ka kb:List Int}(hk:(fb n.Cond (ka++kb)).2=0)(hka:ka.length≤16)(hkb:kb.length≤16){b:List cM}(hb:rq kb b): ∀(a xs:List cM) (pre:List Bool),rq ka a→xs.length+a.length*b.length+b.length≤1000000→
  if a.any (F4 n.Cond b)then∃q:List cM×List Bool,dM b (u8 n) a pre.length (none,(xs,pre++List.replicate a.length false,0,[]))=some (some 0,(q.1,q.2,140,[]))
  else dM b (u8 n) a pre.length (none,(xs,pre++List.replicate a.length false,0,[]))=some (none,(xs++a.flatMap (rj n.Cond b),pre++a.map (yE n.Cond b),0,[]))
 |[],xs,pre,_,_=>by
  rw [List.any_nil,aM (by decide)]
  unfold dM
  simp
 |x::t,xs,pre,ha,hl=>by
  rw [iO,um,Nat.one_mul]at hl
  have hx:=ha x (kJ ..)
  have ht:rq ka t:=fun z hz=>ha z (kF _ hz)
  have h2:=Ew he hk hka hkb (dM b (u8 n) t) hx b xs pre false (List.replicate t.length false) hb (by omega)
  have er:List.replicate (x::t).length false=false::List.replicate t.length false:=rfl
  rw [er,wH]
  unfold dM
  by_cases hf:F4 n.Cond b x=true
  ·rw [hf]at h2 ⊢
   simpa using h2
  ·rw [rA.2 hf]at h2 ⊢
   simp only [gp,ek,rN]at h2 ⊢
   have ih:=JJ he hk hka hkb hb t (xs++rj n.Cond b x) (pre++[yE n.Cond b x]) ht (by have:=GK n.Cond b x;simp only [jd];omega)
   rw [h2]
   simp only [jd,zg,jP,Gl]at ih ⊢
   rw [List.flatMap_cons,wi]
   exact ih
theorem NW{ob:cT}{n:am}{w:Nat}(hw:w≤16)(hB:cN ob.width n.B=some (w:Int))(e:br)(b:List cM)(st:JS)(u:Unit): ∀(t:List cM) (pre:List Bool) (out:List cM),(∀x∈t,x.length≤16)→st.2.2.1=pre++t.map (yE e b)→out.length+t.length≤1000000→gV ob n (st,u) t pre.length out=some (out++t.flatMap (Kp e b w n.Left),0)
 |[],pre,out,_,_,_=>by unfold gV;simp
 |x::t,pre,out,hx,hs,hl=>by
  rw [iO]at hl
  unfold gV
  have hxl:=hx x (kJ ..)
  have ht:=fun z hz=>hx z (kF x hz)
  rw [wi]at hs
  have hi:cN st.2.2.1 (pre.length:Int)=some (yE e b x):=by rw [hs,NZ]
  have ih:=NW hw hB e b st u t (pre++[yE e b x])
  rw [jd,zg]at ih
  have hs2:st.2.2.1=pre++[yE e b x]++t.map (yE e b):=by rw [hs];simp
  rw [List.flatMap_cons]
  have ec:(if n.Left=true then((cN st.2.2.1 (pre.length:Int)).bind fun e4=>some (!e4))else some false)=some (n.Left&& !yE e b x):=by
   rw [hi]
   cases n.Left<;>rfl
  show((if n.Left=true then((cN st.2.2.1 (pre.length:Int)).bind fun e4=>some (!e4))else some false).bind fun q=>_)=_
  rw [ec,be]
  unfold Kp
  by_cases hc:(n.Left&& !yE e b x)=true
  ·rw [aY hc,aY hc,hB,be]
   have hz:nC (w:Int) (⟨0,0,0,[]⟩:ac)=some (List.replicate w zV):=by
    unfold nC
    rw [aY (by omega)]
    rfl
   rw [hz,be,Fy x _ (by omega) (by simp;omega),be,cq (by simp;omega),be,ih _ ht hs2 (by simp only [jd,zg];omega),jP]
   rfl
  ·rw [aM hc,aM hc,ih _ ht hs2 (by omega),kL]
   rfl
def CF(n:am)(a b:List cM)(w:Nat):List cM×Int:=
 if 40000<a.length*b.length then([],3)else if a.any (F4 n.Cond b)then([],140)else(a.flatMap (rj n.Cond b)++a.flatMap (Kp n.Cond b w n.Left),0)
structure OV(n:am)(ka kb:List Int):Prop where
 cond:Qb n.Cond
 kind:(fb n.Cond (ka++kb)).2=0
 ka:ka.length≤16
 kb:kb.length≤16
theorem Q8{q:Nat}(hp:p≤8000)(hq:q≤8000):decide ((40000:Int)<(IntKind.i64.wrap ((p:Int)*(q:Int))))=decide (40000<p*q):=by
 have h:p*q≤8000*8000:=wu hp hq
 rw [←wK,tL (by omega) (by omega),DA]
 omega
theorem TX{ka kb:List Int}(h:OV n ka kb){a b:List cM}(ha:rq ka a)(hb:rq kb b)(hal:a.length≤8000)(hbl:b.length≤8000)(ob:cT)(hA:cN ob.rows n.A=some a)(hB:cN ob.rows n.B=some b)(hW:cN ob.width n.B=some (kb.length:Int)):jE ob n=some (CF n a b kb.length):=by
 unfold jE CF
 rw [hA,hB,be,be,Q8 hal hbl]
 by_cases hm:40000<a.length*b.length
 ·rw [aY (by simpa using hm),aY hm]
 ·rw [aM (by simpa using hm),aM hm]
  have hz:nC (a.length:Int) false=some (List.replicate a.length false):=by
   unfold nC
   rw [aY (by omega)]
   rfl
  have hp:vY a b=some (fun _=>lS a b):=rfl
  rw [hz,be,hp,be]
  have hit:(itU (fun(Sg:Type)=>lS (Sg:=Sg) a b)) JS (u8 n) (none,(([]:List cM),List.replicate a.length false,(0:Int),[]))=(dM b (u8 n) a 0 (none,(([]:List cM),List.replicate a.length false,(0:Int),[]))).map fun r=>(r,()):=rfl
  have hp1:=JJ h.cond h.kind h.ka h.kb hb a [] [] ha (by simp only [pC];omega)
  show((itU (fun(Sg:Type)=>lS (Sg:=Sg) a b)) JS (u8 n) (none,(([]:List cM),List.replicate a.length false,(0:Int),[]))).bind _=_
  rw [hit]
  by_cases hf:a.any (F4 n.Cond b)=true
  ·rw [aY hf]at hp1 ⊢
   obtain⟨q,hq⟩:=hp1
   have hq2:dM b (u8 n) a 0 (none,(([]:List cM),List.replicate a.length false,(0:Int),[]))=some (some 0,(q.1,q.2,140,[])):=hq
   rw [hq2]
   rfl
  ·rw [aM hf]at hp1 ⊢
   have hq2:dM b (u8 n) a 0 (none,(([]:List cM),List.replicate a.length false,(0:Int),[]))=some (none,(a.flatMap (rj n.Cond b),a.map (yE n.Cond b),0,[])):=hp1
   rw [hq2]
   have hlen:=CJ (rj n.Cond b) b.length (GK n.Cond b) a
   have:=NW (ob:=ob) (n:=n) h.kb hW n.Cond b (none,(a.flatMap (rj n.Cond b),a.map (yE n.Cond b),0,[])) () a [] (a.flatMap (rj n.Cond b)) (fun x hx=>by rw [(ha x hx).len];exact h.ka) rfl (by omega)
   exact this
theorem TZ{ka kb:List Int}{a b:List cM}(ha:rq ka a)(hb:rq kb b):rq (ka++kb) (a.flatMap (rj n.Cond b)):=by
 intro r hr
 obtain⟨x,hx,hr⟩:=List.mem_flatMap.1 hr
 unfold rj at hr
 obtain⟨y,hy,e⟩:=uI.1 (Gc.1 hr).1
 rw [←e]
 exact(ha x hx).app (hb y hy)
theorem T0{ka kb:List Int}{a b:List cM}(ha:rq ka a):rq (ka++kb) (a.flatMap (Kp n.Cond b kb.length n.Left)):=by
 intro r hr
 obtain⟨x,hx,hr⟩:=List.mem_flatMap.1 hr
 unfold Kp at hr
 split at hr
 ·rw [CY.1 hr]
  exact(ha x hx).app (KW kb)
 ·cases hr
theorem DQ(h:e.Nodes.any WO=true):Aq e=true:=by
 unfold Aq
 rw [h,yM]
 cases hn:e.Nodes with
 |nil=>rw [hn]at h;cases h
 |cons x t=>rfl
theorem TY{ka kb:List Int}(h:OV n ka kb){a b:List cM}(ha:rq ka a)(hb:rq kb b):rq (ka++kb) (CF n a b kb.length).1∧((CF n a b kb.length).2=0∨CF n a b kb.length=([],3)∨CF n a b kb.length=([],140)∧Aq n.Cond=true):=by
 unfold CF
 by_cases hm:40000<a.length*b.length
 ·rw [aY hm]
  exact⟨(fun r hr=>by cases hr),.inr (.inl rfl)⟩
 ·rw [aM hm]
  by_cases hf:a.any (F4 n.Cond b)=true
  ·rw [aY hf]
   refine⟨(fun r hr=>by cases hr),.inr (.inr ⟨rfl,?_⟩)⟩
   obtain⟨x,hx,hq⟩:=tH.1 hf
   unfold F4 at hq
   obtain⟨y,hy,hq⟩:=tH.1 hq
   rcases VA h.cond h.kind ((ha x hx).app (hb y hy))with q|q
   ·rw [q.2.1]at hq;cases hq
   ·exact DQ q.2.2.2
  ·rw [aM hf]
   refine⟨fun r hr=>?_,.inl rfl⟩
   rcases Ad.1 hr with q|q
   ·exact TZ ha hb r q
   ·exact T0 ha r q

theorem LZ(hS:mP l)(hr:lJ l=true){ks:Nat→List Int}(K:Hd l sz ks)(hp:p<l.Nodes.length): ∃d,s6 l (p:Int)=some (d,0)∧pt d=some (ks p,0):=by
 obtain⟨_,_,ob,j,r3,r4⟩:=sS hS
 obtain⟨hL,hj⟩:=r4 hr
 rw [hr]at r3
 have hle:=hL.le
 have H:FE l (wA ob.first) (Mp ob.kinds):=fun j hj=>E2 hL.inv hle hj
 obtain⟨N0,hf⟩:=hL.inv.at hp
 have h1:=N0.pos
 have h2:=N0.le
 have hb:((p+1-wA ob.first p:Nat):Int)=(p:Int)+1-(wA ob.first p:Int):=by omega
 have hfi:cN ob.first (p:Int)=some ((p+1-wA ob.first p:Nat):Int):=by rw [bZ,hf,hb]
 have hpart:s6 l (p:Int)=some (zB l (p+1-wA ob.first p) p,0):=by
  unfold s6
  rw [r3]
  simp only [be,mS,gp,ek]
  rw [aM (by simp;omega),hfi]
  simp only [be]
  rw [M0 hS hle hp (by omega) ((l.Nodes.take (p+1)).drop (p+1-wA ob.first p)) (p+1-wA ob.first p) gX _ rfl (by simp;omega) (va (by simp;omega)) (by simp)]
  rfl
 refine⟨_,hpart,?_⟩
 have hpr:=LY H hle hp h2 h1
 have hps:=HW hS (p+1-wA ob.first p) p
 obtain⟨sz',ks',K'⟩:=EP hps hpr
 have hk:=(Kf hps K' (Ev H hle hp h2)).1
 have hlen:=vP (l:=l) (e:=p+1-wA ob.first p) hp
 rw [K'.kinds,←hk,hlen]
 have hsame:=YX (l:=l) (d:=l) (e:=0) (m:=l.Nodes.length) K.all H (dK _) (by omega) (by omega) (by omega) (fun j hj n hn=>by
  obtain⟨m,F⟩:=K.all j hj
  have hm:n=m:=by rw [F.node]at hn;injection hn with hn;exact hn.symm
  subst hm
  rw [uD,Pu K F hj]
  exact F.node) p hp
 have e:p+1-wA ob.first p+(p+1-(p+1-wA ob.first p)-1)=p:=by omega
 simp only [e]
 have:=hsame.2
 rw [uD]at this
 rw [this]
structure Fs(n:am):Prop where
 small:iy n
 cond:Qb n.Cond
 items: ∀e∈n.Items,Qb e
 args: ∀g∈n.Aggs,Qb g.Arg
def yT(base:eD)(n:am):List cM:=(base.Tables[n.Table.toNat]?).getD []
def wk(n:am)(base:eD)(a b:List cM)(w:Nat):List cM×Int:=
 if n.Op=1 then(yT base n,0)
 else if n.Op=2 then CF n a b w
 else if n.Op=3 then(if a.any (yG n.Cond)then([],140)else(a.filter (u9 n.Cond),0))
 else if n.Op=4 then xk n a
 else if n.Op=5 then(if a.any (Ie n.Items)then([],140)else(a.map (JE n.Items),0))
 else if n.Op=6 then(ui (zp a),0)
 else if n.Op=7 then(a++b,0)
 else(ML n.Limit (uu (G2 n.Order) a),0)
def Ky(n:am)(q:List cM×Int):List cM×Int:=if q.2≠0 then([],q.2)else if 8000<q.1.length then([],3)else(if n.Op=8 then q.1 else zp q.1,0)
def xx(n:am)(base:eD)(a b:List cM)(w:Nat):List cM×Int:=Ky n (wk n base a b w)
theorem Sd{limit:Int}{l:List cM}(h:r∈ML limit l):r∈l:=by
 unfold ML at h
 split at h
 ·exact List.mem_of_mem_take h
 ·exact h
def HH(base:eD)(n:am)(k:List Int):Prop:=n.Op=1→n.Table.toNat<base.Tables.length∧rq k (yT base n)∧(yT base n).length≤12
theorem Lw(h:e∈n.Items)(hu:Aq e=true):C2 n=true:=by
 unfold C2
 rw [tH.2 ⟨e,h,hu⟩]
 simp
variable{base:eD}
theorem NM{ka kb:List Int}{a b:List cM}(hn:Fs n)(hop:Ez n.Op=true)(hk:bo n ka kb=some (k,true))(hka:ka.length≤16)(hkb:kb.length≤16)(hsc:HH base n k)(ha:rq ka a)(hb:rq kb b)(hal:a.length≤8000):
  rq k (wk n base a b kb.length).1∧((wk n base a b kb.length).2=0∨(wk n base a b kb.length).2=3∨((wk n base a b kb.length).2=140∧C2 n=true)):=by
 unfold wk
 rcases pr hop with o|o|o|o|o|o|o|o
 ·rw [aY o]
  exact⟨(hsc o).2.1,.inl rfl⟩
 ·rw [aM (by omega),aY o]
  obtain⟨e,ht⟩:=NO o hk
  subst e
  have hj:OV n ka kb:=⟨hn.cond,xG ht,hka,hkb⟩
  obtain⟨p1,p2⟩:=TY hj ha hb
  refine⟨p1,?_⟩
  rcases p2 with q|q|q
  ·exact .inl q
  ·rw [q];exact .inr (.inl rfl)
  ·rw [q.1];exact .inr (.inr ⟨rfl,by unfold C2;rw [q.2];rfl⟩)
 ·rw [aM (by omega),aM (by omega),aY o]
  obtain⟨e,ht⟩:=GG o hk
  subst e
  by_cases hf:a.any (yG n.Cond)=true
  ·rw [aY hf]
   refine⟨(fun r hr=>by cases hr),.inr (.inr ⟨rfl,?_⟩)⟩
   obtain⟨r,hr,hq⟩:=tH.1 hf
   rcases VA hn.cond (xG ht) (ha r hr)with q|q
   ·rw [q.2.1]at hq;cases hq
   ·unfold C2;rw [DQ q.2.2.2];rfl
  ·rw [aM hf]
   exact⟨fun r hr=>ha r (Gc.1 hr).1,.inl rfl⟩
 ·rw [aM (by omega),aM (by omega),aM (by omega),aY o]
  obtain⟨p1,p2,p3,p4⟩:=J0 hn.small o hk
  subst p3
  have hg:Lc n ka:=⟨p1,fun g hg=>⟨hn.args g hg,p2 g hg⟩,hka,by omega,hn.small.aggs⟩
  obtain⟨q1,_,q3⟩:=Ry hg ha hal
  refine⟨q1,?_⟩
  rcases q3 with q|q
  ·exact .inl q
  ·rw [q.1];exact .inr (.inr ⟨rfl,by unfold C2;rw [q.2];simp⟩)
 ·rw [aM (by omega),aM (by omega),aM (by omega),aM (by omega),aY o]
  obtain⟨p1,p2⟩:=EH hn.small o hk
  subst p2
  by_cases hf:a.any (Ie n.Items)=true
  ·rw [aY hf]
   refine⟨(fun r hr=>by cases hr),.inr (.inr ⟨rfl,?_⟩)⟩
   obtain⟨r,hr,hq⟩:=tH.1 hf
   unfold Ie at hq
   obtain⟨e,he,hq⟩:=tH.1 hq
   rcases VA (hn.items e he) (p1 e he) (ha r hr)with q|q
   ·rw [q.2.1]at hq;cases hq
   ·exact Lw he (DQ q.2.2.2)
  ·rw [aM hf]
   refine⟨?_,.inl rfl⟩
   intro x hx
   obtain⟨r,hr,e⟩:=uI.1 hx
   rw [←e]
   refine RK.map _ _ _ fun e he=>?_
   rcases VA (hn.items e he) (p1 e he) (ha r hr)with q|q
   ·exact q.2.2
   ·rw [q.2.2.1];exact⟨.z,.inr rfl⟩
 ·rw [aM (by omega),aM (by omega),aM (by omega),aM (by omega),aM (by omega),aY o]
  have e:=Ka o hk
  subst e
  exact⟨fun r hr=>ha r ((nH eM a).mem_iff.1 ((xW _ _).1 hr)),.inl rfl⟩
 ·rw [aM (by omega),aM (by omega),aM (by omega),aM (by omega),aM (by omega),aM (by omega),aY o]
  obtain⟨p1,p2,p3⟩:=Q7 (by omega) o hk
  refine⟨?_,.inl rfl⟩
  intro r hr
  rcases Ad.1 hr with q|q
  ·refine(ha r q).as p2 fun j x z h1 h2=>?_
   have hj:j<kb.length:=by
    have:=jQ.1 h1
    obtain⟨h,_⟩:=this
    omega
   exact(p3 j x kb[j] z h1 (oy hj) h2).1
  ·refine(hb r q).as (by omega) fun j y z h1 h2=>?_
   have hj:j<ka.length:=by
    have:=jQ.1 h1
    obtain⟨h,_⟩:=this
    omega
   exact(p3 j ka[j] y z (oy hj) h1 h2).2
 ·rw [aM (by omega),aM (by omega),aM (by omega),aM (by omega),aM (by omega),aM (by omega),aM (by omega)]
  obtain⟨p1,_⟩:=NN hn.small o hk
  subst p1
  exact⟨fun r hr=>ha r ((nH _ a).mem_iff.1 (Sd hr)),.inl rfl⟩
theorem Oz{ka kb:List Int}{a b:List cM}(hn:Fs n)(hop:Ez n.Op=true)(hk:bo n ka kb=some (k,true))(hka:ka.length≤16)(hkb:kb.length≤16)(hsc:HH base n k)(ha:rq ka a)(hb:rq kb b)(hal:a.length≤8000):
  rq k (xx n base a b kb.length).1∧(xx n base a b kb.length).1.length≤8000∧((xx n base a b kb.length).2=0∨xx n base a b kb.length=([],3)∨(xx n base a b kb.length=([],140)∧C2 n=true)):=by
 obtain⟨p1,p2⟩:=NM hn hop hk hka hkb hsc ha hb hal
 unfold xx Ky
 by_cases h0:(wk n base a b kb.length).2=0
 ·rw [aM (by simpa using h0)]
  by_cases hl:8000<(wk n base a b kb.length).1.length
  ·rw [aY hl]
   exact⟨(fun r hr=>by cases hr),by simp,.inr (.inl rfl)⟩
  ·rw [aM hl]
   by_cases h8:n.Op=8
   ·rw [aY h8]
    exact⟨p1,by show(wk n base a b kb.length).1.length≤8000;omega,.inl rfl⟩
   ·rw [aM h8]
    exact⟨p1.perm (nH _ _).symm,by show(zp _).length≤8000;rw [xI];omega,.inl rfl⟩
 ·rw [aY h0]
  refine⟨(fun r hr=>by cases hr),by simp,?_⟩
  rcases p2 with q|q|q
  ·exact absurd q h0
  ·rw [q];exact .inr (.inl rfl)
  ·rw [q.1];exact .inr (.inr ⟨rfl,q.2⟩)

def Dv{α:Type}(l:List (List α))(i:Int):List α:=if i<0 then []else(l[i.toNat]?).getD []
def Xr(ks:Nat→List Int)(i:Int):Nat:=(if i<0 then []else ks i.toNat).length
def Ay(base:eD)(ks:Nat→List Int):List am→List (List cM)→List (List cM)×Int
 |[],rows=>(rows,0)
 |n::t,rows=>if(xx n base (Dv rows n.A) (Dv rows n.B) (Xr ks n.B)).2≠0 then([],(xx n base (Dv rows n.A) (Dv rows n.B) (Xr ks n.B)).2)else Ay base ks t (rows++[(xx n base (Dv rows n.A) (Dv rows n.B) (Xr ks n.B)).1])
def EO(rows:List (List cM)):List cM:=(rows[rows.length-1]?).getD []
def PI(r:List (List cM)×Int):List cM×Int:=if r.2≠0 then([],r.2)else(EO r.1,0)
def Cz(l:bN)(base:eD)(ks:Nat→List Int):List cM×Int:=PI (Ay base ks l.Nodes [])
structure F8(ks:Nat→List Int)(rows:List (List cM))(i:Nat):Prop where
 len:rows.length=i
 ok: ∀j,j<i→rq (ks j) ((rows[j]?).getD [])∧((rows[j]?).getD []).length≤8000
theorem NY{i:Int}(h:0≤i)(h2:i<(rows.length:Int)):cN rows i=some (Dv rows i):=by
 obtain⟨k,hk⟩:=DG h
 subst hk
 have hk:k<rows.length:=by omega
 unfold Dv
 rw [bZ,aM (by omega)]
 simp [hk]
theorem F8.at{ks:Nat→List Int}(h:F8 ks rows i)(hx:x= -1∨0≤x∧x<(i:Int)):rq (if x<0 then []else ks x.toNat) (Dv rows x)∧(Dv rows x).length≤8000:=by
 unfold Dv
 rcases hx with q|q
 ·rw [aY (by omega),aY (by omega)]
  exact⟨(fun r hr=>by cases hr),by simp⟩
 ·rw [aM (by omega),aM (by omega)]
  exact h.ok x.toNat (by omega)
structure CU(l:bN)(base:eD)(sz:Nat→Nat)(ks:Nat→List Int):Prop where
 known:Hd l sz ks
 right:lJ l=true
 nodes: ∀n∈l.Nodes,Fs n
 scan: ∀(j:Nat) (n:am),cN l.Nodes (j:Int)=some n→HH base n (ks j)
theorem CU.small{ks:Nat→List Int}(T:CU l base sz ks):mP l:=fun n hn=>(T.nodes n hn).small
structure WP(l:bN)(base:eD)(ks:Nat→List Int)(rows:List (List cM))(j:Nat)(n:am)(ka kb:List Int):Prop where
 g:Fs n
 op:Ez n.Op=true
 kinds:bo n ka kb=some (ks j,true)
 k16:(ks j).length≤16
 ka16:ka.length≤16
 kb16:kb.length≤16
 scan:HH base n (ks j)
 a:rq ka (Dv rows n.A)
 al:(Dv rows n.A).length≤8000
 b:rq kb (Dv rows n.B)
 bl:(Dv rows n.B).length≤8000
 w:Xr ks n.B=kb.length
 ia:n.Op≠1→cN rows n.A=some (Dv rows n.A)
 ib:n.Op=2∨n.Op=7→cN rows n.B=some (Dv rows n.B)∧0≤n.B∧n.B<(j:Int)
theorem Wb{ks:Nat→List Int}(T:CU l base sz ks)(hj:j<l.Nodes.length)(I:F8 ks rows j): ∃n,cN l.Nodes (j:Int)=some n∧WP l base ks rows j n (if n.A<0 then []else ks n.A.toNat) (if n.B<0 then []else ks n.B.toNat):=by
 obtain⟨n,F⟩:=T.known.all j hj
 have hmem:n∈l.Nodes:=by
  have:=F.node
  rw [bZ]at this
  exact rC this
 obtain⟨pA,pB⟩:=rf F
 have h16: ∀x:Int,(x= -1∨0≤x∧x<(j:Int))→(if x<0 then([]:List Int)else ks x.toNat).length≤16:=by
  intro x hx
  rcases hx with q|q
  ·rw [aY (by omega)];simp
  ·rw [aM (by omega)]
   obtain⟨m,Fm⟩:=T.known.all x.toNat (by omega)
   exact Fm.len
 refine⟨n,F.node,⟨T.nodes n hmem,F.op,F.kinds,F.len,h16 _ pA,h16 _ pB,T.scan j n F.node,(I.at pA).1,(I.at pA).2,(I.at pB).1,(I.at pB).2,rfl,?_,?_⟩⟩
 ·intro h1
  have:0≤n.A∧n.A<(rows.length:Int):=by
   rw [I.len]
   by_cases h27:n.Op=2∨n.Op=7
   ·have:=F.bi h27;omega
   ·have:=F.un h1 (fun h=>h27 (.inl h)) (fun h=>h27 (.inr h));omega
  exact NY this.1 this.2
 ·intro h27
  have:=F.bi h27
  have hb:0≤n.B∧n.B<(j:Int):=by omega
  exact⟨NY hb.1 (by rw [I.len];exact hb.2),hb⟩
abbrev abR:=cT→am→Option ((List cM×Int)×cT)
def Rd:List (Int×abR):=du (du (du (du (du (du (du (du ([]:List (Int×(cT→am→Option (((List (List ac))×Int)×cT)))) (1:Int) (fun(mc:cT) (mx:am)=>(kS mc mx).map fun mr=>(mr,mc))) (2:Int) (fun(mc:cT) (mx:am)=>(jE mc mx).map fun mr=>(mr,mc))) (3:Int) (fun(mc:cT) (mx:am)=>(jz mc mx).map fun mr=>(mr,mc))) (4:Int) (fun(mc:cT) (mx:am)=>(i8 mc mx).map fun mr=>(mr,mc))) (5:Int) (fun(mc:cT) (mx:am)=>(i7 mc mx).map fun mr=>(mr,mc))) (6:Int) (fun(mc:cT) (mx:am)=>(iE mc mx).map fun mr=>(mr,mc))) (7:Int) (fun(mc:cT) (mx:am)=>(kh mc mx).map fun mr=>(mr,mc))) (8:Int) (fun(mc:cT) (mx:am)=>(ki mc mx).map fun mr=>(mr,mc))
theorem Zo(hr:RK ks r)(h: ∀o∈n.Order,0≤o.Col∧o.Col<(ks.length:Int)):V9 n.Order r=true:=by
 unfold V9
 rw [jO]
 intro o ho
 have:=h o ho
 rw [←hr.len]at this
 simp [this.1,this.2]
theorem Pq{ks:Nat→List Int}{ka kb:List Int}(M:WP l base ks rows j n ka kb)(ob:cT)(hB:ob.Base=base)(hR:ob.rows=rows)(hW: ∀i:Int,0≤i→i<(j:Int)→cN ob.width i=some (Xr ks i:Int)):((o6 Rd n.Op).getD fun _ _=>none) ob n=some (wk n base (Dv rows n.A) (Dv rows n.B) kb.length,ob):=by
 unfold Rd
 rw [Rb]
 have hk:=M.kinds
 unfold wk
 have hsm:=M.a.small M.ka16 M.al
 rcases pr M.op with o|o|o|o|o|o|o|o
 ·rw [aY o,aY o]
  obtain⟨_,t1,t2⟩:=H7 o hk
  obtain⟨s1,s2,s3⟩:=M.scan o
  show(kS ob n).map _=_
  unfold kS
  have:cN base.Tables n.Table=some (yT base n):=by
   unfold yT
   rw [gT n.Table.toNat (by omega),oy s1]
   rfl
  rw [hB,this]
  rfl
 ·rw [aM (by omega),aY o,aM (by omega),aY o]
  obtain⟨e,ht⟩:=NO o hk
  have hj:OV n ka kb:=⟨M.g.cond,xG ht,M.ka16,M.kb16⟩
  obtain⟨b1,b2,b3⟩:=M.ib (.inl o)
  show(jE ob n).map _=_
  rw [TX hj M.a M.b M.al M.bl ob (by rw [hR];exact M.ia (by omega)) (by rw [hR];exact b1) (by rw [hW n.B b2 b3,M.w])]
  rfl
 ·rw [aM (by omega),aM (by omega),aY o,aM (by omega),aM (by omega),aY o]
  obtain⟨e,ht⟩:=GG o hk
  show(jz ob n).map _=_
  unfold jz
  rw [hR,M.ia (by omega),be,BV M.g.cond (xG ht) _ [] M.a (by have:=M.al;simp only [pC];omega)]
  rfl
 ·rw [aM (by omega),aM (by omega),aM (by omega),aY o,aM (by omega),aM (by omega),aM (by omega),aY o]
  obtain⟨p1,p2,p3,p4⟩:=J0 M.g.small o hk
  have hg:Lc n ka:=⟨p1,fun g hg=>⟨M.g.args g hg,p2 g hg⟩,M.ka16,by omega,M.g.small.aggs⟩
  show(i8 ob n).map _=_
  rw [Rx hg M.a M.al ob (by rw [hR];exact M.ia (by omega))]
  rfl
 ·rw [aM (by omega),aM (by omega),aM (by omega),aM (by omega),aY o,aM (by omega),aM (by omega),aM (by omega),aM (by omega),aY o]
  obtain⟨p1,p2⟩:=EH M.g.small o hk
  show(i7 ob n).map _=_
  unfold i7
  rw [hR,M.ia (by omega),be,NH (fun e he=>⟨M.g.items e he,p1 e he⟩) (by have:=M.g.small.items;omega) _ [] M.a (by have:=M.al;simp only [pC];omega)]
  rfl
 ·rw [aM (by omega),aM (by omega),aM (by omega),aM (by omega),aM (by omega),aY o,aM (by omega),aM (by omega),aM (by omega),aM (by omega),aM (by omega),aY o]
  show(iE ob n).map _=_
  unfold iE
  rw [hR,M.ia (by omega),be,C5 hsm,M.a.allr M.ka16]
  rfl
 ·rw [aM (by omega),aM (by omega),aM (by omega),aM (by omega),aM (by omega),aM (by omega),aY o,aM (by omega),aM (by omega),aM (by omega),aM (by omega),aM (by omega),aM (by omega),aY o]
  obtain⟨b1,b2,b3⟩:=M.ib (.inr o)
  show(kh ob n).map _=_
  unfold kh
  rw [hR,M.ia (by omega),be,b1,be,Nh _ _ M.al M.bl]
  rfl
 ·rw [aM (by omega),aM (by omega),aM (by omega),aM (by omega),aM (by omega),aM (by omega),aM (by omega),aY o,aM (by omega),aM (by omega),aM (by omega),aM (by omega),aM (by omega),aM (by omega),aM (by omega)]
  obtain⟨p1,p2⟩:=NN M.g.small o hk
  show(ki ob n).map _=_
  unfold ki
  have ho:Na n.Order (Dv rows n.A):=⟨fun r hr=>(M.a r hr).right M.ka16,fun r hr=>Zo (M.a r hr) p2⟩
  rw [hR,M.ia (by omega),be,B3 ho (by have:=M.al;omega)]
  rfl
theorem F8.next{ks:Nat→List Int}(h:F8 ks rows i){r:List cM}(hr:rq (ks i) r)(hl:r.length≤8000):F8 ks (rows++[r]) (i+1):=by
 have hlen:=h.len
 refine⟨by simp [hlen],fun j hj=>?_⟩
 by_cases hji:j<i
 ·rw [Bx (by omega)]
  exact h.ok j hji
 ·have:j=i:=by omega
  subst this
  rw [ur (by omega),hlen]
  simpa using ⟨hr,hl⟩
theorem Jv{l:bN}{base:eD}{sz:Nat→Nat}{ks:Nat→List Int}(T:CU l base sz ks): ∀(tl:List am) (i:Nat) (rows:List (List cM)),l.Nodes.drop i=tl→i≤l.Nodes.length→F8 ks rows i→((Ay base ks tl rows).2=0→F8 ks (Ay base ks tl rows).1 l.Nodes.length)∧((Ay base ks tl rows).2=0∨(Ay base ks tl rows).2=3∨((Ay base ks tl rows).2=140∧l.Nodes.any C2=true))
 |[],i,rows,hd,hi,I=>by
  have h1:=oJ hd
  have h2:i=l.Nodes.length:=by omega
  unfold Ay
  exact⟨fun _=>h2▸I,.inl rfl⟩
 |n::t,i,rows,hd,hi,I=>by
  obtain⟨h1,h2,h3⟩:=iN hd
  obtain⟨n',hn',M⟩:=Wb T h2 I
  rw [h1]at hn'
  injection hn' with hn'
  subst hn'
  obtain⟨c1,c2,c3⟩:=Oz (base:=base) M.g M.op M.kinds M.ka16 M.kb16 M.scan M.a M.b M.al
  unfold Ay
  rw [M.w]
  by_cases h0:(xx n base (Dv rows n.A) (Dv rows n.B) (if n.B<0 then []else ks n.B.toNat).length).2=0
  ·rw [aM (by simp [h0])]
   exact Jv T t (i+1) _ h3 h2 (I.next c1 c2)
  ·rw [aY h0]
   refine⟨fun h=>absurd h h0,?_⟩
   rcases c3 with q|q|q
   ·exact absurd q h0
   ·rw [q];exact .inr (.inl rfl)
   ·rw [q.1]
    refine .inr (.inr ⟨rfl,tH.2 ⟨n,?_,q.2⟩⟩)
    rw [bZ]at h1
    exact rC h1


end Go.Proofs.YtfhhakidodmdfaaGreatDoor

