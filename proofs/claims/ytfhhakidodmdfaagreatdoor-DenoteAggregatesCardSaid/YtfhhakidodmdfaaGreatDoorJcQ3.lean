/- di of this claim: L5, L6, L7, L8, L9, L10, L11, L12, L13, L14, J5, J6, J7, J8, J9, J10, J11, Q1, Q2, Q3, J12, J13. -/
import Derived.Test.YtfhhakidodmdfaaGreatDoorJcQ2
import Derived.Test.YtfhhakidodmdfaaGreatDoorJcQ1
import Derived.Laws.RangeAny
import Derived.Shelf.Strings.CaseAny
set_option linter.all false
namespace Go.Proofs.YtfhhakidodmdfaaGreatDoor
open Go

def FW(op:Int):Bool:=decide (1≤op)&&decide (op≤8)
theorem q8{op:Int}(h:FW op=true):op=1∨op=2∨op=3∨op=4∨op=5∨op=6∨op=7∨op=8:=by
 simp [FW]at h;omega
def Cf(n:ay):Bool:=(vx n).getD false
variable{n:ay}
theorem sW(n:ay):vx n=some (Cf n):=by
 unfold Cf vx
 repeat' split
 all_goals rfl
variable{l:cm}{α:Type}
theorem acM(l:List α):((l.length:Int)==0)=l.isEmpty:=by cases l<;>simp<;>omega
theorem Yr(l:List α):decide ((0:Int)<(l.length:Int))= !l.isEmpty:=by cases l<;>simp<;>omega
variable{r:cU}
theorem RA(n:ay)(h:FW n.Op=true):((tS n).bind fun r=>(tR r).bind fun r1=>some r1)=some (Cf n):=by
 obtain⟨op,A,B,WK,kinds,left,cond,keys,aggs,items,order,limit⟩:=n
 unfold Cf vx tS tR
 simp only [acM,Yr]
 rcases q8 h with h|h|h|h|h|h|h|h<;>simp only at h<;>subst h<;>simp<;>(try (by_cases t:WK=0<;>simp [t]))<;>(try (by_cases lm:limit=0<;>simp [lm]))<;>(try (cases left<;>simp))<;>(try (by_cases e1:kinds=[]<;>simp [e1]))<;>(try (by_cases e2:cond.Nodes=[]<;>simp [e2]))<;>(try (by_cases e3:keys=[]<;>simp [e3]))<;>(try (by_cases e4:aggs=[]<;>simp [e4]))<;>(try (by_cases e5:items=[]<;>simp [e5]))<;>(try (by_cases e6:order=[]<;>simp [e6]))
variable{e:bS}{k:List Int}
theorem RN{β:Type}(f1 f2 f3 f4 f5 f6 f7 f8:β)(k:Int):pw (dF (dF (dF (dF (dF (dF (dF (dF ([]:List (Int×β)) 1 f1) 2 f2) 3 f3) 4 f4) 5 f5) 6 f6) 7 f7) 8 f8) k=
  if k=1 then some f1 else if k=2 then some f2 else if k=3 then some f3 else if k=4 then some f4 else if k=5 then some f5 else if k=6 then some f6 else if k=7 then some f7 else if k=8 then some f8 else none:=by
 have e:dF (dF (dF (dF (dF (dF (dF (dF ([]:List (Int×β)) 1 f1) 2 f2) 3 f3) 4 f4) 5 f5) 6 f6) 7 f7) 8 f8=[(1,f1),(2,f2),(3,f3),(4,f4),(5,f5),(6,f6),(7,f7),(8,f8)]:=rfl
 rw [e]
 simp only [pw,eq_comm (b:=k)]
theorem E2(op:Int):uG op=some (if op=1 then 0 else if op=2∨op=7 then 2 else 1):=by
 unfold uG qq
 by_cases h1:op=1
 ·simp [h1]
 by_cases h2:op=2
 ·simp [h2]
 by_cases h7:op=7
 ·simp [h7]
 simp [h1,h2,h7]
theorem mf(op:Int):xN op=some (if op=1 then 0 else if op=2∨op=7 then 2 else if FW op then 1 else -1):=by
 unfold xN tK me
 by_cases h:FW op=true
 ·rcases q8 h with rfl|rfl|rfl|rfl|rfl|rfl|rfl|rfl<;>rfl
 ·have h' : ¬(1≤op∧op≤8):=fun hh=>h (by simp [FW];omega)
  have h1: ¬op=1:=by omega
  have h2: ¬op=2:=by omega
  have h3: ¬op=3:=by omega
  have h4: ¬op=4:=by omega
  have h5: ¬op=5:=by omega
  have h6: ¬op=6:=by omega
  have h7: ¬op=7:=by omega
  have h8: ¬op=8:=by omega
  simp [h1,h2,h3,h4,h5,h6,h7,h8,h]
structure NL(l:cm)(j:Nat)(f:Int)(ks:List Int)(s:Nat):Prop where
 pos:1≤s
 le:s≤j+1
 fst:f=(j:Int)+1-(s:Int)
 size: ∀fu,j+1<fu→cn fu l (j:Int)=some (s:Int)
 len:ks.length≤16
 kinds: ∀fu,j+1<fu→cA fu l (j:Int)=some (ks,true)
structure L0(l:cm)(i:Nat)(first:List Int)(kinds:List (List Int)):Prop where
 fl:first.length=i
 kl:kinds.length=i
 node: ∀j,j<i→ ∃f ks s,first[j]? =some f∧kinds[j]? =some ks∧NL l j f ks s
variable{first:List Int}{i j:Nat}{ks:Nat→List Int}
theorem L0.push{kinds:List (List Int)}(h:L0 l i first kinds){f:Int}{ks:List Int}{s:Nat}(hn:NL l i f ks s):L0 l (i+1) (first++[f]) (kinds++[ks]):=by
 refine⟨by simp [h.fl],by simp [h.kl],fun j hj=>?_⟩
 by_cases hji:j=i
 ·subst hji
  refine⟨f,ks,s,?_,?_,hn⟩
  ·rw [uX (by rw [h.fl];exact dY _),h.fl,zT];rfl
  ·rw [uX (by rw [h.kl];exact dY _),h.kl,zT];rfl
 ·obtain⟨f',ks',s',h1,h2,h3⟩:=h.node j (by omega)
  exact⟨f',ks',s',by rw [B0 (by rw [h.fl];omega)];exact h1,by rw [B0 (by rw [h.kl];omega)];exact h2,h3⟩
def Px(n:ay)(i:Nat):Prop:=
 (n.Op=1→n.A= -1∧n.B= -1)∧(n.Op≠1→0<i∧0≤n.A∧n.A<i)∧(n.Op=2∨n.Op=7→n.B=(i:Int)-1)∧(n.Op≠1→n.Op≠2→n.Op≠7→n.B= -1)
variable{p:Nat}
theorem vp(l:cm){fu:Nat}(hf:0<fu){p:Int}(h:p<0):cn fu l p=some 0:=by
 obtain⟨fu,rfl⟩: ∃k,fu=k+1:=⟨fu-1,by omega⟩
 unfold cn
 rw [bk (by simp [h])]
theorem Ny{kinds:List (List Int)}(hI:L0 l i first kinds)(hn:de l.Nodes (i:Int)=some n)(hi:i<l.Nodes.length)(hl:l.Nodes.length≤1000)(hop:FW n.Op=true):
  ∃f ok,j8 ⟨l,kinds,first⟩ (i:Int)=some (f,ok)∧((ok=true∧ ∃s:Nat,1≤s∧s≤i+1∧f=(i:Int)+1-(s:Int)∧(∀fu,i+1<fu→cn fu l (i:Int)=some (s:Int))∧Px n i)∨(ok=false∧ ∀fu,i+1<fu→cn fu l (i:Int)=some 0)):=by
 have hstep: ∀fu,i+1<fu→ ∃fu',fu=fu' +1∧i<fu' :=fun fu h=>⟨fu-1,by omega,by omega⟩
 unfold j8
 simp only [hn,bu,E2]
 by_cases h1:n.Op=1
 ·-- nothing below
  simp only [h1,fM]
  rw [bk (by decide)]
  refine⟨_,_,rfl,?_⟩
  by_cases hAB:n.A= -1∧n.B= -1
  ·refine .inl ⟨by simp [hAB],1,dY _,by omega,by omega,fun fu hf=>?_,⟨fun _=>hAB,fun h=>absurd h1 h,fun h=>by omega,fun h=>absurd h1 h⟩⟩
   obtain⟨fu',rfl,_⟩:=hstep fu hf
   unfold cn
   rw [aX (by simp;omega),hn]
   simp only [bu,mf,h1,fM]
   rw [bk (by decide),bk (by simp [hAB])];rfl
  ·have hb:(n.A== -1&&n.B== -1)=false:=by rw [sL];intro h;apply hAB;simpa using h
   refine .inr ⟨hb,fun fu hf=>?_⟩
   obtain⟨fu',rfl,_⟩:=hstep fu hf
   unfold cn
   rw [aX (by simp;omega),hn]
   simp only [bu,mf,h1,fM]
   rw [bk (by decide),aX (by rw [hb];decide)]
 ·by_cases h27:n.Op=2∨n.Op=7
  ·-- two below
   simp only [h1,h27,fM,eT]
   rw [aX (by decide),aX (by decide)]
   have hsz: ∀fu,i<fu→cn (fu+1) l (i:Int)=if n.B=(i:Int)-1 then((cn fu) l n.B).bind (fun r2=>if((decide ((0:Int)<r2))&&(n.A==(IntKind.i64.wrap (n.B-r2))))then(((cn fu) l n.A).bind fun r3=>if(decide ((0:Int)<r3))then(some (IntKind.i64.wrap ((IntKind.i64.wrap (r3+r2))+(1:Int))))else(some (0:Int)))else(some (0:Int)))else some 0:=by
    intro fu hfu
    conv=>lhs;unfold cn
    rw [aX (by simp;omega),hn]
    simp only [bu,mf,h1,h27,fM,eT]
    rw [aX (by decide),aX (by decide),bk (by decide),cL (n:=(i:Int)-1) (by omega) (by omega)]
    by_cases hB:n.B=(i:Int)-1
    ·rw [bk (by simp [hB]),bk hB]
    ·rw [aX (by simpa using hB),aX hB]
   by_cases hB:n.B=(i:Int)-1∧0<i
   ·have hcond:(!((n.B !=IntKind.i64.wrap ((i:Int)-1))||((i:Int)==0)))=true:=by
     rw [cL (by omega) (by omega)]
     have: ¬((i:Int)=0):=by omega
     simp [hB.1,this];omega
    rw [bk hcond]
    obtain⟨fB,kB,sB,g1,g2,g3⟩:=hI.node (i-1) (by omega)
    have hBi:n.B=((i-1:Nat):Int):=by omega
    have hidx:de first n.B=some fB:=by rw [hBi,cC];exact g1
    rw [hidx]
    have hfB:=g3.fst
    have hsB:=g3.pos
    have hsB2:=g3.le
    simp only [bu]
    rw [cL (n:=fB-1) (by omega) (by omega)]
    by_cases hA:n.A=fB-1∧0≤n.A
    ·rw [aX (by simp [hA.1];omega)]
     obtain⟨fA,kA,sA,q1,q2,q3⟩:=hI.node n.A.toNat (by omega)
     have hidA:de first n.A=some fA:=by
      rw [show n.A=((n.A.toNat:Nat):Int)from by omega,cC];exact q1
     rw [hidA]
     have hfA:=q3.fst
     have hsA:=q3.pos
     have hsA2:=q3.le
     refine⟨fA,true,rfl,.inl ⟨rfl,sA+sB+1,by omega,by omega,by omega,fun fu hf=>?_,⟨fun h=>absurd h h1,fun _=>⟨hB.2,hA.2,by omega⟩,fun _=>hB.1,fun _ h2 h7=>by rcases h27 with h|h;exact absurd h h2;exact absurd h h7⟩⟩⟩
     obtain⟨fu',rfl,hf'⟩:=hstep fu hf
     rw [hsz fu' hf',bk hB.1]
     have e1:=g3.size fu' (by omega)
     rw [←hBi]at e1
     rw [e1]
     simp only [bu]
     rw [cL (n:=n.B-(sB:Int)) (by omega) (by omega),bk (by simp;omega)]
     have e2:=q3.size fu' (by omega)
     rw [show((n.A.toNat:Nat):Int)=n.A from by omega]at e2
     rw [e2]
     simp only [bu]
     rw [bk (by simp;omega),cL (n:=(sA:Int)+(sB:Int)) (by omega) (by omega),cL (by omega) (by omega)]
     congr 1
    ·have hb:(n.A !=fB-1||decide (n.A<0))=true:=by
      simp only [qO,rM,lX]
      by_cases h:n.A=fB-1
      ·exact .inr (by omega)
      ·exact .inl h
     rw [bk hb]
     refine⟨0,false,rfl,.inr ⟨rfl,fun fu hf=>?_⟩⟩
     obtain⟨fu',rfl,hf'⟩:=hstep fu hf
     rw [hsz fu' hf',bk hB.1]
     have e1:=g3.size fu' (by omega)
     rw [←hBi]at e1
     rw [e1]
     simp only [bu]
     rw [cL (n:=n.B-(sB:Int)) (by omega) (by omega)]
     by_cases h:n.A=fB-1
     ·rw [bk (by simp;omega),vp l (by omega) (by omega)]
      rfl
     ·rw [aX (by simp;omega)]
   ·have hcond:(!((n.B !=IntKind.i64.wrap ((i:Int)-1))||((i:Int)==0)))=false:=by
     rw [cL (by omega) (by omega)]
     by_cases h:n.B=(i:Int)-1
     ·have:i=0:=by omega
      simp [this]
     ·simp [h]
    rw [hcond]
    simp only [gL,eT,bu,Bool.true_or,fM]
    refine⟨0,false,rfl,.inr ⟨rfl,fun fu hf=>?_⟩⟩
    obtain⟨fu',rfl,hf'⟩:=hstep fu hf
    rw [hsz fu' hf']
    by_cases h:n.B=(i:Int)-1
    ·rw [bk h]
     rw [vp l (by omega) (by omega)]
     rfl
    ·rw [aX h]
  ·-- one below
   simp only [h1,h27,eT]
   rw [aX (by decide),bk (by decide)]
   have hsz: ∀fu,i<fu→cn (fu+1) l (i:Int)=if n.A=(i:Int)-1∧n.B= -1 then((cn fu) l n.A).bind (fun r1=>if(decide ((0:Int)<r1))then(some (IntKind.i64.wrap (r1+(1:Int))))else(some (0:Int)))else some 0:=by
    intro fu hfu
    conv=>lhs;unfold cn
    rw [aX (by simp;omega),hn]
    simp only [bu,mf,h1,h27,hop,fM,eT]
    rw [aX (by decide),bk (by decide),cL (n:=(i:Int)-1) (by omega) (by omega)]
    by_cases hB:n.A=(i:Int)-1∧n.B= -1
    ·rw [bk (by simp [hB]),bk hB]
    ·rw [aX (by simpa using hB),aX hB]
   rw [cL (by omega) (by omega)]
   by_cases hA:(n.A=(i:Int)-1∧n.B= -1)∧0<i
   ·rw [aX (by simp [hA.1];omega)]
    obtain⟨fA,kA,sA,g1,g2,g3⟩:=hI.node (i-1) (by omega)
    have hAi:n.A=((i-1:Nat):Int):=by omega
    have hidx:de first n.A=some fA:=by rw [hAi,cC];exact g1
    rw [hidx]
    have hfA:=g3.fst
    have hsA:=g3.pos
    have hsA2:=g3.le
    refine⟨fA,true,rfl,.inl ⟨rfl,sA+1,by omega,by omega,by omega,fun fu hf=>?_,⟨fun h=>absurd h h1,fun _=>⟨hA.2,by omega,by omega⟩,fun h=>absurd h h27,fun _ _ _=>hA.1.2⟩⟩⟩
    obtain⟨fu',rfl,hf'⟩:=hstep fu hf
    rw [hsz fu' hf',bk hA.1]
    have e1:=g3.size fu' (by omega)
    rw [←hAi]at e1
    rw [e1]
    simp only [bu]
    rw [bk (by simp;omega),cL (by omega) (by omega)]
    rfl
   ·have hb:(n.A !=(i:Int)-1||n.B != -1||(i:Int)==0)=true:=by
     simp only [qO,rM,tt]
     by_cases h:n.A=(i:Int)-1
     ·by_cases h' :n.B= -1
      ·exact .inr (by omega)
      ·exact .inl (.inr h')
     ·exact .inl (.inl h)
    rw [bk hb]
    refine⟨0,false,rfl,.inr ⟨rfl,fun fu hf=>?_⟩⟩
    obtain⟨fu',rfl,hf'⟩:=hstep fu hf
    rw [hsz fu' hf']
    by_cases h:n.A=(i:Int)-1∧n.B= -1
    ·rw [bk h,vp l (by omega) (by omega)]
     rfl
    ·rw [aX h]
theorem Na{kinds:List (List Int)}(hI:L0 l i first kinds)(hn:de l.Nodes (i:Int)=some n)(hl:l.Nodes.length≤1000)(hi:i<l.Nodes.length){s:Nat}(hs:1≤s)(hsz: ∀fu,i+1<fu→cn fu l (i:Int)=some (s:Int))(hp:Px n i)(ho:Cf n=true)(hop:FW n.Op=true):
  ∃a b,(n.Op≠1→de kinds n.A=some a)∧(n.Op=2∨n.Op=7→de kinds n.B=some b)∧a.length≤16∧b.length≤16∧ ∀fu,i+1<fu→cA fu l (i:Int)=gY l (i:Int) n a b:=by
 obtain⟨p1,p2,p3,p4⟩:=hp
 have hsz0:kU l (i:Int)=some (s:Int):=hsz ir (xq (xz _) (mR (by omega)))
 have hu: ∀fu,cA (fu+1) l (i:Int)=if(decide ((0:Int)≤n.A))then(((cA fu) l n.A).bind fun r4=>if(!r4.2)then(some ([],false))else(eW (cA fu) l (i:Int) n r4.1))else(eW (cA fu) l (i:Int) n ([])):=by
  intro fu
  conv=>lhs;unfold cA
  rw [hsz0,hn]
  simp only [bu,sW,ho]
  have: ¬(s=0):=by omega
  simp [this]
 by_cases h1:n.Op=1
 ·obtain⟨hA,hB⟩:=p1 h1
  refine⟨[],[],fun h=>absurd h1 h,fun h=>by omega,by simp,by simp,fun fu hf=>?_⟩
  obtain⟨fu,rfl⟩: ∃k,fu=k+1:=⟨fu-1,by omega⟩
  rw [hu,aX (by simp [hA])]
  unfold eW
  rw [aX (by simp [hB])]
 ·obtain⟨hi0,hA0,hAi⟩:=p2 h1
  obtain⟨fA,kA,sA,g1,g2,g3⟩:=hI.node n.A.toNat (by omega)
  have eA:((n.A.toNat:Nat):Int)=n.A:=by omega
  have hkA:de kinds n.A=some kA:=by rw [←eA,cC];exact g2
  by_cases h27:n.Op=2∨n.Op=7
  ·have hB:=p3 h27
   obtain⟨fB,kB,sB,q1,q2,q3⟩:=hI.node (i-1) (by omega)
   have eB:((i-1:Nat):Int)=n.B:=by omega
   have hkB:de kinds n.B=some kB:=by rw [←eB,cC];exact q2
   refine⟨kA,kB,fun _=>hkA,fun _=>hkB,g3.len,q3.len,fun fu hf=>?_⟩
   obtain⟨fu,rfl⟩: ∃k,fu=k+1:=⟨fu-1,by omega⟩
   rw [hu,bk (by simpa using hA0)]
   have e1:=g3.kinds fu (by omega)
   rw [eA]at e1
   rw [e1]
   simp only [bu,nh,gL,eT]
   unfold eW
   rw [bk (by simp;omega)]
   have e2:=q3.kinds fu (by omega)
   rw [eB]at e2
   rw [e2]
   simp only [bu,nh,gL,eT]
  ·have hB:=p4 h1 (fun h=>h27 (.inl h)) (fun h=>h27 (.inr h))
   refine⟨kA,[],fun _=>hkA,fun h=>absurd h h27,g3.len,by simp,fun fu hf=>?_⟩
   obtain⟨fu,rfl⟩: ∃k,fu=k+1:=⟨fu-1,by omega⟩
   rw [hu,bk (by simpa using hA0)]
   have e1:=g3.kinds fu (by omega)
   rw [eA]at e1
   rw [e1]
   simp only [bu,nh,gL,eT]
   unfold eW
   rw [aX (by simp [hB])]
theorem E6(hn:de l.Nodes (i:Int)=some n)(hl:i<1000)(h:(∀fu,i+1<fu→cn fu l (i:Int)=some 0)∨((∃s:Int,∀fu,i+1<fu→cn fu l (i:Int)=some s)∧Cf n=false)):rY l (i:Int)=some ([],false):=by
 have hF:i+1<ir:=xq (xz _) (mR (by omega))
 have e:ir=(ir-1)+1:=by omega
 unfold rY
 rw [e]
 unfold cA kU
 rcases h with h|⟨⟨s,h⟩,ho⟩
 ·rw [h _ hF];simp
 ·rw [h _ hF,hn]
  simp only [bu,sW,ho]
  by_cases hs:s=0<;>simp [hs]

def qE(l:cm):Prop:= ∀n∈l.Nodes,jv n
abbrev acB:=aI→ay→Option (((List Int)×Bool)×aI)
def C4:List (Int×acB):=(dF (dF (dF (dF (dF (dF (dF (dF ([]:List (Int×(aI→ay→Option (((List Int)×Bool)×aI)))) (1:Int) (fun(mc:aI) (mx:ay)=>(gp mc mx).map fun mr=>(mr,mc))) (2:Int) (fun(mc:aI) (mx:ay)=>(hX mc mx).map fun mr=>(mr,mc))) (3:Int) (fun(mc:aI) (mx:ay)=>(gq mc mx).map fun mr=>(mr,mc))) (4:Int) (fun(mc:aI) (mx:ay)=>(gR mc mx).map fun mr=>(mr,mc))) (5:Int) (fun(mc:aI) (mx:ay)=>(fW mc mx).map fun mr=>(mr,mc))) (6:Int) (fun(mc:aI) (mx:ay)=>(fy mc mx).map fun mr=>(mr,mc))) (7:Int) (fun(mc:aI) (mx:ay)=>(gO mc mx).map fun mr=>(mr,mc))) (8:Int) (fun(mc:aI) (mx:ay)=>(gQ mc mx).map fun mr=>(mr,mc)))
theorem RO(op:Int):(pw C4 op).isSome=FW op:=by
 unfold C4
 rw [RN]
 by_cases h:FW op=true
 ·rw [h]
  rcases q8 h with rfl|rfl|rfl|rfl|rfl|rfl|rfl|rfl<;>rfl
 ·rw [sL.2 h]
  have h' : ¬(1≤op∧op≤8):=fun hh=>h (by simp [FW];omega)
  have h1: ¬op=1:=by omega
  have h2: ¬op=2:=by omega
  have h3: ¬op=3:=by omega
  have h4: ¬op=4:=by omega
  have h5: ¬op=5:=by omega
  have h6: ¬op=6:=by omega
  have h7: ¬op=7:=by omega
  have h8: ¬op=8:=by omega
  simp [h1,h2,h3,h4,h5,h6,h7,h8]
theorem Qh(c:aI)(n:ay)(a b:List Int)(hn:jv n)(hop:FW n.Op=true)(ha:n.Op≠1→de c.kinds n.A=some a)(hb:n.Op=2∨n.Op=7→de c.kinds n.B=some b)(hal:a.length≤16)(hbl:b.length≤16):
  ∃k o k',((pw C4 n.Op).getD (fun _ _=>none)) c n=some ((k,o&&(if n.Op=8 then(c.kinds.length:Int)==IntKind.i64.wrap ((c.Logic.Nodes.length:Int)-(1:Int))else true)),c)∧bH n a b=some (k',o)∧(o=true→k=k'):=by
 have go: ∀(m:Option (List Int×Bool)) (last:Bool),BO m (bH n a b) last→((pw C4 n.Op).getD (fun _ _=>none)) c n=m.map (fun mr=>(mr,c))→(if n.Op=8 then(c.kinds.length:Int)==IntKind.i64.wrap ((c.Logic.Nodes.length:Int)-(1:Int))else true)=last→ ∃k o k',((pw C4 n.Op).getD (fun _ _=>none)) c n=some ((k,o&&(if n.Op=8 then(c.kinds.length:Int)==IntKind.i64.wrap ((c.Logic.Nodes.length:Int)-(1:Int))else true)),c)∧bH n a b=some (k',o)∧(o=true→k=k'):=by
  intro m last ⟨k,o,k',h1,h2,h3⟩ he hl
  exact⟨k,o,k',by rw [he,h1,hl];rfl,h2,h3⟩
 unfold C4 at go ⊢
 rw [RN]at go ⊢
 rcases q8 hop with h|h|h|h|h|h|h|h
 ·exact go _ _ (GT c n a b hn h) (by simp [h]) (by simp [h])
 ·exact go _ _ (Qn c n a b hn h (ha (by omega)) (hb (.inl h)) hal hbl) (by simp [h]) (by simp [h])
 ·exact go _ _ (K9 c n a b hn h (ha (by omega))) (by simp [h]) (by simp [h])
 ·exact go _ _ (Nb c n a b hn h (ha (by omega))) (by simp [h]) (by simp [h])
 ·exact go _ _ (If c n a b hn h (ha (by omega))) (by simp [h]) (by simp [h])
 ·exact go _ _ (Gs c n a b h (ha (by omega))) (by simp [h]) (by simp [h])
 ·exact go _ _ (Mj c n a b h (ha (by omega)) (hb (.inr h)) hal) (by simp [h]) (by simp [h])
 ·exact go _ _ (MQ c n a b hn h (ha (by omega))) (by simp [h]) (by simp [h])
variable{x:Int}
theorem Qd{Sg:Type}(yld:(Int×Bool)→Sg→Option (Bool×Sg)){kinds:List (List Int)}(hI:L0 l i first kinds){tl:List ay}(hd:l.Nodes.drop i=n::tl)(hS:qE l)(hl:l.Nodes.length≤60)(st:Sg):
  ∃first' kinds' ok,bP yld (n::tl) i st ⟨l,kinds,first⟩=((yld ((i:Int),ok) st).bind fun r2=>if((!r2.1)||(!ok))then some (r2.2,⟨l,kinds',first'⟩)else bP yld tl (i+1) r2.2 ⟨l,kinds',first'⟩)∧(∃x,rY l (i:Int)=some (x,ok))∧(ok=true→L0 l (i+1) first' kinds'):=by
 obtain⟨hn,hi,_⟩:=lE hd
 have hfl:=hI.fl
 have hkl:=hI.kl
 have hSn:jv n:=hS n (by
  rw [cC]at hn
  exact sM hn)
 have hF:i+1<ir:=xq (xz _) (mR (by omega))
 have hu:bP yld (n::tl) i st ⟨l,kinds,first⟩=(if(pw C4 n.Op).isSome then((tS n).bind fun r=>(tR r).bind fun r1=>some r1)else some false).bind fun t=>if t then((j8 ⟨l,kinds,first⟩ (i:Int)).bind fun r4=>(app first ([r4.1])).bind fun l7=>eJ yld (bP yld tl) i n st r4.2 ⟨l,kinds,l7⟩)else(eJ yld (bP yld tl) i n st t ⟨l,kinds,first⟩):=rfl
 rw [hu,RO]
 have hk2: ∀(ok1:Bool) (k:List Int) (f' :List Int),gH yld (bP yld tl) i st ok1 k ⟨l,kinds,f'⟩=((yld ((i:Int),ok1&&decide (k.length≤16)) st).bind fun r2=>if((!r2.1)||(!(ok1&&decide (k.length≤16))))then some (r2.2,⟨l,kinds++[k],f'⟩)else bP yld tl (i+1) r2.2 ⟨l,kinds++[k],f'⟩):=by
  intro ok1 k f'
  unfold gH
  rw [cJ (by simp;omega)]
  have:decide ((k.length:Int)≤16)=decide (k.length≤16):=by rw [AE];simp;omega
  simp only [bu,this]
 have hk1: ∀(f' :List Int),eJ yld (bP yld tl) i n st false ⟨l,kinds,f'⟩=((yld ((i:Int),false) st).bind fun r2=>if((!r2.1)||(!false))then some (r2.2,⟨l,kinds++[[]],f'⟩)else bP yld tl (i+1) r2.2 ⟨l,kinds++[[]],f'⟩):=by
  intro f'
  unfold eJ
  rw [aX (by decide),hk2]
  rfl
 by_cases hop:FW n.Op=true
 ·rw [bk hop,RA n hop]
  simp only [bu]
  obtain⟨f,ok,hb1,hb2⟩:=Ny hI hn hi (by omega) hop
  cases ho:Cf n with
  |false=>
   simp only [gL,eT]
   rw [hk1]
   refine⟨first,kinds++[[]],false,rfl,⟨[],E6 hn (by omega) (.inr ⟨?_,ho⟩)⟩,by simp⟩
   rcases hb2 with⟨_,s,_,_,_,h,_⟩|⟨_,h⟩
   ·exact⟨s,h⟩
   ·exact⟨0,h⟩
  |true=>
   simp only [fM]
   rw [hb1]
   simp only [bu]
   rw [cJ (by simp;omega)]
   simp only [bu]
   rcases hb2 with⟨hok,s,hs,hs2,hf,hsz,hp⟩|⟨hok,h⟩
   ·subst hok
    obtain⟨a,b,ha,hb,hal,hbl,hK⟩:=Na hI hn (by omega) hi hs hsz hp ho hop
    obtain⟨k,o,k',m1,m2,m3⟩:=Qh ⟨l,kinds,first++[f]⟩ n a b hSn hop ha hb hal hbl
    have hk1' :eJ yld (bP yld tl) i n st true ⟨l,kinds,first++[f]⟩=((((pw C4 n.Op).getD (fun _ _=>none)) ⟨l,kinds,first++[f]⟩ n).bind fun r3=>gH yld (bP yld tl) i st r3.1.2 r3.1.1 r3.2):=rfl
    rw [hk1',m1]
    simp only [bu]
    rw [hk2]
    have hlast:((kinds.length:Int)==IntKind.i64.wrap ((l.Nodes.length:Int)-1))=((i:Int)==IntKind.i64.wrap ((l.Nodes.length:Int)-1)):=by rw [hkl]
    have hKk: ∀fu,i+1<fu→ ∃x,cA fu l (i:Int)=some (x,(o&&(if n.Op=8 then(kinds.length:Int)==IntKind.i64.wrap ((l.Nodes.length:Int)-(1:Int))else true))&&decide (k.length≤16))∧(((o&&(if n.Op=8 then(kinds.length:Int)==IntKind.i64.wrap ((l.Nodes.length:Int)-(1:Int))else true))&&decide (k.length≤16))=true→x=k):=by
     intro fu hf
     rw [hK fu hf]
     unfold gY
     rw [m2]
     simp only [bu]
     rw [hlast]
     cases o with
     |false=>
      simp only [CP]
      split
      ·exact⟨_,rfl,by simp⟩
      ·exact⟨_,rfl,by simp⟩
     |true=>
      have:=m3 rfl
      subst this
      simp only [vg]
      by_cases h8:n.Op=8
      ·by_cases hL:(i:Int)=IntKind.i64.wrap ((l.Nodes.length:Int)-1)
       ·by_cases h16:k.length≤16
        ·rw [aX (by simp [←hL];omega)]
         exact⟨k,by simp [h8,hL,h16],fun _=>rfl⟩
        ·rw [bk (by simp;omega)]
         exact⟨[],by simp [h16],by simp [h16]⟩
       ·rw [bk (by simp [h8,hL])]
        exact⟨[],by simp [h8,hL],by simp [h8,hL]⟩
      ·by_cases h16:k.length≤16
       ·rw [aX (by simp [h8];omega)]
        exact⟨k,by simp [h8,h16],fun _=>rfl⟩
       ·rw [bk (by simp;omega)]
        exact⟨[],by simp [h16],by simp [h16]⟩
    refine⟨first++[f],kinds++[k],_,rfl,?_,fun hok=>?_⟩
    ·obtain⟨x,h1,_⟩:=hKk ir hF
     exact⟨x,h1⟩
    ·refine hI.push (s:=s) ⟨hs,hs2,hf,hsz,?_,fun fu hfu=>?_⟩
     ·simp at hok;exact hok.2
     ·obtain⟨x,h1,h2⟩:=hKk fu hfu
      rw [h1,h2 hok,hok]
   ·subst hok
    rw [hk1]
    exact⟨first++[f],kinds++[[]],false,rfl,⟨[],E6 hn (by omega) (.inl h)⟩,by simp⟩
 ·rw [aX hop]
  simp only [bu,gL,eT]
  rw [hk1]
  refine⟨first,kinds++[[]],false,rfl,⟨[],E6 hn (by omega) (.inl fun fu hf=>?_)⟩,by simp⟩
  obtain⟨fu,rfl⟩: ∃k,fu=k+1:=⟨fu-1,by omega⟩
  unfold cn
  rw [aX (by simp;omega),hn]
  simp only [bu,mf]
  have h1: ¬n.Op=1:=fun h=>hop (by rw [h];rfl)
  have h2: ¬n.Op=2:=fun h=>hop (by rw [h];rfl)
  have h7: ¬n.Op=7:=fun h=>hop (by rw [h];rfl)
  simp [h1,h2,h7,hop]
theorem Un(hS:qE l)(hl:l.Nodes.length≤60): ∀(tl:List ay) (i:Nat) (first:List Int) (kinds:List (List Int)),L0 l i first kinds→l.Nodes.drop i=tl→i+tl.length=l.Nodes.length→
  ∃st ob,bP (xb (fun x s=>o4 x s.1 s.2.1 s.2.2)) tl i (none,(false,(0:Int),false)) ⟨l,kinds,first⟩=some (st,ob)∧ob.Logic=l∧
   ((st=(none,(false,(0:Int),false))∧L0 l l.Nodes.length ob.first ob.kinds∧fH l tl i=fH l [] l.Nodes.length)∨(∃j:Nat,st=(some 0,(false,(j:Int),true))∧fH l tl i=some (j:Int))):=by
 intro tl
 induction tl with
 |nil=>
  intro i first kinds hI hd hi
  simp only [pZ,y9]at hi
  subst hi
  exact⟨_,_,rfl,rfl,.inl ⟨rfl,hI,rfl⟩⟩
 |cons n tl ih=>
  intro i first kinds hI hd hi
  simp only [jf]at hi
  obtain⟨f',k',ok,h1,⟨x,h2⟩,h3⟩:=Qd (xb (fun x s=>o4 x s.1 s.2.1 s.2.2)) hI hd hS hl (none,(false,(0:Int),false))
  rw [h1]
  have hW:fH l (n::tl) i=if(!ok)then some (i:Int)else fH l tl (i+1):=by
   conv=>lhs;unfold fH
   rw [h2];rfl
  rw [hW]
  cases ok with
  |false=>exact⟨_,_,rfl,rfl,.inr ⟨i,rfl,rfl⟩⟩
  |true=>
   obtain⟨st,ob,g1,g2,g3⟩:=ih (i+1) f' k' (h3 rfl) (lE hd).2.2 (by omega)
   refine⟨st,ob,?_,g2,?_⟩
   ·exact g1
   ·simpa using g3
theorem L0.nil(l:cm):L0 l 0 [] []:=⟨rfl,rfl,fun j h=>absurd h (Nat.not_lt_zero _)⟩
structure Tq(l:cm)(ob:aI):Prop where
 logic:ob.Logic=l
 pos:1≤l.Nodes.length
 le:l.Nodes.length≤60
 inv:L0 l l.Nodes.length ob.first ob.kinds
 whole:kU l ((l.Nodes.length:Int)-1)=some (l.Nodes.length:Int)
theorem Uo(hS:qE l): ∃ob j ok,px l=some (ob,j,ok)∧rX l=some (if ok then -1 else j)∧(0≤j)∧(ok=true→Tq l ob∧j=(l.Nodes.length:Int)-1):=by
 unfold px rX
 by_cases h:l.Nodes.length<1∨60<l.Nodes.length
 ·rw [bk (by simp;omega),bk (by simp;omega)]
  exact⟨_,_,_,rfl,rfl,Int.le_refl _,by simp⟩
 ·rw [aX (by simp;omega),aX (by simp;omega)]
  unfold qr
  simp only [bu]
  unfold lU
  obtain⟨st,ob,h1,h2,h3⟩:=Un hS (by omega) l.Nodes 0 [] [] (L0.nil l) rfl (by simp)
  have h1' :bP (xb (fun x s=>o4 x s.1 s.2.1 s.2.2)) (⟨l,[],[]⟩:aI).Logic.Nodes 0 (none,(false,(0:Int),false)) ⟨l,[],[]⟩=some (st,ob):=h1
  rw [h1']
  simp only [bu]
  rcases h3 with⟨rfl,hI,hW⟩|⟨j,rfl,hW⟩
  ·simp only [Option.isNone_none,fM]
   rw [cL (by omega) (by omega)]
   obtain⟨f,ks,s,g1,g2,g3⟩:=hI.node (l.Nodes.length-1) (by omega)
   have e:((l.Nodes.length-1:Nat):Int)=(l.Nodes.length:Int)-1:=by omega
   have hid:de ob.first ((l.Nodes.length:Int)-1)=some f:=by rw [←e,cC];exact g1
   rw [hid]
   simp only [bu]
   have hsz:kU l ((l.Nodes.length:Int)-1)=some (s:Int):=by
    have:=g3.size ir (xq (xz _) (mR (by omega)))
    rw [e]at this;exact this
   have hf:=g3.fst
   refine⟨_,_,_,rfl,?_,by omega,fun hok=>?_⟩
   ·rw [hW]
    unfold fH
    rw [cL (by omega) (by omega),hsz]
    simp only [bu]
    by_cases hs:s=l.Nodes.length
    ·rw [aX (by simp [hs]),bk (by simp;omega)]
    ·rw [bk (by simp;omega),aX (by simp;omega)]
   ·have hs:s=l.Nodes.length:=by simp at hok;omega
    exact⟨⟨h2,by omega,by omega,hI,by rw [hsz,hs]⟩,rfl⟩
  ·simp only [Option.isNone_some,gL,eT]
   refine⟨ob,(j:Int),false,rfl,by rw [hW];rfl,by omega,by simp⟩

theorem vI{n:Nat}(h:n≤900000):n<ir:=xq (xz _) (mR (by omega))
def Eu(d x:Int):Int:=if 0≤x then IntKind.i64.wrap (x+d)else x
def FV(d:Int)(n:ay):ay:={n with A:=Eu d n.A,B:=Eu d n.B}
theorem jv.sh(h:jv n)(d:Int):jv (FV d n):=⟨h.cond,h.kinds,h.keys,h.aggs,h.items,h.order,h.args,h.exprs⟩
theorem jv.at(h:jv n)(a b:Int):jv {n with A:=a,B:=b}:=⟨h.cond,h.kinds,h.keys,h.aggs,h.items,h.order,h.args,h.exprs⟩
theorem set_same{xs:List α}{e:α}(h:xs[i]? =some e):xs.set i e=xs:=by
 apply Jt
 intro j
 rw [List.getElem?_set]
 split
 ·rename_i hj;subst hj
  split
  ·exact h.symm
  ·rename_i h2;rw [D9 (by omega)]
 ·rfl
theorem s4(h:jv n):nq n=some n:=by
 have hK:=h.kinds
 have hk:=h.keys
 have hA:=h.aggs
 have hI:=h.items
 have hO:=h.order
 have hc:=h.cond
 have hcl: ∀{l:List bC},l.length≤5000→cF l=some l:=fun{l} hl=>by
  unfold cF;rw [cJ (by simp;omega)];rfl
 unfold nq
 rw [s7 _ (by omega),s7 _ (by omega)]
 simp only [bu]
 have e1:eG n.Order=some n.Order:=by unfold eG;rw [cJ (by simp;omega)];rfl
 rw [e1]
 simp only [bu]
 rw [hcl hc]
 simp only [bu]
 have e2:fE n.Aggs=some n.Aggs:=by unfold fE;rw [cJ (by simp;omega)];rfl
 rw [e2]
 simp only [bu]
 have e3:eV n.Items=some n.Items:=by unfold eV;rw [cJ (by simp;omega)];rfl
 rw [e3]
 simp only [bu]
 have key2: ∀(tl:List bS) (i:Nat),n.Items.drop i=tl→(∀e∈tl,e.Nodes.length≤5000)→nm tl i n=some n:=by
  intro tl
  induction tl with
  |nil=>intro i _ _;rfl
  |cons x tl ih=>
   intro i hd hs
   obtain⟨h1,h2,h3⟩:=lE hd
   unfold nm
   rw [h1]
   simp only [bu]
   rw [hcl (hs x (lb ..))]
   simp only [bu,AH]
   rw [cC]at h1
   have e4:n.Items.set i ({x with Nodes:=x.Nodes}:bS)=n.Items:=set_same h1
   rw [e4]
   exact ih (i+1) h3 (fun e he=>hs e (lc _ he))
 have key1: ∀(tl:List gv) (i:Nat),n.Aggs.drop i=tl→(∀e∈tl,e.Arg.Nodes.length≤5000)→np tl i n=some n:=by
  intro tl
  induction tl with
  |nil=>intro i _ _;exact key2 n.Items 0 rfl h.exprs
  |cons x tl ih=>
   intro i hd hs
   obtain⟨h1,h2,h3⟩:=lE hd
   unfold np
   rw [h1]
   simp only [bu]
   rw [hcl (hs x (lb ..))]
   simp only [bu,AH]
   rw [cC]at h1
   have e4:n.Aggs.set i ({x with Arg:=({x.Arg with Nodes:=x.Arg.Nodes}:bS)}:gv)=n.Aggs:=set_same h1
   rw [e4]
   exact ih (i+1) h3 (fun e he=>hs e (lc _ he))
 exact key1 n.Aggs 0 rfl h.args
theorem Dx(h:jv n)(d:Int):sZ n d=some (FV d n):=by
 unfold sZ pe FV Eu
 by_cases hA:0≤n.A<;>by_cases hB:0≤n.B
 ·rw [bk (by simpa using hA),bk (by simpa using hB),bk hA,bk hB]
  exact s4 (h.at _ _)
 ·rw [bk (by simpa using hA),aX (by simpa using hB),bk hA,aX hB]
  exact s4 (h.at _ _)
 ·rw [aX (by simpa using hA),bk (by simpa using hB),aX hA,bk hB]
  exact s4 (h.at _ _)
 ·rw [aX (by simpa using hA),aX (by simpa using hB),aX hA,aX hB]
  exact s4 (h.at _ _)
def oT(l:cm):Bool:=decide ((rX l).getD 0<0)
theorem A4(h:qE l):C3 l=some (oT l)∧(∃j,sf l=some (if oT l then(0,0)else(j,230)))∧(∃ob j,px l=some (ob,j,oT l)∧(oT l=true→Tq l ob∧j=(l.Nodes.length:Int)-1)):=by
 obtain⟨ob,j,ok,h1,h2,h3,h4⟩:=Uo h
 have e:oT l=ok:=by
  unfold oT
  rw [h2]
  cases ok<;>simp<;>omega
 refine⟨?_,⟨j,?_⟩,ob,j,?_⟩
 ·unfold C3 oT
  rw [h2];rfl
 ·unfold sf
  rw [h1,e]
  cases ok<;>rfl
 ·rw [e]
  exact⟨h1,h4⟩
theorem JW(hA:n.A≤100000)(hB:n.B≤100000):FV 0 n=n:=by
 have h: ∀x:Int,x≤100000→Eu 0 x=x:=by
  intro x hx
  unfold Eu
  by_cases h:0≤x
  ·rw [bk h,Int.add_zero,cL (by omega) (by omega)]
  ·rw [aX h]
 unfold FV
 rw [h _ hA,h _ hB]
theorem Uk{d:Int}{ns:List ay}(h: ∀n∈ns,jv n): ∀n∈ns.map (FV d),jv n:=by
 intro n hn
 obtain⟨m,hm,rfl⟩:=vl.1 hn
 exact(h m hm).sh d

structure Az(l:cm)(sz:Nat→Nat)(ks:Nat→List Int)(j:Nat)(n:ay):Prop where
 node:de l.Nodes (j:Int)=some n
 op:FW n.Op=true
 own:Cf n=true
 lf:n.Op=1→n.A= -1∧n.B= -1∧sz j=1
 un:n.Op≠1→n.Op≠2→n.Op≠7→0<j∧n.A=(j:Int)-1∧n.B= -1∧sz j=sz (j-1)+1
 bi:n.Op=2∨n.Op=7→0<j∧n.B=(j:Int)-1∧sz (j-1)<j∧n.A=(j:Int)-1-(sz (j-1):Int)∧sz j=sz (j-1-sz (j-1))+sz (j-1)+1
 kinds:bH n (if n.A<0 then []else ks n.A.toNat) (if n.B<0 then []else ks n.B.toNat)=some (ks j,true)
 last:n.Op=8→j+1=l.Nodes.length
 len:(ks j).length≤16
 pos:1≤sz j
 le:sz j≤j+1
theorem GP(hn:de l.Nodes (j:Int)=some n)(hj:j<l.Nodes.length)(hl:l.Nodes.length≤1000)(fu:Nat):cn (fu+1) l (j:Int)=
  if n.Op=1 then(if n.A= -1∧n.B= -1 then some 1 else some 0)
  else if n.Op=2∨n.Op=7 then(if n.B=(j:Int)-1 then((cn fu) l n.B).bind (fun r2=>if((decide ((0:Int)<r2))&&(n.A==(IntKind.i64.wrap (n.B-r2))))then(((cn fu) l n.A).bind fun r3=>if(decide ((0:Int)<r3))then(some (IntKind.i64.wrap ((IntKind.i64.wrap (r3+r2))+(1:Int))))else(some (0:Int)))else(some (0:Int)))else some 0)
  else if FW n.Op=true then(if n.A=(j:Int)-1∧n.B= -1 then((cn fu) l n.A).bind (fun r1=>if(decide ((0:Int)<r1))then(some (IntKind.i64.wrap (r1+(1:Int))))else(some (0:Int)))else some 0)
  else some 0:=by
 conv=>lhs;unfold cn
 rw [aX (by simp;omega),hn]
 simp only [bu,mf]
 by_cases h1:n.Op=1
 ·simp only [h1,fM]
  rw [bk (by decide)]
  by_cases hAB:n.A= -1∧n.B= -1
  ·rw [bk hAB,bk (by simp [hAB])]
  ·rw [aX hAB,aX (by simpa using hAB)]
 by_cases h27:n.Op=2∨n.Op=7
 ·simp only [h1,h27,fM,eT]
  rw [aX (by decide),aX (by decide),bk (by decide),cL (n:=(j:Int)-1) (by omega) (by omega)]
  by_cases hB:n.B=(j:Int)-1
  ·rw [bk (by simp [hB]),bk hB]
  ·rw [aX (by simpa using hB),aX hB]
 by_cases hop:FW n.Op=true
 ·simp only [h1,h27,hop,fM,eT]
  rw [aX (by decide),bk (by decide),cL (n:=(j:Int)-1) (by omega) (by omega)]
  by_cases hB:n.A=(j:Int)-1∧n.B= -1
  ·rw [bk (by simp [hB]),bk hB]
  ·rw [aX (by simpa using hB),aX hB]
 ·simp only [h1,h27,hop,eT]
  rw [aX (by decide),aX (by decide),aX (by decide)]
  rfl
theorem Bg{s:Int}(hn:de l.Nodes (j:Int)=some n)(hs:kU l (j:Int)=some s)(hs0:s≠0)(ho:Cf n=true)(fu:Nat):cA (fu+1) l (j:Int)=if(decide ((0:Int)≤n.A))then(((cA fu) l n.A).bind fun r4=>if(!r4.2)then(some ([],false))else(eW (cA fu) l (j:Int) n r4.1))else(eW (cA fu) l (j:Int) n ([])):=by
 conv=>lhs;unfold cA
 rw [hs,hn]
 simp only [bu,sW,ho]
 have:(s==0)=false:=by simpa using hs0
 simp [this]
def xm(first:List Int)(j:Nat):Nat:=((j:Int)+1-(first[j]?).getD 0).toNat
def M0(kinds:List (List Int))(j:Nat):List Int:=(kinds[j]?).getD []
theorem L0.at{kinds:List (List Int)}(h:L0 l i first kinds)(hj:j<i):NL l j ((j:Int)+1-(xm first j:Int)) (M0 kinds j) (xm first j)∧first[j]? =some ((j:Int)+1-(xm first j:Int)):=by
 obtain⟨f,k,s,h1,h2,h3⟩:=h.node j hj
 have e1:M0 kinds j=k:=by unfold M0;rw [h2];rfl
 have hf:=h3.fst
 have hp:=h3.pos
 have e2:xm first j=s:=by unfold xm;rw [h1];simp only [GA];omega
 rw [e1,e2,←hf]
 exact⟨h3,h1⟩
theorem Lc{kinds:List (List Int)}(hI:L0 l l.Nodes.length first kinds)(hl:l.Nodes.length≤60)(hj:j<l.Nodes.length): ∃n,Az l (xm first) (M0 kinds) j n:=by
 obtain⟨N0,_⟩:=hI.at hj
 have hn:de l.Nodes (j:Int)=some l.Nodes[j]:=by rw [cC,ph hj]
 obtain⟨n,hnn⟩: ∃n,n=l.Nodes[j]:=⟨_,rfl⟩
 rw [←hnn]at hn
 have hpos:=N0.pos
 have hsz:=N0.size (j+3) (by omega)
 rw [GP hn hj (by omega)]at hsz
 have hnone: ∀{x:Int},x=0→ ¬(some x=some (xm first j:Int)):=by
  intro x hx h
  injection h with h
  omega
 -- the places
 have P:FW n.Op=true∧(n.Op=1→n.A= -1∧n.B= -1∧xm first j=1)∧(n.Op≠1→n.Op≠2→n.Op≠7→0<j∧n.A=(j:Int)-1∧n.B= -1∧xm first j=xm first (j-1)+1)∧(n.Op=2∨n.Op=7→0<j∧n.B=(j:Int)-1∧xm first (j-1)<j∧n.A=(j:Int)-1-(xm first (j-1):Int)∧xm first j=xm first (j-1-xm first (j-1))+xm first (j-1)+1):=by
  by_cases h1:n.Op=1
  ·rw [bk h1]at hsz
   by_cases hAB:n.A= -1∧n.B= -1
   ·rw [bk hAB]at hsz
    injection hsz with hsz
    exact⟨by rw [h1];rfl,fun _=>⟨hAB.1,hAB.2,by omega⟩,fun h=>absurd h1 h,fun h=>by omega⟩
   ·rw [aX hAB]at hsz;exact absurd hsz (hnone rfl)
  rw [aX h1]at hsz
  by_cases h27:n.Op=2∨n.Op=7
  ·rw [bk h27]at hsz
   by_cases hB:n.B=(j:Int)-1
   ·rw [bk hB]at hsz
    by_cases hj0:j=0
    ·rw [vp l (by omega) (by omega)]at hsz
     exact absurd hsz (hnone rfl)
    ·obtain⟨NB,_⟩:=hI.at (j:=j-1) (by omega)
     have eB:((j-1:Nat):Int)=n.B:=by omega
     have hszB:=NB.size (j+2) (by omega)
     have hpB:=NB.pos
     have hlB:=NB.le
     rw [eB]at hszB
     rw [hszB]at hsz
     simp only [bu]at hsz
     rw [cL (n:=n.B-_) (by omega) (by omega)]at hsz
     by_cases hA:n.A=n.B-(xm first (j-1):Int)
     ·rw [bk (by simp [hA];omega)]at hsz
      by_cases hA0:n.A<0
      ·rw [vp l (by omega) hA0]at hsz
       exact absurd hsz (hnone rfl)
      ·obtain⟨NA,_⟩:=hI.at (j:=j-1-xm first (j-1)) (by omega)
       have eA:((j-1-xm first (j-1):Nat):Int)=n.A:=by omega
       have hszA:=NA.size (j+2) (by omega)
       have hpA:=NA.pos
       have hlA:=NA.le
       rw [eA]at hszA
       rw [hszA]at hsz
       simp only [bu]at hsz
       rw [bk (by simp;omega),cL (n:=(xm first (j-1-xm first (j-1)):Int)+(xm first (j-1):Int)) (by omega) (by omega),cL (by omega) (by omega)]at hsz
       injection hsz with hsz
       refine⟨?_,fun h=>absurd h h1,fun _ h2 h7=>by rcases h27 with h|h;exact absurd h h2;exact absurd h h7,fun _=>⟨by omega,hB,by omega,by omega,by omega⟩⟩
       rcases h27 with h|h<;>rw [h]<;>rfl
     ·rw [aX (by simp;intro _;exact hA)]at hsz
      exact absurd hsz (hnone rfl)
   ·rw [aX hB]at hsz;exact absurd hsz (hnone rfl)
  rw [aX h27]at hsz
  by_cases hop:FW n.Op=true
  ·rw [bk hop]at hsz
   by_cases hA:n.A=(j:Int)-1∧n.B= -1
   ·rw [bk hA]at hsz
    by_cases hj0:j=0
    ·rw [vp l (by omega) (by omega)]at hsz
     exact absurd hsz (hnone rfl)
    ·obtain⟨NA,_⟩:=hI.at (j:=j-1) (by omega)
     have eA:((j-1:Nat):Int)=n.A:=by omega
     have hszA:=NA.size (j+2) (by omega)
     have hpA:=NA.pos
     have hlA:=NA.le
     rw [eA]at hszA
     rw [hszA]at hsz
     simp only [bu]at hsz
     rw [bk (by simp;omega),cL (by omega) (by omega)]at hsz
     injection hsz with hsz
     exact⟨hop,fun h=>absurd h h1,fun _ _ _=>⟨by omega,hA.1,hA.2,by omega⟩,fun h=>absurd h h27⟩
   ·rw [aX hA]at hsz;exact absurd hsz (hnone rfl)
  ·rw [aX hop]at hsz;exact absurd hsz (hnone rfl)
 obtain⟨p0,p1,p2,p3⟩:=P
 -- what it has of its own, and its kinds
 have hk:=N0.kinds (j+3) (by omega)
 have hszR:kU l (j:Int)=some (xm first j:Int):=N0.size ir (vI (by omega))
 have ho:Cf n=true:=by
  cases ho:Cf n with
  |true=>rfl
  |false=>
   exfalso
   unfold cA at hk
   rw [hszR,hn]at hk
   simp only [bu,sW,ho]at hk
   have: ¬(xm first j=0):=by omega
   simp [this]at hk
 have hpl:n.A<(j:Int)∧n.B<(j:Int):=by
  by_cases h1:n.Op=1
  ·obtain⟨a,b,_⟩:=p1 h1;omega
  by_cases h27:n.Op=2∨n.Op=7
  ·obtain⟨a,b,c,d,_⟩:=p3 h27;omega
  ·obtain⟨a,b,c,_⟩:=p2 h1 (fun h=>h27 (.inl h)) (fun h=>h27 (.inr h));omega
 rw [Bg hn hszR (by omega) ho]at hk
 have hkA: ∀(p:Int),0≤p→p<(j:Int)→cA (j+2) l p=some (M0 kinds p.toNat,true):=by
  intro p hp0 hpj
  obtain⟨NA,_⟩:=hI.at (j:=p.toNat) (by omega)
  have:=NA.kinds (j+2) (by omega)
  rw [show((p.toNat:Nat):Int)=p from by omega]at this
  exact this
 have hk1: ∀a,eW (cA (j+2)) l (j:Int) n a=gY l (j:Int) n a (if n.B<0 then []else M0 kinds n.B.toNat):=by
  intro a
  unfold eW
  by_cases hB:0≤n.B
  ·rw [bk (by simpa using hB),hkA n.B hB hpl.2,aX (by omega)]
   rfl
  ·rw [aX (by simpa using hB),bk (by omega)]
 have hk2:gY l (j:Int) n (if n.A<0 then []else M0 kinds n.A.toNat) (if n.B<0 then []else M0 kinds n.B.toNat)=some (M0 kinds j,true):=by
  by_cases hA:0≤n.A
  ·rw [bk (by simpa using hA),hkA n.A hA hpl.1]at hk
   simp only [bu,nh,gL,eT]at hk
   rw [hk1]at hk
   rw [aX (show¬n.A<0 by omega)]
   exact hk
  ·rw [aX (by simpa using hA),hk1]at hk
   rw [bk (show n.A<0 by omega)]
   exact hk
 unfold gY at hk2
 cases hr:bH n (if n.A<0 then []else M0 kinds n.A.toNat) (if n.B<0 then []else M0 kinds n.B.toNat)with
 |none=>rw [hr]at hk2;cases hk2
 |some r=>
  rw [hr]at hk2
  simp only [bu]at hk2
  split at hk2
  ·simp at hk2
  ·rename_i hc
   injection hk2 with hk2
   injection hk2 with e1 e2
   refine⟨n,hn,p0,ho,p1,p2,p3,?_,fun h8=>?_,N0.len,N0.pos,N0.le⟩
   ·rw [hr,←e1,←e2]
   ·simp only [qO,mz,tt,rM,lX,not_or,not_and,Decidable.not_not]at hc
    have:=hc.1 h8
    rw [cL (by omega) (by omega)]at this
    omega
variable{sz:Nat→Nat}
theorem Qu{m:Nat}(hl:l.Nodes.length≤60)(hm:m≤l.Nodes.length)(h: ∀j,j<m→ ∃n,Az l sz ks j n): ∀(j:Nat),j<m→(∀fu,j+1<fu→cn fu l (j:Int)=some (sz j:Int))∧ ∀fu,j+1<fu→cA fu l (j:Int)=some (ks j,true):=by
 intro j
 induction j using Nat.strongRecOn with
 |ind j ih=>
  intro hj
  obtain⟨n,F⟩:=h j hj
  have hpl:n.A<(j:Int)∧n.B<(j:Int):=by
   by_cases h1:n.Op=1
   ·obtain⟨a,b,_⟩:=F.lf h1;omega
   by_cases h27:n.Op=2∨n.Op=7
   ·obtain⟨a,b,c,d,_⟩:=F.bi h27;omega
   ·obtain⟨a,b,c,_⟩:=F.un h1 (fun h=>h27 (.inl h)) (fun h=>h27 (.inr h));omega
  have hS: ∀fu,j+1<fu→cn fu l (j:Int)=some (sz j:Int):=by
   intro fu hf
   obtain⟨fu,rfl⟩: ∃k,fu=k+1:=⟨fu-1,by omega⟩
   rw [GP F.node (by omega) (by omega)]
   by_cases h1:n.Op=1
   ·obtain⟨a,b,c⟩:=F.lf h1
    rw [bk h1,bk ⟨a,b⟩,c];rfl
   rw [aX h1]
   by_cases h27:n.Op=2∨n.Op=7
   ·obtain⟨a,b,c,d,e⟩:=F.bi h27
    obtain⟨nB,FB⟩:=h (j-1) (by omega)
    obtain⟨nA,FA⟩:=h (j-1-sz (j-1)) (by omega)
    have hB:=(ih (j-1) (by omega) (by omega)).1 fu (by omega)
    have hA:=(ih (j-1-sz (j-1)) (by omega) (by omega)).1 fu (by omega)
    rw [show((j-1:Nat):Int)=n.B from by omega]at hB
    rw [show((j-1-sz (j-1):Nat):Int)=n.A from by omega]at hA
    have q1:=FB.pos
    have q2:=FB.le
    have q3:=FA.pos
    have q4:=FA.le
    rw [bk h27,bk b,hB]
    simp only [bu]
    rw [cL (n:=n.B-_) (by omega) (by omega),bk (by simp;omega),hA]
    simp only [bu]
    rw [bk (by simp;omega),cL (n:=(sz (j-1-sz (j-1)):Int)+(sz (j-1):Int)) (by omega) (by omega),cL (by omega) (by omega),e]
    rfl
   ·obtain⟨a,b,c,d⟩:=F.un h1 (fun h=>h27 (.inl h)) (fun h=>h27 (.inr h))
    obtain⟨nA,FA⟩:=h (j-1) (by omega)
    have hA:=(ih (j-1) (by omega) (by omega)).1 fu (by omega)
    rw [show((j-1:Nat):Int)=n.A from by omega]at hA
    have q1:=FA.pos
    have q2:=FA.le
    rw [aX h27,bk F.op,bk ⟨b,c⟩,hA]
    simp only [bu]
    rw [bk (by simp;omega),cL (by omega) (by omega),d]
    rfl
  refine⟨hS,fun fu hf=>?_⟩
  obtain⟨fu,rfl⟩: ∃k,fu=k+1:=⟨fu-1,by omega⟩
  have hszR:kU l (j:Int)=some (sz j:Int):=hS ir (vI (by omega))
  have hp:=F.pos
  rw [Bg F.node hszR (by omega) F.own]
  have hkA: ∀(p:Int),0≤p→p<(j:Int)→cA fu l p=some (ks p.toNat,true):=by
   intro p hp0 hpj
   have:=(ih p.toNat (by omega) (by omega)).2 fu (by omega)
   rw [show((p.toNat:Nat):Int)=p from by omega]at this
   exact this
  have hk1: ∀a,eW (cA fu) l (j:Int) n a=gY l (j:Int) n a (if n.B<0 then []else ks n.B.toNat):=by
   intro a
   unfold eW
   by_cases hB:0≤n.B
   ·rw [bk (by simpa using hB),hkA n.B hB hpl.2,aX (by omega)]
    rfl
   ·rw [aX (by simpa using hB),bk (by omega)]
  have hk2:gY l (j:Int) n (if n.A<0 then []else ks n.A.toNat) (if n.B<0 then []else ks n.B.toNat)=some (ks j,true):=by
   unfold gY
   rw [F.kinds]
   simp only [bu]
   rw [aX]
   have hlen:=F.len
   simp only [qO,mz,tt,rM,lX,not_or,not_and,Decidable.not_not]
   refine⟨fun h8=>?_,by omega⟩
   have:=F.last h8
   rw [cL (by omega) (by omega)]
   omega
  by_cases hA:0≤n.A
  ·rw [bk (by simpa using hA),hkA n.A hA hpl.1]
   simp only [bu,nh,gL,eT]
   rw [hk1]
   rw [aX (show¬n.A<0 by omega)]at hk2
   exact hk2
  ·rw [aX (by simpa using hA),hk1]
   rw [bk (show n.A<0 by omega)]at hk2
   exact hk2
theorem Lb(hl:l.Nodes.length≤60)(hp:1≤l.Nodes.length)(h: ∀j,j<l.Nodes.length→ ∃n,Az l sz ks j n)(hw:sz (l.Nodes.length-1)=l.Nodes.length):oT l=true:=by
 have H:=Qu hl (dY _) h
 unfold oT rX
 rw [aX (by simp;omega)]
 have key: ∀(tl:List ay) (i:Nat),l.Nodes.drop i=tl→i+tl.length=l.Nodes.length→fH l tl i=some (-1):=by
  intro tl
  induction tl with
  |nil=>
   intro i _ _
   unfold fH
   have:=(H (l.Nodes.length-1) (by omega)).1 ir (vI (by omega))
   rw [cL (by omega) (by omega),show(l.Nodes.length:Int)-1=((l.Nodes.length-1:Nat):Int)from by omega]
   unfold kU
   rw [this,hw]
   simp
  |cons n tl ih=>
   intro i hd hi
   simp only [jf]at hi
   obtain⟨_,h2,h3⟩:=lE hd
   unfold fH rY
   rw [(H i h2).2 ir (vI (by omega))]
   simp only [bu,nh,gL,eT]
   exact ih (i+1) h3 (by omega)
 rw [key l.Nodes 0 rfl (by simp)]
 rfl

structure acE(n:ay):Prop where
 cond:0<n.Cond.Nodes.length→jd n.Cond.Nodes=true
 items: ∀e∈n.Items,0<e.Nodes.length→jd e.Nodes=true
 args: ∀g∈n.Aggs,0<g.Arg.Nodes.length→jd g.Arg.Nodes=true
def JJ(e:bS):Bool:= !e.Nodes.isEmpty&&e.Nodes.any Zt
def Q8(g:gv):Bool:=if g.Tag=3 then true else JJ g.Arg
def Mi(n:ay):Bool:=JJ n.Cond||n.Items.any JJ||n.Aggs.any Q8

def Al(l:cm)(e p:Nat):cm:=⟨((l.Nodes.take (p+1)).drop e).map (FV (-(e:Int)))⟩
theorem wy{e:Nat}(hp:p<l.Nodes.length):(Al l e p).Nodes.length=p+1-e:=by
 unfold Al;simp;omega
theorem Ih(h:qE l)(e p:Nat):qE (Al l e p):=
 Uk fun n hn=>h n (List.mem_of_mem_take (List.mem_of_mem_drop hn))
theorem NJ(hS:qE l)(hl:l.Nodes.length≤60){e:Nat}(hp:p<l.Nodes.length)(he:e≤100): ∀(tl:List ay) (i fu:Nat) (out:cm),(l.Nodes.take (p+1)).drop i=tl→i+tl.length=p+1→tl.length<fu→out.Nodes.length≤i→nG l (p:Int) (e:Int) fu (i:Int) out=some (⟨out.Nodes++tl.map (FV (-(e:Int)))⟩,0):=by
 intro tl
 induction tl with
 |nil=>
  intro i fu out hd hi hf _
  obtain⟨fu,rfl⟩: ∃k,fu=k+1:=⟨fu-1,by omega⟩
  simp only [pZ,y9]at hi
  rw [nG,aX (by simp;omega)]
  simp
 |cons x tl ih=>
  intro i fu out hd hi hf ho
  simp only [jf]at hi hf
  obtain⟨fu,rfl⟩: ∃k,fu=k+1:=⟨fu-1,by omega⟩
  obtain⟨h1,h2,h3⟩:=lE hd
  have h1' :de l.Nodes (i:Int)=some x:=by
   rw [cC]at h1 ⊢
   rw [BZ (by omega)]at h1
   exact h1
  have hx:jv x:=hS x (by rw [cC]at h1';exact sM h1')
  rw [nG,bk (by simp;omega),h1']
  simp only [bu]
  rw [cL (n:=(0:Int)-(e:Int)) (by omega) (by omega),Dx hx]
  simp only [bu]
  rw [cJ (by simp;omega),cL (by omega) (by omega),show((i:Int)+1)=((i+1:Nat):Int)from by omega]
  simp only [bu]
  rw [ih (i+1) fu _ h3 (by omega) (by omega) (by simp;omega)]
  simp

theorem KO(n:ay)(d:Int): ∀(fu:Nat) (ok:Bool) (i:Int),dH (FV d n) fu ok i=dH n fu ok i:=by
 intro fu
 induction fu with
 |zero=>intros;rfl
 |succ fu ih=>intros;simp only [dH,ih];rfl
theorem KM(n:ay)(d:Int)(a:List Int): ∀(fu:Nat) (out:List Int) (ok:Bool) (i:Int),d7 (FV d n) a fu out ok i=d7 n a fu out ok i:=by
 intro fu
 induction fu with
 |zero=>intros;rfl
 |succ fu ih=>intros;simp only [d7,ih];rfl
theorem KN(n:ay)(d:Int)(a:List Int): ∀(fu:Nat) (out:List Int) (i:Int),d8 (FV d n) a fu out i=d8 n a fu out i:=by
 intro fu
 induction fu with
 |zero=>intros;rfl
 |succ fu ih=>intros;simp only [d8,ih,KM];rfl
theorem KL(n:ay)(d:Int)(a:List Int): ∀(fu:Nat) (out:List Int) (ok:Bool) (i:Int),d6 (FV d n) a fu out ok i=d6 n a fu out ok i:=by
 intro fu
 induction fu with
 |zero=>intros;rfl
 |succ fu ih=>intros;simp only [d6,ih];rfl
theorem KK(n:ay)(d:Int)(a:List Int): ∀(fu:Nat) (ok:Bool) (i:Int),dv (FV d n) a fu ok i=dv n a fu ok i:=by
 intro fu
 induction fu with
 |zero=>intros;rfl
 |succ fu ih=>intros;simp only [dv,ih];rfl
theorem KJ(n:ay)(d:Int)(a b:List Int):bH (FV d n) a b=bH n a b:=by
 unfold bH
 simp only [KO,KN,KL,KK]
 rfl
theorem Uc(n:ay)(d:Int):Cf (FV d n)=Cf n:=rfl
section
abbrev FT(l:cm)(sz:Nat→Nat)(ks:Nat→List Int):Prop:= ∀j,j<l.Nodes.length→ ∃n,Az l sz ks j n
theorem Z2(H:FT l sz ks): ∀(p:Nat),p<l.Nodes.length→ ∀q,p+1-sz p≤q→q≤p→p+1-sz p≤q+1-sz q:=by
 intro p
 induction p using Nat.strongRecOn with
 |ind p ih=>
  intro hp q h1 h2
  by_cases hq:q=p
  ·subst hq;exact dY _
  obtain⟨n,F⟩:=H p hp
  by_cases c1:n.Op=1
  ·obtain⟨_,_,e⟩:=F.lf c1
   omega
  by_cases c27:n.Op=2∨n.Op=7
  ·obtain⟨a,b,c,d,e⟩:=F.bi c27
   obtain⟨nA,FA⟩:=H (p-1-sz (p-1)) (by omega)
   have hpA:=FA.pos
   have hlA:=FA.le
   by_cases hB:p-1+1-sz (p-1)≤q
   ·have:=ih (p-1) (by omega) (by omega) q hB (by omega)
    omega
   ·have:=ih (p-1-sz (p-1)) (by omega) (by omega) q (by omega) (by omega)
    omega
  ·obtain⟨a,b,c,d⟩:=F.un c1 (fun h=>c27 (.inl h)) (fun h=>c27 (.inr h))
   have:=ih (p-1) (by omega) (by omega) q (by omega) (by omega)
   omega
theorem Yw(H:FT l sz ks)(hp:p<l.Nodes.length)(h1:p+1-sz p≤i)(h2:i≤p)(F:Az l sz ks i n):(n.A= -1∨((p+1-sz p:Nat):Int)≤n.A∧n.A<(i:Int))∧(n.B= -1∨((p+1-sz p:Nat):Int)≤n.B∧n.B<(i:Int)):=by
 have hn:=Z2 H p hp i h1 h2
 by_cases c1:n.Op=1
 ·obtain⟨a,b,_⟩:=F.lf c1
  exact⟨.inl a,.inl b⟩
 by_cases c27:n.Op=2∨n.Op=7
 ·obtain⟨a,b,c,d,e⟩:=F.bi c27
  obtain⟨nA,FA⟩:=H (i-1-sz (i-1)) (by omega)
  have hpA:=FA.pos
  have hlA:=FA.le
  exact⟨.inr (by omega),.inr (by omega)⟩
 ·obtain⟨a,b,c,d⟩:=F.un c1 (fun h=>c27 (.inl h)) (fun h=>c27 (.inr h))
  obtain⟨nA,FA⟩:=H (i-1) (by omega)
  have hpA:=FA.pos
  exact⟨.inr (by omega),.inl c⟩
theorem AZ{d:Int}(h:x= -1):Eu d x= -1:=by unfold Eu;rw [aX (by omega),h]
theorem H0{e:Int}(h:0≤e)(h2:e≤x)(h3:x≤100000):Eu (-e) x=x-e:=by
 unfold Eu
 rw [bk (by omega),cL (by omega) (by omega)]
 omega
theorem EP(H:FT l sz ks)(hl:l.Nodes.length≤60)(hp:p<l.Nodes.length)(hs:sz p≤p+1):FT (Al l (p+1-sz p) p) (fun j=>sz (p+1-sz p+j)) (fun j=>ks (p+1-sz p+j)):=by
 obtain⟨e,he⟩: ∃e,e=p+1-sz p:=⟨_,rfl⟩
 rw [←he]
 intro j hj
 rw [wy hp]at hj
 obtain⟨n,F⟩:=H (e+j) (by omega)
 have hin:=Yw H hp (i:=e+j) (by omega) (by omega) F
 have hnest:=Z2 H p hp (e+j) (by omega) (by omega)
 rw [←he]at hin hnest
 obtain⟨hA,hB⟩:=hin
 refine⟨FV (-(e:Int)) n,⟨?_,F.op,by rw [Uc];exact F.own,fun c1=>?_,fun c1 c2 c7=>?_,fun c27=>?_,?_,fun c8=>?_,F.len,F.pos,?_⟩⟩
 ·have h1:=F.node
  rw [cC]at h1 ⊢
  unfold Al
  simp only
  rw [CT,xr,BZ (by omega),h1]
  rfl
 ·obtain⟨a,b,c⟩:=F.lf c1
  exact⟨AZ a,AZ b,c⟩
 ·obtain⟨a,b,c,d⟩:=F.un c1 c2 c7
  obtain⟨nA,FA⟩:=H (e+j-1) (by omega)
  have hpA:=FA.pos
  have eA:Eu (-(e:Int)) n.A=n.A-(e:Int):=H0 (by omega) (by omega) (by omega)
  refine⟨by omega,?_,AZ c,?_⟩
  ·show Eu (-(e:Int)) n.A=_
   rw [eA];omega
  ·show sz (e+j)=sz (e+(j-1))+1
   rw [d,show e+j-1=e+(j-1)from by omega]
 ·obtain⟨a,b,c,d,g⟩:=F.bi c27
  obtain⟨nA,FA⟩:=H (e+j-1-sz (e+j-1)) (by omega)
  have hpA:=FA.pos
  have eA:Eu (-(e:Int)) n.A=n.A-(e:Int):=H0 (by omega) (by omega) (by omega)
  have eB:Eu (-(e:Int)) n.B=n.B-(e:Int):=H0 (by omega) (by omega) (by omega)
  have ej:e+(j-1)=e+j-1:=by omega
  refine⟨by omega,?_,?_,?_,?_⟩
  ·show Eu (-(e:Int)) n.B=_
   rw [eB];omega
  ·show sz (e+(j-1))<j
   rw [ej];omega
  ·show Eu (-(e:Int)) n.A=(j:Int)-1-(sz (e+(j-1)):Int)
   rw [eA,ej];omega
  ·show sz (e+j)=sz (e+(j-1-sz (e+(j-1))))+sz (e+(j-1))+1
   rw [ej,g,show e+(j-1-sz (e+j-1))=e+j-1-sz (e+j-1)from by omega]
 ·rw [KJ]
  have key: ∀x:Int,(x= -1∨(e:Int)≤x∧x<((e+j:Nat):Int))→(if Eu (-(e:Int)) x<0 then([]:List Int)else ks (e+(Eu (-(e:Int)) x).toNat))=if x<0 then []else ks x.toNat:=by
   intro x hx
   rcases hx with hx|hx
   ·rw [AZ hx,bk (by decide),bk (by omega)]
   ·rw [H0 (by omega) hx.1 (by omega),aX (by omega),aX (by omega)]
    congr 1
    omega
  have h1:=F.kinds
  rw [←key n.A hA,←key n.B hB]at h1
  exact h1
 ·have:=F.last c8
  rw [wy hp]
  omega
 ·show sz (e+j)≤j+1
  have:=F.le
  omega
theorem MJ(H:FT l sz ks)(hl:l.Nodes.length≤60)(hp:p<l.Nodes.length)(hs:sz p≤p+1)(hs1:1≤sz p):oT (Al l (p+1-sz p) p)=true:=by
 have hlen:=wy (l:=l) (e:=p+1-sz p) hp
 refine Lb (by rw [hlen];omega) (by rw [hlen];omega) (EP H hl hp hs) ?_
 rw [hlen]
 show sz (p+1-sz p+(p+1-(p+1-sz p)-1))=_
 rw [show p+1-sz p+(p+1-(p+1-sz p)-1)=p from by omega]
 omega
end

theorem acN{k:Int}(h:k4 k):(decide (0≤k)&&decide (k≤3))=true:=by simp;unfold k4 at h;omega
theorem yQ{a b:List Int}(ha:zj a=true)(hb:zj b=true):zj (a++b)=true:=by unfold zj at*;rw [List.all_append,ha,hb];rfl
theorem DO{k:Int}(h:k4 k):zj [k]=true:=by rw [Bh,acN h];rfl
theorem qC{xs ys zs:List α}(h:app xs ys=some zs):zs=xs++ys:=by
 unfold app at h
 split at h
 ·injection h with h;exact h.symm
 ·cases h
theorem KP(e:bS)(kinds:List Int):k4 (gc e kinds).1:=by
 unfold gc
 split
 ·split
  ·rename_i hk
   split
   ·cases ht:mJ e.Nodes with
    |none=>exact .inl rfl
    |some t=>
     obtain⟨hw,_,_⟩:=kz ht
     simp only [bu]
     cases hd:kd kinds t with
     |none=>exact .inl rfl
     |some k=>exact Ox (fun k=>yP hk) t hw hd
   ·exact .inl rfl
  ·exact .inl rfl
 ·exact .inl rfl
theorem Zu(g:gv)(kinds:List Int):k4 (BM g kinds).1:=by
 have hk:=KP g.Arg kinds
 unfold BM ld
 rw [lM]
 simp only [bu]
 repeat' split
 all_goals first|exact hk|simp [k4]
theorem RY{a:List Int}{i k:Int}(ha:zj a=true)(h:de a i=some k):k4 k:=by
 obtain⟨_,h2⟩:=lC h
 exact yP ha (sM h2)
theorem Yt(n:ay)(a:List Int): ∀(fu:Nat) (out:List Int) (ok:Bool) (i:Int) (k:List Int) (o:Bool),zj out=true→d7 n a fu out ok i=some (k,o)→zj k=true:=by
 intro fu
 induction fu with
 |zero=>intro _ _ _ _ _ _ h;cases h
 |succ fu ih=>
  intro out ok i k o ho h
  rw [d7]at h
  split at h
  ·cases hx:de n.Aggs i with
   |none=>rw [hx]at h;cases h
   |some g=>
    rw [hx]at h
    simp only [bu,pt]at h
    cases ha:app out [(BM g a).1]with
    |none=>rw [ha]at h;cases h
    |some z=>
     rw [ha]at h
     exact ih _ _ _ _ _ (by rw [qC ha];exact yQ ho (DO (Zu g a))) h
  ·injection h with h
   injection h with h _
   rw [←h];exact ho
theorem Yu(n:ay)(a:List Int)(hka:zj a=true): ∀(fu:Nat) (out:List Int) (i:Int) (k:List Int) (o:Bool),zj out=true→d8 n a fu out i=some (k,o)→zj k=true:=by
 intro fu
 induction fu with
 |zero=>intro _ _ _ _ _ h;cases h
 |succ fu ih=>
  intro out i k o ho h
  rw [d8]at h
  split at h
  ·cases hx:de n.Keys i with
   |none=>rw [hx]at h;cases h
   |some g=>
    rw [hx]at h
    simp only [bu]at h
    split at h
    ·injection h with h;injection h with h _;rw [←h];rfl
    ·cases hy:de a g with
     |none=>rw [hy]at h;cases h
     |some y=>
      rw [hy]at h
      simp only [bu]at h
      cases ha:app out [y]with
      |none=>rw [ha]at h;cases h
      |some z=>
       rw [ha]at h
       exact ih _ _ _ _ (by rw [qC ha];exact yQ ho (DO (RY hka hy))) h
  ·exact Yt n a _ _ _ _ _ _ ho h
theorem Ys(n:ay)(a:List Int): ∀(fu:Nat) (out:List Int) (ok:Bool) (i:Int) (k:List Int) (o:Bool),zj out=true→d6 n a fu out ok i=some (k,o)→zj k=true:=by
 intro fu
 induction fu with
 |zero=>intro _ _ _ _ _ _ h;cases h
 |succ fu ih=>
  intro out ok i k o ho h
  rw [d6]at h
  split at h
  ·cases hx:de n.Items i with
   |none=>rw [hx]at h;cases h
   |some g=>
    rw [hx]at h
    simp only [bu,lM]at h
    cases ha:app out [(gc g a).1]with
    |none=>rw [ha]at h;cases h
    |some z=>
     rw [ha]at h
     exact ih _ _ _ _ _ (by rw [qC ha];exact yQ ho (DO (KP g a))) h
  ·injection h with h
   injection h with h _
   rw [←h];exact ho
theorem Z4(n:ay)(a:List Int): ∀(fu:Nat) (ok:Bool) (i:Int) (k:List Int) (o:Bool),dv n a fu ok i=some (k,o)→k=a:=by
 intro fu
 induction fu with
 |zero=>intro _ _ _ _ h;cases h
 |succ fu ih=>
  intro ok i k o h
  rw [dv]at h
  split at h
  ·generalize (if ok=true then(de n.Order i).bind fun e10=>some (decide ((0:Int)≤e10.Col))else some false)=z at h
   cases z with
   |none=>cases h
   |some z=>
    simp only [bu]at h
    generalize (if z=true then(de n.Order i).bind fun e11=>some (decide (e11.Col<(a.length:Int)))else some false)=y at h
    cases y with
    |none=>cases h
    |some y=>exact ih _ _ _ _ h
  ·injection h with h
   injection h with h _
   exact h.symm
theorem Z6(n:ay): ∀(fu:Nat) (ok:Bool) (i:Int) (k:List Int) (o:Bool),dH n fu ok i=some (k,o)→k=n.Kinds:=by
 intro fu
 induction fu with
 |zero=>intro _ _ _ _ h;cases h
 |succ fu ih=>
  intro ok i k o h
  rw [dH]at h
  split at h
  ·generalize (if ok=true then(de n.Kinds i).bind fun e10=>some (decide ((1:Int)≤e10))else some false)=z at h
   cases z with
   |none=>cases h
   |some z=>
    simp only [bu]at h
    generalize (if z=true then(de n.Kinds i).bind fun e11=>some (decide (e11≤(3:Int)))else some false)=y at h
    cases y with
    |none=>cases h
    |some y=>exact ih _ _ _ _ h
  ·injection h with h
   injection h with h _
   exact h.symm
theorem Z5(b:List Int): ∀(tl:List Int) (i:Nat) (out:List Int) (ok:Bool) (k:List Int) (o:Bool),zj tl=true→zj b=true→zj out=true→dG b tl i out ok=some (k,o)→zj k=true∧k.length=out.length+tl.length:=by
 intro tl
 induction tl with
 |nil=>
  intro i out ok k o _ _ ho h
  rw [dG]at h
  injection h with h
  injection h with h _
  rw [←h];exact⟨ho,rfl⟩
 |cons x tl ih=>
  intro i out ok k o ht hb ho h
  rw [Bh,mz]at ht
  have step: ∀z:Int,k4 z→iH b (dG b tl) i out ok z=some (k,o)→zj k=true∧k.length=out.length+(tl.length+1):=by
   intro z hz hk
   unfold iH at hk
   cases ha:app out [z]with
   |none=>rw [ha]at hk;cases hk
   |some w=>
    rw [ha]at hk
    simp only [bu]at hk
    generalize (if ok=true then(de b (i:Int)).bind fun e7=>(if(!(e7==z))=true then(de b (i:Int)).bind fun e8=>some (e8==(0:Int))else some true).bind fun t3=>some t3 else some false)=q at hk
    cases q with
    |none=>cases hk
    |some q=>
     have:=ih (i+1) w q k o ht.2 hb (by rw [qC ha];exact yQ ho (DO hz)) hk
     rw [qC ha]at this
     simp only [jx,jf,pZ]at this
     exact⟨this.1,by omega⟩
  rw [dG]at h
  split at h
  ·cases hx:de b (i:Int)with
   |none=>rw [hx]at h;cases h
   |some y=>
    rw [hx]at h
    exact step y (RY hb hx) h
  ·exact step x (by have:=ht.1;simp at this;unfold k4;omega) h
theorem Qm{a b:List Int}(hs:jv n)(hop:FW n.Op=true)(ha:zj a=true)(hb:zj b=true)(h:bH n a b=some (k,true)):zj k=true:=by
 have h0:=h
 unfold bH at h
 rcases q8 hop with c|c|c|c|c|c|c|c
 ·rw [bk (by simp [c])]at h
  rw [Z6 n _ _ _ _ _ h]
  obtain⟨k1,o,k',g1,g2,_⟩:=GT default n a b hs c
  rw [h0]at g2
  injection g2 with g2
  injection g2 with _ g2
  subst g2
  unfold gp at g1
  split at g1
  ·have hc:cO n.Kinds jF=some (n.Kinds.any fun k=> !(((k==(1:Int))||(k==(2:Int)))||(k==(3:Int)))):=kh (fun v=>rfl) _
   rw [hc]at g1
   simp only [bu,zq]at g1
   injection g1 with g1
   injection g1 with _ g1
   rw [Dn,Js]at g1
   unfold zj
   rw [ki]
   intro z hz
   have:=g1 z hz
   simp at this
   simp;omega
  ·simp at g1
 ·rw [aX (by simp [c]),bk (by simp [c])]at h
  cases h1:app ([]:List Int) a with
  |none=>rw [h1]at h;cases h
  |some l1=>
   rw [h1]at h
   simp only [bu]at h
   cases h2:app l1 b with
   |none=>rw [h2]at h;cases h
   |some l2=>
    rw [h2]at h
    simp only [bu,md]at h
    injection h with h
    injection h with h _
    rw [←h,qC h2,qC h1]
    exact yQ (yQ rfl ha) hb
 ·rw [aX (by simp [c]),aX (by simp [c]),bk (by simp [c])]at h
  simp only [bu,md]at h
  injection h with h
  injection h with h _
  rw [←h];exact ha
 ·rw [aX (by simp [c]),aX (by simp [c]),aX (by simp [c]),bk (by simp [c])]at h
  exact Yu n a ha _ _ _ _ _ rfl h
 ·rw [aX (by simp [c]),aX (by simp [c]),aX (by simp [c]),aX (by simp [c]),bk (by simp [c])]at h
  exact Ys n a _ _ _ _ _ _ rfl h
 ·rw [aX (by simp [c]),aX (by simp [c]),aX (by simp [c]),aX (by simp [c]),aX (by simp [c]),bk (by simp [c])]at h
  injection h with h
  injection h with h _
  rw [←h];exact ha
 ·rw [aX (by simp [c]),aX (by simp [c]),aX (by simp [c]),aX (by simp [c]),aX (by simp [c]),aX (by simp [c]),bk (by simp [c])]at h
  split at h
  ·injection h with h;injection h with _ h;cases h
  ·exact(Z5 b a 0 [] true k true ha hb rfl h).1
 ·rw [aX (by simp [c]),aX (by simp [c]),aX (by simp [c]),aX (by simp [c]),aX (by simp [c]),aX (by simp [c]),aX (by simp [c])]at h
  rw [Z4 n a _ _ _ _ _ h];exact ha
section
variable{d:cm}{sz' :Nat→Nat}{ks' :Nat→List Int}
theorem sb(F:Az l sz ks j n):(n.A= -1∨0≤n.A∧n.A<(j:Int))∧(n.B= -1∨0≤n.B∧n.B<(j:Int)):=by
 by_cases c1:n.Op=1
 ·obtain⟨a,b,_⟩:=F.lf c1
  exact⟨.inl a,.inl b⟩
 by_cases c27:n.Op=2∨n.Op=7
 ·obtain⟨a,b,c,d,e⟩:=F.bi c27
  exact⟨.inr (by omega),.inr (by omega)⟩
 ·obtain⟨a,b,c,d⟩:=F.un c1 (fun h=>c27 (.inl h)) (fun h=>c27 (.inr h))
  exact⟨.inr (by omega),.inl c⟩
theorem Wz(hS:qE l)(H:FT l sz ks): ∀j,j<l.Nodes.length→zj (ks j)=true:=by
 intro j
 induction j using Nat.strongRecOn with
 |ind j ih=>
  intro hj
  obtain⟨n,F⟩:=H j hj
  have hn:jv n:=hS n (by have:=F.node;rw [cC]at this;exact sM this)
  obtain⟨hA,hB⟩:=sb F
  refine Qm hn F.op ?_ ?_ F.kinds
  ·split
   ·rfl
   ·exact ih _ (by omega) (by omega)
  ·split
   ·rfl
   ·exact ih _ (by omega) (by omega)
theorem TZ{e:Nat}(h:0≤x)(h2:x≤10000)(h3:e≤10000):Eu (e:Int) x=x+e:=by
 unfold Eu
 rw [bk h,cL (by omega) (by omega)]
theorem ZF{e m:Nat}(H:FT l sz ks)(H' :FT d sz' ks')(hm:m≤l.Nodes.length)(hl:l.Nodes.length≤200)(he:e≤200)(hd:e+m≤d.Nodes.length)(hn: ∀j,j<m→ ∀n,de l.Nodes (j:Int)=some n→de d.Nodes ((e+j:Nat):Int)=some (FV (e:Int) n)): ∀j,j<m→sz' (e+j)=sz j∧ks' (e+j)=ks j:=by
 intro j
 induction j using Nat.strongRecOn with
 |ind j ih=>
  intro hj
  obtain⟨n,F⟩:=H j (by omega)
  obtain⟨n',F'⟩:=H' (e+j) (by omega)
  have hnn:n' =FV (e:Int) n:=by
   have h1:=hn j hj n F.node
   rw [F'.node]at h1
   injection h1
  subst hnn
  obtain⟨hA,hB⟩:=sb F
  constructor
  ·by_cases c1:n.Op=1
   ·rw [(F'.lf c1).2.2,(F.lf c1).2.2]
   by_cases c27:n.Op=2∨n.Op=7
   ·obtain⟨a,b,c,g,q⟩:=F.bi c27
    obtain⟨a',b',c',g',q'⟩:=F'.bi c27
    have ej:e+j-1=e+(j-1):=by omega
    rw [ej,(ih (j-1) (by omega) (by omega)).1,show e+(j-1)-sz (j-1)=e+(j-1-sz (j-1))from by omega,(ih (j-1-sz (j-1)) (by omega) (by omega)).1]at q'
    rw [q',q]
   ·obtain⟨a,b,c,g⟩:=F.un c1 (fun h=>c27 (.inl h)) (fun h=>c27 (.inr h))
    obtain⟨a',b',c',g'⟩:=F'.un c1 (fun h=>c27 (.inl h)) (fun h=>c27 (.inr h))
    rw [show e+j-1=e+(j-1)from by omega,(ih (j-1) (by omega) (by omega)).1]at g'
    rw [g',g]
  ·have key: ∀x:Int,(x= -1∨0≤x∧x<(j:Int))→(if Eu (e:Int) x<0 then([]:List Int)else ks' (Eu (e:Int) x).toNat)=if x<0 then []else ks x.toNat:=by
    intro x hx
    rcases hx with hx|hx
    ·rw [AZ hx,bk (by decide),bk (by omega)]
    ·rw [TZ (by omega) (by omega) (by omega),aX (by omega),aX (by omega),show(x+(e:Int)).toNat=e+x.toNat from by omega,(ih x.toNat (by omega) (by omega)).2]
   have h1:=F'.kinds
   have hA' :(FV (e:Int) n).A=Eu (e:Int) n.A:=rfl
   have hB' :(FV (e:Int) n).B=Eu (e:Int) n.B:=rfl
   rw [KJ,hA',hB',key n.A hA,key n.B hB,F.kinds]at h1
   injection h1 with h1
   injection h1 with h1 _
   exact h1.symm
end
structure HB(l:cm)(sz:Nat→Nat)(ks:Nat→List Int):Prop where
 pos:1≤l.Nodes.length
 le:l.Nodes.length≤60
 all:FT l sz ks
 whole:sz (l.Nodes.length-1)=l.Nodes.length
 kinds:se l=some (ks (l.Nodes.length-1),0)
theorem E5(hS:qE l)(h:oT l=true): ∃sz ks,HB l sz ks:=by
 obtain⟨_,_,ob,j,r3,r4⟩:=A4 hS
 obtain⟨hL,hj⟩:=r4 h
 have hle:=hL.le
 have hpos:=hL.pos
 obtain⟨N0,_⟩:=hL.inv.at (j:=l.Nodes.length-1) (by omega)
 refine⟨xm ob.first,M0 ob.kinds,hpos,hle,fun j hj=>Lc hL.inv hle hj,?_,?_⟩
 ·have e1:=N0.size ir (vI (by omega))
  have e2:=hL.whole
  unfold kU at e2
  rw [show(l.Nodes.length:Int)-1=((l.Nodes.length-1:Nat):Int)from by omega,e1]at e2
  injection e2 with e2
  omega
 ·unfold se
  rw [r3,h]
  simp only [bu,nh,gL,eT]
  have hk:de ob.kinds j=some (M0 ob.kinds (l.Nodes.length-1)):=by
   rw [hj,show(l.Nodes.length:Int)-1=((l.Nodes.length-1:Nat):Int)from by omega,cC]
   unfold M0
   rw [ph (by rw [hL.inv.kl];omega)];rfl
  rw [hk]
  simp only [bu]
  rw [s7 _ (by have:=N0.len;omega)]
  rfl
theorem KH{sz' :Nat→Nat}{ks' :Nat→List Int}(hS:qE l)(K:HB l sz ks)(H:FT l sz' ks'):ks' (l.Nodes.length-1)=ks (l.Nodes.length-1)∧sz' (l.Nodes.length-1)=l.Nodes.length:=by
 have hle:=K.le
 have hpos:=K.pos
 have:=ZF (l:=l) (d:=l) (e:=0) (m:=l.Nodes.length) K.all H (dY _) (by omega) (by omega) (by omega) (fun j hj n hn=>by
  obtain⟨n',F⟩:=K.all j hj
  have e:n' =n:=by have:=F.node;rw [hn]at this;injection this with this;exact this.symm
  subst e
  obtain⟨hA,hB⟩:=sb F
  rw [ve,hn]
  have hz:=JW (n:=n') (by omega) (by omega)
  rw [show((0:Nat):Int)=0 from rfl,hz]) (l.Nodes.length-1) (by omega)
 simp only [ve]at this
 exact⟨this.2,by rw [this.1];exact K.whole⟩

def atN(x y:Int)(n:ay):ay:={n with A:=x,B:=y}
def d1(n:ay)(a:cm):cm:=⟨a.Nodes++[atN ((a.Nodes.length:Int)-1) (-1) n]⟩
def d2(n:ay)(a b:cm):cm:=⟨(a.Nodes++b.Nodes.map (FV (a.Nodes.length:Int)))++[atN ((a.Nodes.length:Int)-1) ((a.Nodes.length:Int)+(b.Nodes.length:Int)-1) n]⟩
theorem Qk{a:cm}(K:HB a sz ks)(F:Az a sz ks j n)(hj:j<a.Nodes.length):FV ((0:Nat):Int) n=n:=by
 obtain⟨hA,hB⟩:=sb F
 have hle:=K.le
 exact JW (by omega) (by omega)


theorem yu(h:i≤100000):IntKind.i64.wrap ((i:Int)+1)=((i+1:Nat):Int):=by rw [ux (by omega) (by omega)];omega
theorem Ou(n:ay): ∀(fu:Nat) (ok:Bool) (i:Int) (k:List Int),dH n fu ok i=some (k,true)→ok=true∧0≤n.Table∧n.Table≤3∧k=n.Kinds
 |0,_,_,_,h=>by unfold dH at h;cases h
 |fu+1,ok,i,k,h=>by
  unfold dH at h
  split at h
  ·cases ok with
   |false=>
    simp only [gL,eT,bu]at h
    exact absurd (Ou n fu false _ k h).1 (by simp)
   |true=>
    simp only [fM]at h
    cases hx:de n.Kinds i with
    |none=>rw [hx]at h;cases h
    |some e=>
     rw [hx]at h
     simp only [bu]at h
     split at h
     ·exact⟨rfl,(Ou n fu _ _ k h).2⟩
     ·exact⟨rfl,(Ou n fu _ _ k h).2⟩
  ·injection h with h
   injection h with h h2
   simp only [mz,lX]at h2
   exact⟨h2.1.1.1.1,h2.1.1.1.2,h2.1.1.2,h.symm⟩
theorem WU(n:ay)(a:List Int)(hs:n.Aggs.length≤5000): ∀(l:List gv) (fu:Nat) (out:List Int) (ok:Bool) (i:Nat) (k:List Int),n.Aggs.drop i=l→d7 n a fu out ok (i:Int)=some (k,true)→ok=true∧(∀g∈l,(BM g a).2=true)∧k=out++(l.map fun g=>(BM g a).1)∧n.Keys.length≤3
 |_,0,_,_,_,_,_,h=>by unfold d7 at h;cases h
 |[],fu+1,out,ok,i,k,hd,h=>by
  unfold d7 at h
  have:=vK hd
  rw [aX (by rw [lX];omega)]at h
  injection h with h
  injection h with h h2
  simp only [mz,lX]at h2
  exact⟨h2.1.1.1,by simp,by simp [h],by have:=h2.1.1.2;omega⟩
 |g::t,fu+1,out,ok,i,k,hd,h=>by
  obtain⟨h1,h2,h3⟩:=lE hd
  unfold d7 at h
  rw [bk (by rw [lX];omega),h1,bu,pt,bu,yu (by omega)]at h
  cases ha:app out [(BM g a).1]with
  |none=>rw [ha]at h;cases h
  |some z=>
   rw [ha,bu]at h
   obtain⟨p1,p2,p3,p4⟩:=WU n a hs t fu z _ (i+1) k h3 h
   rw [mz]at p1
   refine⟨p1.1,?_,?_,p4⟩
   ·intro y hy
    rcases gk.1 hy with q|q
    ·rw [q];exact p1.2
    ·exact p2 y q
   ·rw [p3,qC ha];simp
def E7(a:List Int)(c:Int):Int:=(a[c.toNat]?).getD 0
theorem RX{a:List Int}{c:Int}(h:0≤c)(h2:c<(a.length:Int)):de a c=some (E7 a c):=by
 obtain⟨k,hk⟩:=Ea h
 subst hk
 have hk:k<a.length:=by omega
 unfold E7
 rw [iA k rfl]
 simp [hk]
theorem WT(n:ay)(a:List Int)(hs:n.Keys.length≤5000)(hs2:n.Aggs.length≤5000): ∀(l:List Int) (fu:Nat) (out:List Int) (i:Nat) (k:List Int),n.Keys.drop i=l→d8 n a fu out (i:Int)=some (k,true)→(∀c∈l,0≤c∧c<(a.length:Int))∧(∀g∈n.Aggs,(BM g a).2=true)∧k=(out++l.map (E7 a))++(n.Aggs.map fun g=>(BM g a).1)∧n.Keys.length≤3
 |_,0,_,_,_,_,h=>by unfold d8 at h;cases h
 |[],fu+1,out,i,k,hd,h=>by
  unfold d8 at h
  have:=vK hd
  rw [aX (by rw [lX];omega)]at h
  obtain⟨_,p2,p3,p4⟩:=WU n a hs2 n.Aggs ir out true 0 k (by simp) h
  exact⟨by simp,p2,by simpa using p3,p4⟩
 |c::t,fu+1,out,i,k,hd,h=>by
  obtain⟨h1,h2,h3⟩:=lE hd
  unfold d8 at h
  rw [bk (by rw [lX];omega),h1,bu,yu (by omega)]at h
  by_cases hc:0≤c∧c<(a.length:Int)
  ·rw [aX (by simp only [qO,lX];omega),RX hc.1 hc.2,bu]at h
   cases ha:app out [E7 a c]with
   |none=>rw [ha]at h;cases h
   |some z=>
    rw [ha,bu]at h
    obtain⟨p1,p2,p3,p4⟩:=WT n a hs hs2 t fu z (i+1) k h3 h
    refine⟨?_,p2,?_,p4⟩
    ·intro y hy
     rcases gk.1 hy with q|q
     ·rw [q];exact hc
     ·exact p1 y q
    ·rw [p3,qC ha];simp
  ·rw [bk (by simp only [qO,lX];omega)]at h
   injection h with h
   injection h with h h2
   cases h2
theorem WS(n:ay)(a:List Int)(hs:n.Items.length≤5000): ∀(l:List bS) (fu:Nat) (out:List Int) (ok:Bool) (i:Nat) (k:List Int),n.Items.drop i=l→d6 n a fu out ok (i:Int)=some (k,true)→ok=true∧(∀e∈l,(gc e a).2=0)∧k=out++l.map fun e=>(gc e a).1
 |_,0,_,_,_,_,_,h=>by unfold d6 at h;cases h
 |[],fu+1,out,ok,i,k,hd,h=>by
  unfold d6 at h
  have:=vK hd
  rw [aX (by rw [lX];omega)]at h
  injection h with h
  injection h with h h2
  simp only [mz,lX]at h2
  exact⟨h2.1.1,by simp,by simp [h]⟩
 |g::t,fu+1,out,ok,i,k,hd,h=>by
  obtain⟨h1,h2,h3⟩:=lE hd
  unfold d6 at h
  rw [bk (by rw [lX];omega),h1,bu,lM,bu,yu (by omega)]at h
  cases ha:app out [(gc g a).1]with
  |none=>rw [ha]at h;cases h
  |some z=>
   rw [ha,bu]at h
   obtain⟨p1,p2,p3⟩:=WS n a hs t fu z _ (i+1) k h3 h
   simp only [mz,tt]at p1
   refine⟨p1.1,?_,?_⟩
   ·intro y hy
    rcases gk.1 hy with q|q
    ·rw [q];exact p1.2
    ·exact p2 y q
   ·rw [p3,qC ha];simp
theorem Oq(n:ay)(a:List Int)(hs:n.Order.length≤5000): ∀(l:List ig) (fu:Nat) (ok:Bool) (i:Nat) (k:List Int),n.Order.drop i=l→dv n a fu ok (i:Int)=some (k,true)→ok=true∧k=a∧ ∀o∈l,0≤o.Col∧o.Col<(a.length:Int)
 |_,0,_,_,_,_,h=>by unfold dv at h;cases h
 |[],fu+1,ok,i,k,hd,h=>by
  unfold dv at h
  have:=vK hd
  rw [aX (by rw [lX];omega)]at h
  injection h with h
  injection h with h h2
  simp only [mz,lX]at h2
  exact⟨h2.1.1.1,h.symm,by simp⟩
 |o::t,fu+1,ok,i,k,hd,h=>by
  obtain⟨h1,h2,h3⟩:=lE hd
  unfold dv at h
  rw [bk (by rw [lX];omega),h1,yu (by omega)]at h
  cases ok with
  |false=>
   simp only [gL,eT,bu]at h
   exact absurd (Oq n a hs t fu false (i+1) k h3 h).1 (by simp)
  |true=>
   simp only [fM,bu]at h
   by_cases hc:0≤o.Col
   ·rw [bk (by simpa using hc),bu]at h
    obtain⟨p1,p2,p3⟩:=Oq n a hs t fu _ (i+1) k h3 h
    refine⟨rfl,p2,?_⟩
    intro y hy
    rcases gk.1 hy with q|q
    ·rw [q];exact⟨hc,by simpa using p1⟩
    ·exact p3 y q
   ·rw [aX (by simpa using hc),bu]at h
    exact absurd (Oq n a hs t fu false (i+1) k h3 h).1 (by simp)
def OF(x y k:Int):Prop:=(x=k∨x=0)∧(y=k∨y=0)
theorem Ot(b:List Int)(hb:b.length≤5000): ∀(l:List Int) (i:Nat) (out:List Int) (ok:Bool) (k:List Int),l.length+i=b.length→dG b l i out ok=some (k,true)→ok=true∧ ∃t:List Int,k=out++t∧t.length=l.length∧ ∀(j:Nat) (x y z:Int),l[j]? =some x→b[i+j]? =some y→t[j]? =some z→OF x y z
 |[],i,out,ok,k,_,h=>by
  unfold dG at h
  injection h with h
  injection h with h h2
  exact⟨h2,[],by simp [h],rfl,by simp⟩
 |x::l,i,out,ok,k,hl,h=>by
  rw [jf]at hl
  have hib:i<b.length:=by omega
  have hi:de b (i:Int)=some b[i]:=by rw [iA i rfl,ph hib]
  have key: ∀k0:Int,iH b (dG b l) i out ok k0=some (k,true)→ok=true∧(b[i]=k0∨b[i]=0)∧ ∃t:List Int,k=out++k0::t∧t.length=l.length∧ ∀(j:Nat) (x y z:Int),l[j]? =some x→b[i+1+j]? =some y→t[j]? =some z→OF x y z:=by
   intro k0 h
   unfold iH at h
   cases ha:app out [k0]with
   |none=>rw [ha]at h;cases h
   |some z=>
    rw [ha,bu,hi]at h
    cases ok with
    |false=>
     simp only [gL,eT,bu]at h
     exact absurd (Ot b hb l (i+1) z false k (by omega) h).1 (by simp)
    |true=>
     simp only [fM,bu]at h
     by_cases he:b[i]=k0
     ·rw [aX (by simp [he]),bu,bu]at h
      obtain⟨_,t,p1,p2,p3⟩:=Ot b hb l (i+1) z _ k (by omega) h
      exact⟨rfl,.inl he,t,by rw [p1,qC ha];simp,p2,p3⟩
     ·rw [bk (by simp [he]),bu,bu]at h
      obtain⟨p0,t,p1,p2,p3⟩:=Ot b hb l (i+1) z _ k (by omega) h
      exact⟨rfl,.inr (by simpa using p0),t,by rw [p1,qC ha];simp,p2,p3⟩
  have fin: ∀k0:Int,(x=k0∨x=0)→iH b (dG b l) i out ok k0=some (k,true)→ok=true∧ ∃t:List Int,k=out++t∧t.length=(x::l).length∧ ∀(j:Nat) (x1 y z:Int),(x::l)[j]? =some x1→b[i+j]? =some y→t[j]? =some z→OF x1 y z:=by
   intro k0 hx h
   obtain⟨p0,p1,t,p2,p3,p4⟩:=key k0 h
   refine⟨p0,k0::t,p2,by simp [p3],?_⟩
   intro j x1 y z h1 h2 h3
   cases j with
   |zero=>
    simp only [F0,AO]at h1 h3
    rw [y9,ph hib,AO]at h2
    subst h1;subst h3;subst h2
    exact⟨hx,p1⟩
   |succ j=>
    rw [NW]at h1 h3
    exact p4 j x1 y z h1 (by rw [←h2];congr 1;omega) h3
  unfold dG at h
  by_cases hx:x=0
  ·rw [bk (by simpa using hx),hi,bu]at h
   exact fin _ (.inr hx) h
  ·rw [aX (by simpa using hx)]at h
   exact fin _ (.inl rfl) h
theorem Ix{a b:List Int}(hop:n.Op=1)(h:bH n a b=some (k,true)):k=n.Kinds∧0≤n.Table∧n.Table≤3:=by
 unfold bH at h
 rw [bk (by simpa using hop)]at h
 obtain⟨_,h1,h2,h3⟩:=Ou n _ _ _ _ h
 exact⟨h3,h1,h2⟩
theorem Oo{a b:List Int}(hop:n.Op=2)(h:bH n a b=some (k,true)):k=a++b∧HV n.Cond (a++b)=true:=by
 unfold bH at h
 rw [aX (by rw [hop];decide),bk (by simpa using hop)]at h
 cases h1:app ([]:List Int) a with
 |none=>rw [h1]at h;cases h
 |some l=>
  rw [h1,bu]at h
  cases h2:app l b with
  |none=>rw [h2]at h;cases h
  |some o=>
   have e1:=qC h1
   have e2:=qC h2
   rw [h2,bu,md,bu]at h
   injection h with h
   injection h with h h3
   subst h
   rw [e1,k7]at e2
   rw [e2]at h3 ⊢
   exact⟨rfl,h3⟩
theorem G2{a b:List Int}(hop:n.Op=3)(h:bH n a b=some (k,true)):k=a∧HV n.Cond a=true:=by
 unfold bH at h
 rw [aX (by rw [hop];decide),aX (by rw [hop];decide),bk (by simpa using hop),md,bu]at h
 injection h with h
 injection h with h h3
 exact⟨h.symm,h3⟩
theorem KC{a b:List Int}(hs:jv n)(hop:n.Op=4)(h:bH n a b=some (k,true)):(∀c∈n.Keys,0≤c∧c<(a.length:Int))∧(∀g∈n.Aggs,(BM g a).2=true)∧k=n.Keys.map (E7 a)++(n.Aggs.map fun g=>(BM g a).1)∧n.Keys.length≤3:=by
 unfold bH at h
 rw [aX (by rw [hop];decide),aX (by rw [hop];decide),aX (by rw [hop];decide),bk (by simpa using hop)]at h
 have:=WT n a hs.keys hs.aggs n.Keys ir [] 0 k (by simp) h
 simpa using this
theorem EY{a b:List Int}(hs:jv n)(hop:n.Op=5)(h:bH n a b=some (k,true)):(∀e∈n.Items,(gc e a).2=0)∧k=n.Items.map fun e=>(gc e a).1:=by
 unfold bH at h
 rw [aX (by rw [hop];decide),aX (by rw [hop];decide),aX (by rw [hop];decide),aX (by rw [hop];decide),bk (by simpa using hop)]at h
 have:=WS n a hs.items n.Items ir [] true 0 k (by simp) h
 simpa using this.2
theorem KD{a b:List Int}(hop:n.Op=6)(h:bH n a b=some (k,true)):k=a:=by
 unfold bH at h
 rw [aX (by rw [hop];decide),aX (by rw [hop];decide),aX (by rw [hop];decide),aX (by rw [hop];decide),aX (by rw [hop];decide),bk (by simpa using hop)]at h
 injection h with h
 injection h with h _
 exact h.symm
theorem RI{a b:List Int}(hal:a.length≤5000)(hop:n.Op=7)(h:bH n a b=some (k,true)):a.length=b.length∧k.length=a.length∧ ∀(j:Nat) (x y z:Int),a[j]? =some x→b[j]? =some y→k[j]? =some z→OF x y z:=by
 unfold bH at h
 rw [aX (by rw [hop];decide),aX (by rw [hop];decide),aX (by rw [hop];decide),aX (by rw [hop];decide),aX (by rw [hop];decide),aX (by rw [hop];decide),bk (by simpa using hop)]at h
 by_cases he:a.length=b.length
 ·rw [aX (by simp [he])]at h
  obtain⟨_,t,p1,p2,p3⟩:=Ot b (by omega) a 0 [] true k (by omega) h
  rw [k7]at p1
  subst p1
  refine⟨he,p2,fun j x y z h1 h2 h3=>p3 j x y z h1 (by rw [ve];exact h2) h3⟩
 ·rw [bk (by simp only [rM,pG];omega)]at h
  injection h with h
  injection h with h h2
  cases h2
theorem On{a b:List Int}(hs:jv n)(hop:n.Op=8)(h:bH n a b=some (k,true)):k=a∧ ∀o∈n.Order,0≤o.Col∧o.Col<(a.length:Int):=by
 unfold bH at h
 rw [aX (by rw [hop];decide),aX (by rw [hop];decide),aX (by rw [hop];decide),aX (by rw [hop];decide),aX (by rw [hop];decide),aX (by rw [hop];decide),aX (by rw [hop];decide)]at h
 have:=Oq n a hs.order n.Order ir true 0 k (by simp) h
 exact this.2

theorem AY{f:α→α→Int}(h:Dm f){p:List α}(hp:p.Pairwise fun a b=>f a b<0):p.Nodup:=by
 unfold List.Nodup
 refine hp.imp ?_
 intro a b hab he
 subst he
 have:=h.self a
 omega
theorem F6 [DecidableEq α]{f:α→α→Int}(h:Dm f){p q:List α}(hp:p.Pairwise fun a b=>f a b<0)(hq:q.Pairwise fun a b=>f a b<0)(hm: ∀z,z∈p↔z∈q):p=q:=by
 have hpq:p.Perm q:=(List.perm_ext_iff_of_nodup (AY h hp) (AY h hq)).2 hm
 exact zz h (hp.imp fun h=>by omega) (hq.imp fun h=>by omega) hpq
theorem ED{α κ:Type} [DecidableEq κ](key:α→κ)(kf:List α→κ): ∀(R:List (List α)),(∀y∈R,∀z∈y,key z=kf y)→R.Pairwise (fun a b=>kf a≠kf b)→ ∀y∈R,R.flatten.filter (fun z=>decide (key z=kf y))=y
 |[],_,_,y,hy=>by cases hy
 |x::t,h1,h2,y,hy=>by
  rw [BY]at h2
  rw [List.flatten_cons,List.filter_append]
  have ht: ∀w∈t,∀z∈w,key z=kf w:=fun w hw=>h1 w (lc _ hw)
  rcases gk.1 hy with q|q
  ·subst q
   have e1:y.filter (fun z=>decide (key z=kf y))=y:=by
    rw [List.filter_eq_self]
    intro z hz
    rw [lX]
    exact h1 y (lb ..) z hz
   have e2:t.flatten.filter (fun z=>decide (key z=kf y))=[]:=by
    rw [List.filter_eq_nil_iff]
    intro z hz
    obtain⟨w,hw,hz⟩:=List.mem_flatten.1 hz
    rw [lX,ht w hw z hz]
    exact fun e=>h2.1 w hw e.symm
   rw [e1,e2,tu]
  ·have e1:x.filter (fun z=>decide (key z=kf y))=[]:=by
    rw [List.filter_eq_nil_iff]
    intro z hz
    rw [lX,h1 x (lb ..) z hz]
    exact h2.1 y q
   rw [e1,k7]
   exact ED key kf t ht h2.2 y q
def uK(c:List Int)(l:List cU):List iB:=(uS (Ad (l.map (gS c)))).map fun k=>⟨k,Ad (l.filter fun r=>decide (gS c r=k))⟩
theorem Ka(c:List Int){l:List cU}(hl:l.length≤8000):(vt (Gt c) l.length (u0 (yc c) l)).map (G9 c)=uK c l:=by
 have hC:=KW c
 have hL:=Ac hC l (by omega)
 have hP:=nV (yc c) l
 generalize hLe:u0 (yc c) l=L at hL hP
 have hlen:L.length=l.length:=hP.length_eq
 have hflat:=GV (Gt c) l.length L (by omega)
 have hkeys:=GU c l.length L hL
 have hmem:=Ez (Gt c) l.length L
 generalize vt (Gt c) l.length L=R at hflat hkeys hmem
 have hkey: ∀y∈R,∀z∈y,gS c z=(G9 c y).Key:=by
  intro y hy z hz
  obtain⟨x,t,e,_,h2⟩:=hmem y hy
  subst e
  show gS c z=gS c x
  rcases gk.1 hz with q|q
  ·rw [q]
  ·have:=(h2 z q).2
   unfold Gt at this
   exact(Jv this).symm
 have hpw:R.Pairwise fun a b=>(G9 c a).Key≠(G9 c b).Key:=by
  rw [List.pairwise_map]at hkeys
  refine hkeys.imp ?_
  intro a b hab he
  rw [he,jt.self]at hab
  omega
 have hfil:=ED (gS c) (fun y=>(G9 c y).Key) R hkey hpw
 rw [hflat]at hfil
 have hrows: ∀g∈R.map (G9 c),g=⟨g.Key,Ad (l.filter fun r=>decide (gS c r=g.Key))⟩:=by
  intro g hg
  obtain⟨y,hy,e⟩:=vl.1 hg
  subst e
  have hf:=hfil y hy
  have e:y=Ad (l.filter fun r=>decide (gS c r=(G9 c y).Key)):=by
   refine zz jt ?_ (Ac jt _ (by have:=List.length_filter_le (fun r=>decide (gS c r=(G9 c y).Key)) l;omega)) ?_
   ·have hs:s5 (yc c) y:=by
     have:s5 (yc c) (L.filter fun z=>decide (gS c z=(G9 c y).Key)):=List.Pairwise.filter _ hL
     rw [hf]at this
     exact this
    refine List.Pairwise.imp_of_mem ?_ hs
    intro a b ha hb hab
    unfold yc at hab
    rw [hkey y hy a ha,hkey y hy b hb,jt.self]at hab
    exact hab
   ·have hp:=(hP.filter fun z=>decide (gS c z=(G9 c y).Key))
    rw [hf]at hp
    exact hp.trans (nV fe _).symm
  have hR:G9 c y=⟨(G9 c y).Key,y⟩:=rfl
  rw [hR]
  simp only []
  rw [←e]
 have hk:(R.map (G9 c)).map (fun g=>g.Key)=uS (Ad (l.map (gS c))):=by
  refine F6 jt ?_ (I9 jt (Ac jt _ (by simp;omega))) ?_
  ·rw [List.pairwise_map];exact hkeys
  ·intro z
   rw [yN,(nV fe _).mem_iff,List.map_map,vl,vl]
   constructor
   ·rintro⟨y,hy,e⟩
    obtain⟨x,t,e2,hx,_⟩:=hmem y hy
    exact⟨x,hP.mem_iff.1 hx,by rw [←e,e2];rfl⟩
   ·rintro⟨x,hx,e⟩
    have hx:=hP.mem_iff.2 hx
    rw [←hflat]at hx
    obtain⟨y,hy,hxy⟩:=List.mem_flatten.1 hx
    exact⟨y,hy,by rw [←e];exact(hkey y hy x hxy).symm⟩
 unfold uK
 rw [←hk,List.map_map]
 conv=>lhs;rw [←List.map_id (R.map (G9 c))]
 exact Ju fun g hg=>hrows g hg
theorem Ga{l:List cU}(h:Hs l){c:List Int}(hr:oL l=true)(hc:Be l c=true):tI l c=some (uK c l,0):=by
 have ha:wO l c=0:=by unfold wO;rw [hr,hc];rfl
 rw [Gb h,bk ha,Ka c h.len]

def RK:List Int→cU→Prop
 |[],[]=>True
 |k::ks,v::vs=>Pl v∧rf v k∧RK ks vs
 |[],_::_=>False
 |_::_,[]=>False
theorem RK.len: ∀{ks:List Int} {r:cU},RK ks r→r.length=ks.length
 |[],[],_=>rfl
 |k::ks,v::vs,h=>by rw [jf,jf,h.2.2.len]
 |[],_::_,h=>h.elim
 |_::_,[],h=>h.elim
theorem RK.pl: ∀{ks:List Int} {r:cU},RK ks r→ ∀v∈r,Pl v
 |[],[],_,v,hv=>by cases hv
 |k::ks,w::vs,h,v,hv=>by
  rcases gk.1 hv with q|q
  ·rw [q];exact h.1
  ·exact h.2.2.pl v q
 |[],_::_,h,_,_=>h.elim
 |_::_,[],h,_,_=>h.elim
theorem RK.kindR: ∀{ks:List Int} {r:cU},RK ks r→kindR ks r
 |[],[],_=>fun j k h=>by simp at h
 |k::ks,v::vs,h=>fun j x hx=>by
  cases j with
  |zero=>
   simp only [F0,AO]at hx
   subst hx
   exact⟨v,rfl,h.1,h.2.1⟩
  |succ j=>
   rw [NW]at hx
   exact h.2.2.kindR j x hx
 |[],_::_,h=>h.elim
 |_::_,[],h=>h.elim
theorem RK.rg{ks:List Int}(h:RK ks r):T8 r:=fun v hv=>(h.pl v hv).r64
theorem RK.right{ks:List Int}(h:RK ks r)(hk:ks.length≤16):hU r=true:=by
 unfold hU
 rw [mz,lX,ki]
 exact⟨by rw [h.len];exact hk,fun v hv=>(h.pl v hv).right⟩
theorem RK.app: ∀{a b:List Int} {x y:cU},RK a x→RK b y→RK (a++b) (x++y)
 |[],_,[],_,_,h=>h
 |k::ks,b,v::vs,y,h,h2=>⟨h.1,h.2.1,h.2.2.app h2⟩
 |[],_,_::_,_,h,_=>h.elim
 |_::_,_,[],_,h,_=>h.elim
theorem LD: ∀(ks:List Int),RK ks (List.replicate ks.length zV)
 |[]=>trivial
 |k::ks=>⟨.z,.inr rfl,LD ks⟩
theorem RK.map(f:α→ac)(g:α→Int): ∀(l:List α),(∀e∈l,Pl (f e)∧rf (f e) (g e))→RK (l.map g) (l.map f)
 |[],_=>trivial
 |e::t,h=>⟨(h e (lb ..)).1,(h e (lb ..)).2,RK.map f g t fun x hx=>h x (lc _ hx)⟩
theorem RK.at: ∀{ks:List Int} {r:cU},RK ks r→ ∀(j:Nat),j<ks.length→Pl ((r[j]?).getD zV)∧rf ((r[j]?).getD zV) ((ks[j]?).getD 0)
 |[],[],_,j,h=>by simp at h
 |k::ks,v::vs,h,j,hj=>by
  cases j with
  |zero=>exact⟨h.1,h.2.1⟩
  |succ j=>simpa using h.2.2.at j (by simpa using hj)
 |[],_::_,h,_,_=>h.elim
 |_::_,[],h,_,_=>h.elim
theorem RK.as: ∀{a k:List Int} {r:cU},RK a r→k.length=a.length→(∀(j:Nat) (x z:Int),a[j]? =some x→k[j]? =some z→x=z∨x=0)→RK k r
 |[],[],[],_,_,_=>trivial
 |x::a,z::k,v::vs,h,hl,hk=>by
  refine⟨h.1,?_,h.2.2.as (by simpa using hl) fun j x z h1 h2=>hk (j+1) x z (by simpa using h1) (by simpa using h2)⟩
  have:=hk 0 x z rfl rfl
  have h2:=h.2.1
  unfold rf at h2 ⊢
  omega
 |[],_::_,_,_,hl,_=>by simp at hl
 |_::_,[],_,_,hl,_=>by simp at hl
 |[],[],_::_,h,_,_=>h.elim
 |_::_,_::_,[],h,_,_=>h.elim
def sK(ks:List Int)(l:List cU):Prop:= ∀r∈l,RK ks r
theorem sK.perm{ks:List Int}{a b:List cU}(h:sK ks a)(hp:a.Perm b):sK ks b:=fun r hr=>h r (hp.mem_iff.2 hr)
theorem sK.allr{ks:List Int}{l:List cU}(h:sK ks l)(hk:ks.length≤16):oL l=true:=by
 unfold oL
 rw [ki]
 exact fun r hr=>(h r hr).right hk
theorem sK.small{ks:List Int}{l:List cU}(h:sK ks l)(hk:ks.length≤16)(hl:l.length≤8000):Hs l:=⟨hl,fun r hr=>by rw [(h r hr).len];omega⟩
theorem sK.rg{ks:List Int}{l:List cU}(h:sK ks l):Dw l:=fun r hr=>(h r hr).rg
structure QO(e:bS):Prop where
 len:e.Nodes.length≤200
 rg:Jm e.Nodes
def Xe(e:bS)(r:cU):ac:=(oU r e.Nodes).1
def zl(e:bS)(r:cU):Bool:=(oU r e.Nodes).2==140
theorem Wc(he:QO e){ks:List Int}(hk:(gc e ks).2=0)(hr:RK ks r):((oU r e.Nodes).2=0∧zl e r=false∧Pl (Xe e r)∧rf (Xe e r) (gc e ks).1)∨(oU r e.Nodes=(zV,140)∧zl e r=true∧Xe e r=zV∧e.Nodes.any Zt=true):=by
 rcases Ql e.Nodes he.len he.rg ks hk r hr.kindR hr.rg hr.len with h|h
 ·exact .inl ⟨h.1,by unfold zl;rw [h.1];rfl,h.2.1,h.2.2⟩
 ·have:oU r e.Nodes=(zV,140):=by
   rcases yV (r:=r) he.rg hr.rg with q|q|q
   ·rw [q.1]at h;exact absurd h.1 (by decide)
   ·exact absurd h.1 q.2.1
   ·exact q
  exact .inr ⟨this,by unfold zl;rw [this];rfl,by unfold Xe;rw [this],h.2⟩
def WH(v:ac):Bool:=v.Kind==1&&v.N==1
theorem zt{v:ac}(h:Pl v):wg v=some (WH v):=by
 have e:pn true=some (bV true):=rfl
 unfold wg
 rw [e,bu]
 congr 1
 cases h with
 |z=>rfl
 |b b=>cases b<;>rfl
 |i n _=>rfl
 |s s _=>rfl
def vH(e:bS)(r:cU):Bool:=WH (Xe e r)
theorem yw{ks:List Int}(h:HV e ks=true):(gc e ks).2=0:=by
 unfold HV at h
 rw [mz,tt]at h
 exact h.1
theorem KT(he:QO e){ks:List Int}(hk:(gc e ks).2=0)(hr:RK ks r):qA e r=some (vH e r,if zl e r then 140 else 0):=by
 unfold qA
 rw [wI e r (by have:=he.len;omega) he.rg hr.rg,bu]
 unfold vH
 rcases Wc he hk hr with q|q
 ·rw [show(oU r e.Nodes).1=Xe e r from rfl,zt q.2.2.1,bu,q.1,q.2.1];rfl
 ·rw [q.1,q.2.1,q.2.2.1,zt .z];rfl
theorem Cn{n:ay}(he:QO n.Cond){ks:List Int}(hk:(gc n.Cond ks).2=0): ∀(l out:List cU),sK ks l→out.length+l.length≤1000000→gr n l out=some (if l.any (zl n.Cond)then([],140)else(out++l.filter (vH n.Cond),0))
 |[],out,_,_=>by unfold gr;simp
 |r::t,out,h,hl=>by
  rw [jf]at hl
  unfold gr
  have hr:=h r (lb ..)
  have ht:sK ks t:=fun x hx=>h x (lc _ hx)
  rw [KT he hk hr,bu,wW,List.filter_cons]
  by_cases hf:zl n.Cond r=true
  ·rw [hf];rfl
  ·rw [sL.2 hf]
   simp only [gL,eT,zr,sy]
   by_cases hh:vH n.Cond r=true
   ·rw [bk hh,bk hh,cJ (by simp;omega),bu,Cn he hk t _ ht (by simp only [jx,zX];omega),jO,GG]
   ·rw [aX hh,aX hh,Cn he hk t _ ht (by omega)]
def Ki(items:List bS)(r:cU):cU:=items.map fun e=>Xe e r
def IG(items:List bS)(r:cU):Bool:=items.any fun e=>zl e r
theorem Oa(nx:List cU→Option (List cU×Int)){ks:List Int}{r:cU}(hr:RK ks r)(out:List cU)(ho:out.length≤1000000): ∀(items:List bS) (y:cU),(∀e∈items,QO e∧(gc e ks).2=0)→y.length+items.length≤1000000→gX nx r out items y=if IG items r then some ([],140)else nx (out++[y++Ki items r])
 |[],y,_,_=>by unfold gX;rw [cJ (by simp;omega)];simp [IG,Ki]
 |e::t,y,h,hl=>by
  rw [jf]at hl
  unfold gX
  obtain⟨he,hk⟩:=h e (lb ..)
  have ht:=fun x hx=>h x (lc e hx)
  rw [wI e r (by have:=he.len;omega) he.rg hr.rg,bu]
  have e1:IG (e::t) r=(zl e r||IG t r):=rfl
  rw [e1]
  rcases Wc he hk hr with q|q
  ·rw [aX (by rw [q.1];decide),cJ (by simp;omega),bu,Oa nx hr out ho t _ ht (by simp only [jx,zX];omega),q.2.1]
   simp [Ki,Xe]
  ·rw [q.1,q.2.1];rfl
theorem Oc{n:ay}{ks:List Int}(hi: ∀e∈n.Items,QO e∧(gc e ks).2=0)(hil:n.Items.length≤100000): ∀(l out:List cU),sK ks l→out.length+l.length≤1000000→fX n l out=some (if l.any (IG n.Items)then([],140)else(out++l.map (Ki n.Items),0))
 |[],out,_,_=>by unfold fX;simp
 |r::t,out,h,hl=>by
  rw [jf]at hl
  unfold fX
  have hr:=h r (lb ..)
  have ht:sK ks t:=fun x hx=>h x (lc _ hx)
  rw [Oa _ hr out (by omega) n.Items [] hi (by simp;omega),wW]
  by_cases hf:IG n.Items r=true
  ·rw [hf];rfl
  ·rw [sL.2 hf]
   simp only [gL,eT,sy,k7]
   rw [Oc hi hil t _ ht (by simp only [jx,zX];omega)]
   simp

variable{rows:List (List cU)}
theorem ND{g:gv}(hg:QO g.Arg){ks:List Int}(h:(BM g ks).2=true){rows:List cU}(hr:sK ks rows)(hl:rows.length≤8000):((wR g rows).2=0∧Pl (wR g rows).1∧rf (wR g rows).1 (BM g ks).1)∨(wR g rows=(zV,140)∧Q8 g=true):=by
 obtain⟨s1,s2⟩:=D3 g ks
 rw [←s1]at h
 rw [←s2 h]
 unfold Pu at h ⊢
 unfold wR
 have hi: ∀n:Nat,n≤8000→Pl (iV (n:Int))∧rf (iV (n:Int)) 2:=fun n hn=>⟨.i _ (by unfold r64;omega),.inl rfl⟩
 by_cases h1:g.Tag=1
 ·rw [bk h1,bk h1]
  exact .inl ⟨rfl,hi _ hl⟩
 ·rw [aX h1]at h ⊢
  rw [aX h1]
  have hk:(gc g.Arg ks).2=0:=by
   by_cases h2:g.Tag=2
   ·rw [bk h2]at h;simpa using h
   ·rw [aX h2]at h
    by_cases h3:g.Tag=3
    ·rw [bk h3]at h;simp only [mz,tt]at h;exact h.1
    ·rw [aX h3]at h
     by_cases h4:g.Tag=4∨g.Tag=5
     ·rw [bk h4]at h;simpa using h
     ·rw [aX h4]at h;cases h
  have hb:DC g.Arg.Nodes rows=false:=by
   unfold DC
   rw [Js]
   intro r hm
   rcases Wc hg hk (hr r hm)with q|q
   ·rw [q.1];decide
   ·rw [q.1];decide
  have hvs: ∀v∈Bx g.Arg.Nodes rows,Pl v∧v.Kind=(gc g.Arg ks).1:=by
   intro v hv
   refine⟨I8 hg.rg hr.rg v hv,?_⟩
   unfold Bx at hv
   obtain⟨r,hm,he⟩:=List.mem_filterMap.1 hv
   split at he
   ·rename_i hc
    injection he with he
    rcases Wc hg hk (hr r hm)with q|q
    ·rw [←he]
     exact q.2.2.2.resolve_right hc.2
    ·rw [q.1]at hc;exact absurd hc.1 (by decide)
   ·cases he
  have hlen:=O9 g.Arg.Nodes rows
  have ho:sF g.Tag (Bx g.Arg.Nodes rows)=false:=by
   unfold sF
   by_cases h3:g.Tag=3
   ·rw [aX (by omega),bk h3]at h
    simp only [mz,tt,qO]at h
    rw [h3]
    simp only [GB,vg]
    rw [Js]
    intro v hv
    have hkv:=(hvs v hv).2
    have hne:v.Kind≠0:=by
     unfold Bx at hv
     obtain⟨r,hm,he⟩:=List.mem_filterMap.1 hv
     split at he
     ·rename_i hc;injection he with he;rw [←he];exact hc.2
     ·cases he
    simp only [rM,pG,Classical.not_not]
    omega
   ·have:(g.Tag==3)=false:=by simpa using h3
    rw [this];rfl
  rw [hb,ho]
  simp only [Bool.or_self,gL,eT]
  by_cases hf:Dy g.Arg.Nodes rows=true
  ·rw [bk hf]
   refine .inr ⟨rfl,?_⟩
   unfold Q8
   split
   ·rfl
   ·unfold Dy at hf
    obtain⟨r,hm,hq⟩:=uV.1 hf
    rcases Wc hg hk (hr r hm)with q|q
    ·rw [q.1]at hq;cases hq
    ·unfold JJ
     rw [q.2.2.2,zq]
     cases hn:g.Arg.Nodes with
     |nil=>have:=q.2.2.2;rw [hn]at this;cases this
     |cons x t=>rfl
  ·rw [aX hf]
   unfold Sf
   rw [aX (by decide)]
   by_cases h2:g.Tag=2
   ·rw [bk h2,bk h2]
    exact .inl ⟨rfl,hi _ (by omega)⟩
   ·rw [aX h2,aX h2]
    by_cases h3:g.Tag=3
    ·rw [bk h3,bk h3]
     unfold Rh
     split
     ·exact .inl ⟨rfl,.z,.inr rfl⟩
     ·by_cases hs:r64 (qV (Bx g.Arg.Nodes rows))
      ·rw [bk hs];exact .inl ⟨rfl,.i _ hs,.inl rfl⟩
      ·rw [aX hs];exact .inr ⟨rfl,by unfold Q8;rw [bk h3]⟩
    ·rw [aX h3,aX h3]
     have h45:g.Tag=4∨g.Tag=5:=by
      rw [aX h2,aX h3]at h
      by_cases h4:g.Tag=4∨g.Tag=5
      ·exact h4
      ·rw [aX h4]at h;cases h
     rw [bk h45]
     refine .inl ⟨rfl,?_⟩
     by_cases hz:Bx g.Arg.Nodes rows=[]
     ·rw [hz];exact⟨.z,.inr rfl⟩
     ·have:=hvs _ (Te g.Tag _ hz)
      exact⟨this.1,.inl this.2⟩
def T6(aggs:List gv)(g:iB):cU:=g.Key++aggs.map fun a=>(wR a g.Rows).1
def IH(aggs:List gv)(g:iB):Bool:=aggs.any fun a=>(wR a g.Rows).2==140
def GOK(aggs:List gv)(g:iB):Prop:= ∀a∈aggs,kN a g.Rows=some (wR a g.Rows)∧nk a g.Rows=some (wR a g.Rows)∧((wR a g.Rows).2=0∨wR a g.Rows=(zV,140))
theorem R2(nx:List cU→Option (List cU×Int))(g:iB)(out:List cU)(ho:out.length≤1000000): ∀(aggs:List gv) (x:cU),GOK aggs g→x.length+aggs.length≤1000000→iW nx g out aggs x=if IH aggs g then some ([],140)else nx (out++[x++aggs.map fun a=>(wR a g.Rows).1])
 |[],x,_,_=>by unfold iW;rw [cJ (by simp;omega)];simp [IH]
 |a::t,x,h,hl=>by
  rw [jf]at hl
  unfold iW
  obtain⟨h1,_,h3⟩:=h a (lb ..)
  have ht:GOK t g:=fun x hx=>h x (lc a hx)
  have e1:IH (a::t) g=((wR a g.Rows).2==140||IH t g):=rfl
  rw [h1,bu,e1]
  rcases h3 with q|q
  ·rw [aX (by rw [q];decide),cJ (by simp;omega),bu,R2 nx g out ho t _ ht (by simp only [jx,zX];omega),q]
   simp
  ·rw [q];rfl
theorem QP(r:cU)(h:r.length≤1000):cN r=some r:=CK r (by omega)
theorem R4{n:ay}(ha:n.Aggs.length≤100000): ∀(gs:List iB) (out:List cU),(∀g∈gs,GOK n.Aggs g∧g.Key.length≤1000)→out.length+gs.length≤1000000→fT n gs out=some (if gs.any (IH n.Aggs)then([],140)else(out++gs.map (T6 n.Aggs),0))
 |[],out,_,_=>by unfold fT;simp
 |g::t,out,h,hl=>by
  rw [jf]at hl
  unfold fT
  obtain⟨h1,h2⟩:=h g (lb ..)
  have ht:=fun x hx=>h x (lc g hx)
  rw [QP _ h2,bu,R2 _ g out (by omega) n.Aggs g.Key h1 (by omega),wW]
  by_cases hf:IH n.Aggs g=true
  ·rw [hf];rfl
  ·rw [sL.2 hf]
   simp only [gL,eT,sy]
   rw [R4 ha t _ ht (by simp only [jx,zX];omega)]
   simp [T6]
theorem JP{r:cU}: ∀{c:List Int} (out:cU),(∀e∈c,0≤e∧e<(r.length:Int))→out.length+c.length≤1000→mD r c out=some (out++c.map (atR r))
 |[],out,_,_=>by unfold mD;simp
 |e::t,out,h,hl=>by
  rw [jf]at hl
  unfold mD
  have he:=h e (lb ..)
  rw [IE he.1 he.2,bu,cJ (by simp;omega),bu,JP _ (fun x hx=>h x (lc _ hx)) (by simp only [jx,zX];omega)]
  simp
theorem Rf{c:List Int}(h:oa r c=true):gS c r=c.map (atR r):=by
 unfold oa at h
 rw [mz,lX,ki]at h
 have:nW r c=some ([]++c.map (atR r)):=JP [] (fun e he=>by have:=h.2 e he;simpa using this) (by simp;omega)
 unfold gS
 rw [this];rfl
theorem RK.key{ks:List Int}(h:RK ks r): ∀c:List Int,(∀e∈c,0≤e∧e<(ks.length:Int))→RK (c.map (E7 ks)) (c.map (atR r)):=fun c hc=>
 RK.map (atR r) (E7 ks) c fun e he=>by
  obtain⟨h1,h2⟩:=hc e he
  exact h.at e.toNat (by omega)
def gP(c:List Int)(l:List cU):List iB:=if c=[]∧uK c l=[]then [⟨[],[]⟩]else uK c l
structure LN(n:ay)(ks:List Int):Prop where
 cols: ∀c∈n.Keys,0≤c∧c<(ks.length:Int)
 ags: ∀g∈n.Aggs,QO g.Arg∧(BM g ks).2=true
 len:ks.length≤16
 keys:n.Keys.length≤16
 naggs:n.Aggs.length≤5000
theorem Oj{ks:List Int}(h:LN n ks){l:List cU}(hr:sK ks l):Be l n.Keys=true:=by
 unfold Be
 simp only [mz,lX,ki]
 refine⟨⟨h.keys,fun e he=>(h.cols e he).1⟩,fun r hm=>?_⟩
 unfold oa
 simp only [mz,lX,ki]
 refine⟨h.keys,fun e he=>?_⟩
 have:=(hr r hm).len
 have:=h.cols e he
 omega
theorem Yd{g:gv}{ks:List Int}(h:(BM g ks).2=true):g.Tag=1∨g.Tag=2∨g.Tag=3∨g.Tag=4∨g.Tag=5:=by
 rw [←(D3 g ks).1]at h
 unfold Pu at h
 by_cases h1:g.Tag=1
 ·exact .inl h1
 ·by_cases h2:g.Tag=2
  ·exact .inr (.inl h2)
  ·by_cases h3:g.Tag=3
   ·exact .inr (.inr (.inl h3))
   ·by_cases h4:g.Tag=4∨g.Tag=5
    ·exact .inr (.inr (.inr h4))
    ·rw [aX h1,aX h2,aX h3,aX h4]at h;cases h
theorem Zx{ks:List Int}(h:LN n ks){key:cU}{rows:List cU}(hr:sK ks rows)(hl:rows.length≤8000):GOK n.Aggs ⟨key,rows⟩:=by
 intro a ha
 obtain⟨h1,h2⟩:=h.ags a ha
 refine⟨sJ a (by have:=h1.len;omega) h1.rg (Yd h2) hr.rg (by show rows.length≤90000;omega),tJ a h1.rg hr.rg (by show rows.length≤90000;omega),?_⟩
 rcases ND h1 h2 hr hl with q|q
 ·exact .inl q.1
 ·exact .inr q.1
theorem Yf{ks:List Int}(h:LN n ks){key:cU}{rows:List cU}(hr:sK ks rows)(hl:rows.length≤8000)(hk:RK (n.Keys.map (E7 ks)) key):RK (n.Keys.map (E7 ks)++n.Aggs.map fun g=>(BM g ks).1) (T6 n.Aggs ⟨key,rows⟩):=by
 refine hk.app (RK.map _ _ _ fun a ha=>?_)
 obtain⟨h1,h2⟩:=h.ags a ha
 rcases ND h1 h2 hr hl with q|q
 ·exact q.2
 ·show Pl (wR a rows).1∧rf (wR a rows).1 _
  rw [q.1];exact⟨.z,.inr rfl⟩
theorem Fa{ks:List Int}(h:LN n ks){l:List cU}(hr:sK ks l)(hl:l.length≤8000): ∀g∈gP n.Keys l,∃key rows,g=⟨key,rows⟩∧sK ks rows∧rows.length≤8000∧RK (n.Keys.map (E7 ks)) key:=by
 intro g hg
 unfold gP at hg
 split at hg
 ·rename_i hc
  have hc1:=hc.1
  simp only [Do]at hg
  subst hg
  refine⟨[],[],rfl,(fun r hr=>by cases hr),by simp,?_⟩
  rw [hc1];trivial
 ·unfold uK at hg
  obtain⟨k,hk,e⟩:=vl.1 hg
  subst e
  refine⟨_,_,rfl,?_,?_,?_⟩
  ·intro r hm
   rw [(nV fe _).mem_iff]at hm
   exact hr r (Gx.1 hm).1
  ·rw [yz]
   have:=List.length_filter_le (fun r=>decide (gS n.Keys r=k)) l
   omega
  ·rw [yN,(nV fe _).mem_iff]at hk
   obtain⟨r,hm,e⟩:=vl.1 hk
   have hoc:=yM (Oj h hr) hm
   rw [←e,Rf hoc]
   exact(hr r hm).key n.Keys h.cols
theorem R8(c:List Int)(l:List cU)(hl:l.length≤8000):(gP c l).length≤8000:=by
 unfold gP
 split
 ·simp
 ·unfold uK
  rw [CQ]
  have:=QC (Ad (l.map (gS c)))
  rw [yz,CQ]at this
  omega
def yb(n:ay)(l:List cU):List cU×Int:=if(gP n.Keys l).any (IH n.Aggs)then([],140)else((gP n.Keys l).map (T6 n.Aggs),0)
theorem R5{ks:List Int}(h:LN n ks){l:List cU}(hr:sK ks l)(hl:l.length≤8000)(ob:dh)(hA:de ob.rows n.A=some l):js ob n=some (yb n l):=by
 unfold js
 rw [hA,bu,Ga (hr.small h.len hl) (hr.allr h.len) (Oj h hr),bu]
 rw [aX (by show¬((0:Int) !=0)=true;decide)]
 have hgs: ∀g∈gP n.Keys l,GOK n.Aggs g∧g.Key.length≤1000:=by
  intro g hg
  obtain⟨key,rows,e,p1,p2,p3⟩:=Fa h hr hl g hg
  subst e
  refine⟨Zx h p1 p2,?_⟩
  have:=p3.len
  have hk:=h.keys
  rw [CQ]at this
  show key.length≤1000
  omega
 have main:fT n (gP n.Keys l) []=some (yb n l):=by
  rw [R4 (by have:=h.naggs;omega) _ [] hgs (by have:=R8 n.Keys l hl;simp only [pZ];omega)]
  rfl
 rw [←main]
 unfold lV gP
 by_cases hc:n.Keys=[]∧uK n.Keys l=[]
 ·rw [bk (by rw [hc.2,hc.1];rfl),bk hc]
 ·rw [aX,aX hc]
  intro hh
  simp only [mz,tt]at hh
  exact hc ⟨uu (by omega),uu (by omega)⟩
theorem R6{ks:List Int}(h:LN n ks){l:List cU}(hr:sK ks l)(hl:l.length≤8000):sK (n.Keys.map (E7 ks)++n.Aggs.map fun g=>(BM g ks).1) (yb n l).1∧(yb n l).1.length≤8000∧((yb n l).2=0∨yb n l=([],140)∧n.Aggs.any Q8=true):=by
 unfold yb
 by_cases hf:(gP n.Keys l).any (IH n.Aggs)=true
 ·rw [bk hf]
  refine⟨(fun r hr=>by cases hr),by simp,.inr ⟨rfl,?_⟩⟩
  obtain⟨g,hg,hfg⟩:=uV.1 hf
  obtain⟨key,rows,e,p1,p2,p3⟩:=Fa h hr hl g hg
  subst e
  unfold IH at hfg
  obtain⟨a,ha,hq⟩:=uV.1 hfg
  obtain⟨h1,h2⟩:=h.ags a ha
  rcases ND h1 h2 p1 p2 with q|q
  ·rw [q.1]at hq;cases hq
  ·exact uV.2 ⟨a,ha,q.2⟩
 ·rw [aX hf]
  refine⟨?_,by rw [CQ];exact R8 _ _ hl,.inl rfl⟩
  intro r hm
  obtain⟨g,hg,e⟩:=vl.1 hm
  obtain⟨key,rows,e2,p1,p2,p3⟩:=Fa h hr hl g hg
  subst e2
  rw [←e]
  exact Yf h p1 p2 p3

def si(e:bS)(b:List cU)(x:cU):List cU:=(b.map fun y=>x++y).filter (vH e)
def zk(e:bS)(b:List cU)(x:cU):Bool:=b.any fun y=>vH e (x++y)
def Gq(e:bS)(b:List cU)(x:cU):Bool:=b.any fun y=>zl e (x++y)
def KR(e:bS)(b:List cU)(w:Nat)(left:Bool)(x:cU):List cU:=if left&& !zk e b x then [x++List.replicate w zV]else []
theorem G6(e:bS)(b:List cU)(x:cU):(si e b x).length≤b.length:=by
 unfold si
 have:=List.length_filter_le (vH e) (b.map fun y=>x++y)
 rw [CQ]at this
 exact this
theorem Da{α β:Type}(f:α→List β)(m:Nat)(h: ∀x,(f x).length≤m): ∀l:List α,(l.flatMap f).length≤l.length*m
 |[]=>by simp
 |x::t=>by
  rw [List.flatMap_cons,jx,jf,uU,Nat.one_mul]
  have:=Da f m h t
  have:=h x
  omega
theorem Tt(n:Int)(h0:0≤n)(h:n≤68719476736):gT n=some []:=by
 unfold gT iG
 rw [aX (by simp;omega)]
 have e:IntKind.i64.wrap (n-IntKind.i64.wrap ((0:Int)-0))=n:=by
  rw [cL (n:=(0:Int)-0) (by omega) (by omega),cL (by omega) (by omega)];omega
 rw [e]
 by_cases hp:0<n
 ·rw [bk (by simpa using hp)]
  unfold WZ nR
  rw [bk hp]
  simp only [bu]
  rw [bk ⟨h0,h⟩]
  simp only [bu]
  rw [show dP (List.replicate n.toNat (⟨0,0,0,[]⟩:ac)) 0 0=some []from by unfold dP;rw [bk (by simp;omega)];simp]
  rfl
 ·rw [aX (by simpa using hp)];rfl
theorem FQ(a b:cU)(ha:a.length≤8000)(hb:b.length≤8000):dM [a,b]=some (a++b):=by
 unfold dM
 simp only [fm]
 rw [cL (n:=(0:Int)+(a.length:Int)) (by omega) (by omega),aX (by simp),cL (by omega) (by omega),aX (by simp;omega),Tt _ (by omega) (by omega)]
 simp only [bu,fk]
 rw [cJ (by simp;omega)]
 simp only [bu,k7]
 rw [cJ (by omega)]
 rfl
abbrev JS:=Option Nat×(List cU×List Bool×Int×List cU)
def vG(n:ay):Int×cU→JS→Option (Bool×JS):=xb (fun x s=>ic n x s.1 s.2.1 s.2.2.1 s.2.2.2)
theorem T5(p q:List α)(w v:α):(p++w::q).set p.length v=p++v::q:=by
 induction p with
 |nil=>rfl
 |cons x t ih=>simp [ih]
theorem OB(p q:List α)(w:α):de (p++w::q) (p.length:Int)=some w:=by
 rw [R0];simp
theorem EQ{n:ay}(he:QO n.Cond){ka kb:List Int}(hk:(gc n.Cond (ka++kb)).2=0)(hka:ka.length≤16)(hkb:kb.length≤16)(nx:Nat→JS→Option JS){x:cU}(hx:RK ka x): ∀(bs xs:List cU) (pre:List Bool) (m:Bool) (post:List Bool),sK kb bs→xs.length+bs.length≤1000000→
  if Gq n.Cond bs x then∃q:List cU×List Bool,gg (vG n) nx pre.length x bs (none,(xs,pre++m::post,0,[]))=some (some 0,(q.1,q.2,140,[]))
  else gg (vG n) nx pre.length x bs (none,(xs,pre++m::post,0,[]))=nx (pre.length+1) (none,(xs++si n.Cond bs x,pre++(m||zk n.Cond bs x)::post,0,[]))
 |[],xs,pre,m,post,_,_=>by
  have:Gq n.Cond [] x=false:=rfl
  rw [this,aX (by decide)]
  unfold gg
  simp [si,zk]
 |y::t,xs,pre,m,post,hb,hl=>by
  rw [jf]at hl
  have hy:=hb y (lb ..)
  have ht:sK kb t:=fun z hz=>hb z (lc _ hz)
  have hxy:RK (ka++kb) (x++y):=hx.app hy
  have hlx:=hx.len
  have hly:=hy.len
  have e1:Gq n.Cond (y::t) x=(zl n.Cond (x++y)||Gq n.Cond t x):=rfl
  have e2:si n.Cond (y::t) x=(if vH n.Cond (x++y)=true then(x++y)::si n.Cond t x else si n.Cond t x):=by
   unfold si
   rw [vm,List.filter_cons]
  have e3:zk n.Cond (y::t) x=(vH n.Cond (x++y)||zk n.Cond t x):=rfl
  have step:gg (vG n) nx pre.length x (y::t) (none,(xs,pre++m::post,0,[]))=(ic n ((pre.length:Int),x++y) xs (pre++m::post) 0 []).bind fun r=>if(!r.1.isNone)=true then some r else gg (vG n) nx pre.length x t r:=by
   conv=>lhs;unfold gg
   rw [FQ x y (by omega) (by omega),bu]
   unfold vG xb
   simp only []
   cases ic n ((pre.length:Int),x++y) xs (pre++m::post) 0 []with
   |none=>rfl
   |some r=>rfl
  have hbody:ic n ((pre.length:Int),x++y) xs (pre++m::post) 0 []=some (if zl n.Cond (x++y)then(some 0,(xs,pre++m::post,140,[]))else if vH n.Cond (x++y)then(none,(xs++[x++y],pre++true::post,0,[]))else(none,(xs,pre++m::post,0,[]))):=by
   unfold ic
   rw [KT he hk hxy,bu]
   by_cases hf:zl n.Cond (x++y)=true
   ·rw [hf];rfl
   ·rw [sL.2 hf]
    simp only [gL,eT,zr]
    by_cases hh:vH n.Cond (x++y)=true
    ·rw [bk hh,bk hh,OB,bu,AH,T5,bu,cJ (by simp;omega),bu]
    ·rw [aX hh,aX hh]
  rw [e1,step,hbody,bu]
  by_cases hf:zl n.Cond (x++y)=true
  ·rw [hf]
   simp only [fM,Bool.true_or]
   exact⟨(xs,pre++m::post),rfl⟩
  ·rw [sL.2 hf]
   simp only [gL,eT,sy]
   by_cases hh:vH n.Cond (x++y)=true
   ·rw [bk hh]
    simp only [Option.isNone_none,nh,gL,eT]
    have ih:=EQ he hk hka hkb nx hx t (xs++[x++y]) pre true post ht (by simp only [jx,zX];omega)
    rw [e2,bk hh,e3,hh]
    simpa using ih
   ·rw [aX hh]
    simp only [Option.isNone_none,nh,gL,eT]
    have ih:=EQ he hk hka hkb nx hx t xs pre m post ht (by omega)
    rw [e2,aX hh,e3,sL.2 hh,sy]
    exact ih
theorem Kn{n:ay}(he:QO n.Cond){ka kb:List Int}(hk:(gc n.Cond (ka++kb)).2=0)(hka:ka.length≤16)(hkb:kb.length≤16){b:List cU}(hb:sK kb b): ∀(a xs:List cU) (pre:List Bool),sK ka a→xs.length+a.length*b.length+b.length≤1000000→
  if a.any (Gq n.Cond b)then∃q:List cU×List Bool,dZ b (vG n) a pre.length (none,(xs,pre++List.replicate a.length false,0,[]))=some (some 0,(q.1,q.2,140,[]))
  else dZ b (vG n) a pre.length (none,(xs,pre++List.replicate a.length false,0,[]))=some (none,(xs++a.flatMap (si n.Cond b),pre++a.map (zk n.Cond b),0,[]))
 |[],xs,pre,_,_=>by
  rw [List.any_nil,aX (by decide)]
  unfold dZ
  simp
 |x::t,xs,pre,ha,hl=>by
  rw [jf,uU,Nat.one_mul]at hl
  have hx:=ha x (lb ..)
  have ht:sK ka t:=fun z hz=>ha z (lc _ hz)
  have h2:=EQ he hk hka hkb (dZ b (vG n) t) hx b xs pre false (List.replicate t.length false) hb (by omega)
  have er:List.replicate (x::t).length false=false::List.replicate t.length false:=rfl
  rw [er,wW]
  unfold dZ
  by_cases hf:Gq n.Cond b x=true
  ·rw [hf]at h2 ⊢
   simpa using h2
  ·rw [sL.2 hf]at h2 ⊢
   simp only [gL,eT,sy]at h2 ⊢
   have ih:=Kn he hk hka hkb hb t (xs++si n.Cond b x) (pre++[zk n.Cond b x]) ht (by have:=G6 n.Cond b x;simp only [jx];omega)
   rw [h2]
   simp only [jx,zX,jO,GG]at ih ⊢
   rw [List.flatMap_cons,vm]
   exact ih
theorem Oy{ob:dh}{n:ay}{w:Nat}(hw:w≤16)(hB:de ob.width n.B=some (w:Int))(e:bS)(b:List cU)(st:JS)(u:Unit): ∀(t:List cU) (pre:List Bool) (out:List cU),(∀x∈t,x.length≤16)→st.2.2.1=pre++t.map (zk e b)→out.length+t.length≤1000000→hZ ob n (st,u) t pre.length out=some (out++t.flatMap (KR e b w n.Left),0)
 |[],pre,out,_,_,_=>by unfold hZ;simp
 |x::t,pre,out,hx,hs,hl=>by
  rw [jf]at hl
  unfold hZ
  have hxl:=hx x (lb ..)
  have ht:=fun z hz=>hx z (lc x hz)
  rw [vm]at hs
  have hi:de st.2.2.1 (pre.length:Int)=some (zk e b x):=by rw [hs,OB]
  have ih:=Oy hw hB e b st u t (pre++[zk e b x])
  rw [jx,zX]at ih
  have hs2:st.2.2.1=pre++[zk e b x]++t.map (zk e b):=by rw [hs];simp
  rw [List.flatMap_cons]
  have ec:(if n.Left=true then((de st.2.2.1 (pre.length:Int)).bind fun e4=>some (!e4))else some false)=some (n.Left&& !zk e b x):=by
   rw [hi]
   cases n.Left<;>rfl
  show((if n.Left=true then((de st.2.2.1 (pre.length:Int)).bind fun e4=>some (!e4))else some false).bind fun q=>_)=_
  rw [ec,bu]
  unfold KR
  by_cases hc:(n.Left&& !zk e b x)=true
  ·rw [bk hc,bk hc,hB,bu]
   have hz:nR (w:Int) (⟨0,0,0,[]⟩:ac)=some (List.replicate w zV):=by
    unfold nR
    rw [bk (by omega)]
    rfl
   rw [hz,bu,FQ x _ (by omega) (by simp;omega),bu,cJ (by simp;omega),bu,ih _ ht hs2 (by simp only [jx,zX];omega),jO]
   rfl
  ·rw [aX hc,aX hc,ih _ ht hs2 (by omega),k7]
   rfl
def C7(n:ay)(a b:List cU)(w:Nat):List cU×Int:=
 if 40000<a.length*b.length then([],3)else if a.any (Gq n.Cond b)then([],140)else(a.flatMap (si n.Cond b)++a.flatMap (KR n.Cond b w n.Left),0)
structure PD(n:ay)(ka kb:List Int):Prop where
 cond:QO n.Cond
 kind:(gc n.Cond (ka++kb)).2=0
 ka:ka.length≤16
 kb:kb.length≤16
theorem RJ{q:Nat}(hp:p≤8000)(hq:q≤8000):decide ((40000:Int)<(IntKind.i64.wrap ((p:Int)*(q:Int))))=decide (40000<p*q):=by
 have h:p*q≤8000*8000:=xe hp hq
 rw [←xx,ux (by omega) (by omega),CO]
 omega
theorem Us{ka kb:List Int}(h:PD n ka kb){a b:List cU}(ha:sK ka a)(hb:sK kb b)(hal:a.length≤8000)(hbl:b.length≤8000)(ob:dh)(hA:de ob.rows n.A=some a)(hB:de ob.rows n.B=some b)(hW:de ob.width n.B=some (kb.length:Int)):j3 ob n=some (C7 n a b kb.length):=by
 unfold j3 C7
 rw [hA,hB,bu,bu,RJ hal hbl]
 by_cases hm:40000<a.length*b.length
 ·rw [bk (by simpa using hm),bk hm]
 ·rw [aX (by simpa using hm),aX hm]
  have hz:nR (a.length:Int) false=some (List.replicate a.length false):=by
   unfold nR
   rw [bk (by omega)]
   rfl
  have hp:wK a b=some (fun _=>mt a b):=rfl
  rw [hz,bu,hp,bu]
  have hit:(itU (fun(Sg:Type)=>mt (Sg:=Sg) a b)) JS (vG n) (none,(([]:List cU),List.replicate a.length false,(0:Int),[]))=(dZ b (vG n) a 0 (none,(([]:List cU),List.replicate a.length false,(0:Int),[]))).map fun r=>(r,()):=rfl
  have hp1:=Kn h.cond h.kind h.ka h.kb hb a [] [] ha (by simp only [pZ];omega)
  show((itU (fun(Sg:Type)=>mt (Sg:=Sg) a b)) JS (vG n) (none,(([]:List cU),List.replicate a.length false,(0:Int),[]))).bind _=_
  rw [hit]
  by_cases hf:a.any (Gq n.Cond b)=true
  ·rw [bk hf]at hp1 ⊢
   obtain⟨q,hq⟩:=hp1
   have hq2:dZ b (vG n) a 0 (none,(([]:List cU),List.replicate a.length false,(0:Int),[]))=some (some 0,(q.1,q.2,140,[])):=hq
   rw [hq2]
   rfl
  ·rw [aX hf]at hp1 ⊢
   have hq2:dZ b (vG n) a 0 (none,(([]:List cU),List.replicate a.length false,(0:Int),[]))=some (none,(a.flatMap (si n.Cond b),a.map (zk n.Cond b),0,[])):=hp1
   rw [hq2]
   have hlen:=Da (si n.Cond b) b.length (G6 n.Cond b) a
   have:=Oy (ob:=ob) (n:=n) h.kb hW n.Cond b (none,(a.flatMap (si n.Cond b),a.map (zk n.Cond b),0,[])) () a [] (a.flatMap (si n.Cond b)) (fun x hx=>by rw [(ha x hx).len];exact h.ka) rfl (by omega)
   exact this
theorem Uu{ka kb:List Int}{a b:List cU}(ha:sK ka a)(hb:sK kb b):sK (ka++kb) (a.flatMap (si n.Cond b)):=by
 intro r hr
 obtain⟨x,hx,hr⟩:=List.mem_flatMap.1 hr
 unfold si at hr
 obtain⟨y,hy,e⟩:=vl.1 (Gx.1 hr).1
 rw [←e]
 exact(ha x hx).app (hb y hy)
theorem Uv{ka kb:List Int}{a b:List cU}(ha:sK ka a):sK (ka++kb) (a.flatMap (KR n.Cond b kb.length n.Left)):=by
 intro r hr
 obtain⟨x,hx,hr⟩:=List.mem_flatMap.1 hr
 unfold KR at hr
 split at hr
 ·rw [Do.1 hr]
  exact(ha x hx).app (LD kb)
 ·cases hr
theorem Ei(h:e.Nodes.any Zt=true):JJ e=true:=by
 unfold JJ
 rw [h,zq]
 cases hn:e.Nodes with
 |nil=>rw [hn]at h;cases h
 |cons x t=>rfl
theorem Ut{ka kb:List Int}(h:PD n ka kb){a b:List cU}(ha:sK ka a)(hb:sK kb b):sK (ka++kb) (C7 n a b kb.length).1∧((C7 n a b kb.length).2=0∨C7 n a b kb.length=([],3)∨C7 n a b kb.length=([],140)∧JJ n.Cond=true):=by
 unfold C7
 by_cases hm:40000<a.length*b.length
 ·rw [bk hm]
  exact⟨(fun r hr=>by cases hr),.inr (.inl rfl)⟩
 ·rw [aX hm]
  by_cases hf:a.any (Gq n.Cond b)=true
  ·rw [bk hf]
   refine⟨(fun r hr=>by cases hr),.inr (.inr ⟨rfl,?_⟩)⟩
   obtain⟨x,hx,hq⟩:=uV.1 hf
   unfold Gq at hq
   obtain⟨y,hy,hq⟩:=uV.1 hq
   rcases Wc h.cond h.kind ((ha x hx).app (hb y hy))with q|q
   ·rw [q.2.1]at hq;cases hq
   ·exact Ei q.2.2.2
  ·rw [aX hf]
   refine⟨fun r hr=>?_,.inl rfl⟩
   rcases AF.1 hr with q|q
   ·exact Uu ha hb r q
   ·exact Uv ha r q

theorem MK(hS:qE l)(hr:oT l=true)(K:HB l sz ks)(hp:p<l.Nodes.length): ∃d,tU l (p:Int)=some (d,0)∧se d=some (ks p,0):=by
 obtain⟨_,_,ob,j,r3,r4⟩:=A4 hS
 obtain⟨hL,hj⟩:=r4 hr
 rw [hr]at r3
 have hle:=hL.le
 have H:FT l (xm ob.first) (M0 ob.kinds):=fun j hj=>Lc hL.inv hle hj
 obtain⟨N0,hf⟩:=hL.inv.at hp
 have h1:=N0.pos
 have h2:=N0.le
 have hb:((p+1-xm ob.first p:Nat):Int)=(p:Int)+1-(xm ob.first p:Int):=by omega
 have hfi:de ob.first (p:Int)=some ((p+1-xm ob.first p:Nat):Int):=by rw [cC,hf,hb]
 have hpart:tU l (p:Int)=some (Al l (p+1-xm ob.first p) p,0):=by
  unfold tU
  rw [r3]
  simp only [bu,nh,gL,eT]
  rw [aX (by simp;omega),hfi]
  simp only [bu]
  rw [NJ hS hle hp (by omega) ((l.Nodes.take (p+1)).drop (p+1-xm ob.first p)) (p+1-xm ob.first p) ir _ rfl (by simp;omega) (vI (by simp;omega)) (by simp)]
  rfl
 refine⟨_,hpart,?_⟩
 have hpr:=MJ H hle hp h2 h1
 have hps:=Ih hS (p+1-xm ob.first p) p
 obtain⟨sz',ks',K'⟩:=E5 hps hpr
 have hk:=(KH hps K' (EP H hle hp h2)).1
 have hlen:=wy (l:=l) (e:=p+1-xm ob.first p) hp
 rw [K'.kinds,←hk,hlen]
 have hsame:=ZF (l:=l) (d:=l) (e:=0) (m:=l.Nodes.length) K.all H (dY _) (by omega) (by omega) (by omega) (fun j hj n hn=>by
  obtain⟨m,F⟩:=K.all j hj
  have hm:n=m:=by rw [F.node]at hn;injection hn with hn;exact hn.symm
  subst hm
  rw [ve,Qk K F hj]
  exact F.node) p hp
 have e:p+1-xm ob.first p+(p+1-(p+1-xm ob.first p)-1)=p:=by omega
 simp only [e]
 have:=hsame.2
 rw [ve]at this
 rw [this]
structure Hy(n:ay):Prop where
 small:jv n
 cond:QO n.Cond
 items: ∀e∈n.Items,QO e
 args: ∀g∈n.Aggs,QO g.Arg
def zy(base:kH)(n:ay):List cU:=(base.Tables[n.Table.toNat]?).getD []
def wZ(n:ay)(base:kH)(a b:List cU)(w:Nat):List cU×Int:=
 if n.Op=1 then(zy base n,0)
 else if n.Op=2 then C7 n a b w
 else if n.Op=3 then(if a.any (zl n.Cond)then([],140)else(a.filter (vH n.Cond),0))
 else if n.Op=4 then yb n a
 else if n.Op=5 then(if a.any (IG n.Items)then([],140)else(a.map (Ki n.Items),0))
 else if n.Op=6 then(uS (Ad a),0)
 else if n.Op=7 then(a++b,0)
 else(Nr n.Limit (u0 (Hn n.Order) a),0)
def K0(n:ay)(q:List cU×Int):List cU×Int:=if q.2≠0 then([],q.2)else if 8000<q.1.length then([],3)else(if n.Op=8 then q.1 else Ad q.1,0)
def zM(n:ay)(base:kH)(a b:List cU)(w:Nat):List cU×Int:=K0 n (wZ n base a b w)
theorem SQ{limit:Int}{l:List cU}(h:r∈Nr limit l):r∈l:=by
 unfold Nr at h
 split at h
 ·exact List.mem_of_mem_take h
 ·exact h
def H5(base:kH)(n:ay)(k:List Int):Prop:=n.Op=1→n.Table.toNat<base.Tables.length∧sK k (zy base n)∧(zy base n).length≤12
theorem Mh(h:e∈n.Items)(hu:JJ e=true):Mi n=true:=by
 unfold Mi
 rw [uV.2 ⟨e,h,hu⟩]
 simp
variable{base:kH}
theorem Ol{ka kb:List Int}{a b:List cU}(hn:Hy n)(hop:FW n.Op=true)(hk:bH n ka kb=some (k,true))(hka:ka.length≤16)(hkb:kb.length≤16)(hsc:H5 base n k)(ha:sK ka a)(hb:sK kb b)(hal:a.length≤8000):
  sK k (wZ n base a b kb.length).1∧((wZ n base a b kb.length).2=0∨(wZ n base a b kb.length).2=3∨((wZ n base a b kb.length).2=140∧Mi n=true)):=by
 unfold wZ
 rcases q8 hop with o|o|o|o|o|o|o|o
 ·rw [bk o]
  exact⟨(hsc o).2.1,.inl rfl⟩
 ·rw [aX (by omega),bk o]
  obtain⟨e,ht⟩:=Oo o hk
  subst e
  have hj:PD n ka kb:=⟨hn.cond,yw ht,hka,hkb⟩
  obtain⟨p1,p2⟩:=Ut hj ha hb
  refine⟨p1,?_⟩
  rcases p2 with q|q|q
  ·exact .inl q
  ·rw [q];exact .inr (.inl rfl)
  ·rw [q.1];exact .inr (.inr ⟨rfl,by unfold Mi;rw [q.2];rfl⟩)
 ·rw [aX (by omega),aX (by omega),bk o]
  obtain⟨e,ht⟩:=G2 o hk
  subst e
  by_cases hf:a.any (zl n.Cond)=true
  ·rw [bk hf]
   refine⟨(fun r hr=>by cases hr),.inr (.inr ⟨rfl,?_⟩)⟩
   obtain⟨r,hr,hq⟩:=uV.1 hf
   rcases Wc hn.cond (yw ht) (ha r hr)with q|q
   ·rw [q.2.1]at hq;cases hq
   ·unfold Mi;rw [Ei q.2.2.2];rfl
  ·rw [aX hf]
   exact⟨fun r hr=>ha r (Gx.1 hr).1,.inl rfl⟩
 ·rw [aX (by omega),aX (by omega),aX (by omega),bk o]
  obtain⟨p1,p2,p3,p4⟩:=KC hn.small o hk
  subst p3
  have hg:LN n ka:=⟨p1,fun g hg=>⟨hn.args g hg,p2 g hg⟩,hka,by omega,hn.small.aggs⟩
  obtain⟨q1,_,q3⟩:=R6 hg ha hal
  refine⟨q1,?_⟩
  rcases q3 with q|q
  ·exact .inl q
  ·rw [q.1];exact .inr (.inr ⟨rfl,by unfold Mi;rw [q.2];simp⟩)
 ·rw [aX (by omega),aX (by omega),aX (by omega),aX (by omega),bk o]
  obtain⟨p1,p2⟩:=EY hn.small o hk
  subst p2
  by_cases hf:a.any (IG n.Items)=true
  ·rw [bk hf]
   refine⟨(fun r hr=>by cases hr),.inr (.inr ⟨rfl,?_⟩)⟩
   obtain⟨r,hr,hq⟩:=uV.1 hf
   unfold IG at hq
   obtain⟨e,he,hq⟩:=uV.1 hq
   rcases Wc (hn.items e he) (p1 e he) (ha r hr)with q|q
   ·rw [q.2.1]at hq;cases hq
   ·exact Mh he (Ei q.2.2.2)
  ·rw [aX hf]
   refine⟨?_,.inl rfl⟩
   intro x hx
   obtain⟨r,hr,e⟩:=vl.1 hx
   rw [←e]
   refine RK.map _ _ _ fun e he=>?_
   rcases Wc (hn.items e he) (p1 e he) (ha r hr)with q|q
   ·exact q.2.2
   ·rw [q.2.2.1];exact⟨.z,.inr rfl⟩
 ·rw [aX (by omega),aX (by omega),aX (by omega),aX (by omega),aX (by omega),bk o]
  have e:=KD o hk
  subst e
  exact⟨fun r hr=>ha r ((nV fe a).mem_iff.1 ((yN _ _).1 hr)),.inl rfl⟩
 ·rw [aX (by omega),aX (by omega),aX (by omega),aX (by omega),aX (by omega),aX (by omega),bk o]
  obtain⟨p1,p2,p3⟩:=RI (by omega) o hk
  refine⟨?_,.inl rfl⟩
  intro r hr
  rcases AF.1 hr with q|q
  ·refine(ha r q).as p2 fun j x z h1 h2=>?_
   have hj:j<kb.length:=by
    have:=jP.1 h1
    obtain⟨h,_⟩:=this
    omega
   exact(p3 j x kb[j] z h1 (ph hj) h2).1
  ·refine(hb r q).as (by omega) fun j y z h1 h2=>?_
   have hj:j<ka.length:=by
    have:=jP.1 h1
    obtain⟨h,_⟩:=this
    omega
   exact(p3 j ka[j] y z (ph hj) h1 h2).2
 ·rw [aX (by omega),aX (by omega),aX (by omega),aX (by omega),aX (by omega),aX (by omega),aX (by omega)]
  obtain⟨p1,_⟩:=On hn.small o hk
  subst p1
  exact⟨fun r hr=>ha r ((nV _ a).mem_iff.1 (SQ hr)),.inl rfl⟩
theorem Wh{ka kb:List Int}{a b:List cU}(hn:Hy n)(hop:FW n.Op=true)(hk:bH n ka kb=some (k,true))(hka:ka.length≤16)(hkb:kb.length≤16)(hsc:H5 base n k)(ha:sK ka a)(hb:sK kb b)(hal:a.length≤8000):
  sK k (zM n base a b kb.length).1∧(zM n base a b kb.length).1.length≤8000∧((zM n base a b kb.length).2=0∨zM n base a b kb.length=([],3)∨(zM n base a b kb.length=([],140)∧Mi n=true)):=by
 obtain⟨p1,p2⟩:=Ol hn hop hk hka hkb hsc ha hb hal
 unfold zM K0
 by_cases h0:(wZ n base a b kb.length).2=0
 ·rw [aX (by simpa using h0)]
  by_cases hl:8000<(wZ n base a b kb.length).1.length
  ·rw [bk hl]
   exact⟨(fun r hr=>by cases hr),by simp,.inr (.inl rfl)⟩
  ·rw [aX hl]
   by_cases h8:n.Op=8
   ·rw [bk h8]
    exact⟨p1,by show(wZ n base a b kb.length).1.length≤8000;omega,.inl rfl⟩
   ·rw [aX h8]
    exact⟨p1.perm (nV _ _).symm,by show(Ad _).length≤8000;rw [yz];omega,.inl rfl⟩
 ·rw [bk h0]
  refine⟨(fun r hr=>by cases hr),by simp,?_⟩
  rcases p2 with q|q|q
  ·exact absurd q h0
  ·rw [q];exact .inr (.inl rfl)
  ·rw [q.1];exact .inr (.inr ⟨rfl,q.2⟩)

def FX{α:Type}(l:List (List α))(i:Int):List α:=if i<0 then []else(l[i.toNat]?).getD []
def Yc(ks:Nat→List Int)(i:Int):Nat:=(if i<0 then []else ks i.toNat).length
def PV(base:kH)(ks:Nat→List Int):List ay→List (List cU)→List (List cU)×Int
 |[],rows=>(rows,0)
 |n::t,rows=>if(zM n base (FX rows n.A) (FX rows n.B) (Yc ks n.B)).2≠0 then([],(zM n base (FX rows n.A) (FX rows n.B) (Yc ks n.B)).2)else PV base ks t (rows++[(zM n base (FX rows n.A) (FX rows n.B) (Yc ks n.B)).1])
def RS(rows:List (List cU)):List cU:=(rows[rows.length-1]?).getD []
def SI(r:List (List cU)×Int):List cU×Int:=if r.2≠0 then([],r.2)else(RS r.1,0)
def WN(l:cm)(base:kH)(ks:Nat→List Int):List cU×Int:=SI (PV base ks l.Nodes [])
structure LM(ks:Nat→List Int)(rows:List (List cU))(i:Nat):Prop where
 len:rows.length=i
 ok: ∀j,j<i→sK (ks j) ((rows[j]?).getD [])∧((rows[j]?).getD []).length≤8000
theorem OA{i:Int}(h:0≤i)(h2:i<(rows.length:Int)):de rows i=some (FX rows i):=by
 obtain⟨k,hk⟩:=Ea h
 subst hk
 have hk:k<rows.length:=by omega
 unfold FX
 rw [cC,aX (by omega)]
 simp [hk]
theorem LM.at(h:LM ks rows i)(hx:x= -1∨0≤x∧x<(i:Int)):sK (if x<0 then []else ks x.toNat) (FX rows x)∧(FX rows x).length≤8000:=by
 unfold FX
 rcases hx with q|q
 ·rw [bk (by omega),bk (by omega)]
  exact⟨(fun r hr=>by cases hr),by simp⟩
 ·rw [aX (by omega),aX (by omega)]
  exact h.ok x.toNat (by omega)
structure Hr(l:cm)(base:kH)(sz:Nat→Nat)(ks:Nat→List Int):Prop where
 known:HB l sz ks
 right:oT l=true
 nodes: ∀n∈l.Nodes,Hy n
 scan: ∀(j:Nat) (n:ay),de l.Nodes (j:Int)=some n→H5 base n (ks j)
theorem Hr.small(T:Hr l base sz ks):qE l:=fun n hn=>(T.nodes n hn).small
structure XK(l:cm)(base:kH)(ks:Nat→List Int)(rows:List (List cU))(j:Nat)(n:ay)(ka kb:List Int):Prop where
 g:Hy n
 op:FW n.Op=true
 kinds:bH n ka kb=some (ks j,true)
 k16:(ks j).length≤16
 ka16:ka.length≤16
 kb16:kb.length≤16
 scan:H5 base n (ks j)
 a:sK ka (FX rows n.A)
 al:(FX rows n.A).length≤8000
 b:sK kb (FX rows n.B)
 bl:(FX rows n.B).length≤8000
 w:Yc ks n.B=kb.length
 ia:n.Op≠1→de rows n.A=some (FX rows n.A)
 ib:n.Op=2∨n.Op=7→de rows n.B=some (FX rows n.B)∧0≤n.B∧n.B<(j:Int)
theorem Z0(T:Hr l base sz ks)(hj:j<l.Nodes.length)(I:LM ks rows j): ∃n,de l.Nodes (j:Int)=some n∧XK l base ks rows j n (if n.A<0 then []else ks n.A.toNat) (if n.B<0 then []else ks n.B.toNat):=by
 obtain⟨n,F⟩:=T.known.all j hj
 have hmem:n∈l.Nodes:=by
  have:=F.node
  rw [cC]at this
  exact sM this
 obtain⟨pA,pB⟩:=sb F
 have h16: ∀x:Int,(x= -1∨0≤x∧x<(j:Int))→(if x<0 then([]:List Int)else ks x.toNat).length≤16:=by
  intro x hx
  rcases hx with q|q
  ·rw [bk (by omega)];simp
  ·rw [aX (by omega)]
   obtain⟨m,Fm⟩:=T.known.all x.toNat (by omega)
   exact Fm.len
 refine⟨n,F.node,⟨T.nodes n hmem,F.op,F.kinds,F.len,h16 _ pA,h16 _ pB,T.scan j n F.node,(I.at pA).1,(I.at pA).2,(I.at pB).1,(I.at pB).2,rfl,?_,?_⟩⟩
 ·intro h1
  have:0≤n.A∧n.A<(rows.length:Int):=by
   rw [I.len]
   by_cases h27:n.Op=2∨n.Op=7
   ·have:=F.bi h27;omega
   ·have:=F.un h1 (fun h=>h27 (.inl h)) (fun h=>h27 (.inr h));omega
  exact OA this.1 this.2
 ·intro h27
  have:=F.bi h27
  have hb:0≤n.B∧n.B<(j:Int):=by omega
  exact⟨OA hb.1 (by rw [I.len];exact hb.2),hb⟩
abbrev acA:=dh→ay→Option ((List cU×Int)×dh)
def RP:List (Int×acA):=dF (dF (dF (dF (dF (dF (dF (dF ([]:List (Int×(dh→ay→Option (((List (List ac))×Int)×dh)))) (1:Int) (fun(mc:dh) (mx:ay)=>(lg mc mx).map fun mr=>(mr,mc))) (2:Int) (fun(mc:dh) (mx:ay)=>(j3 mc mx).map fun mr=>(mr,mc))) (3:Int) (fun(mc:dh) (mx:ay)=>(jR mc mx).map fun mr=>(mr,mc))) (4:Int) (fun(mc:dh) (mx:ay)=>(js mc mx).map fun mr=>(mr,mc))) (5:Int) (fun(mc:dh) (mx:ay)=>(jr mc mx).map fun mr=>(mr,mc))) (6:Int) (fun(mc:dh) (mx:ay)=>(iX mc mx).map fun mr=>(mr,mc))) (7:Int) (fun(mc:dh) (mx:ay)=>(kL mc mx).map fun mr=>(mr,mc))) (8:Int) (fun(mc:dh) (mx:ay)=>(kM mc mx).map fun mr=>(mr,mc))
theorem ZY{ks:List Int}(hr:RK ks r)(h: ∀o∈n.Order,0≤o.Col∧o.Col<(ks.length:Int)):WP n.Order r=true:=by
 unfold WP
 rw [ki]
 intro o ho
 have:=h o ho
 rw [←hr.len]at this
 simp [this.1,this.2]
theorem Qe{ka kb:List Int}(M:XK l base ks rows j n ka kb)(ob:dh)(hB:ob.Base=base)(hR:ob.rows=rows)(hW: ∀i:Int,0≤i→i<(j:Int)→de ob.width i=some (Yc ks i:Int)):((pw RP n.Op).getD fun _ _=>none) ob n=some (wZ n base (FX rows n.A) (FX rows n.B) kb.length,ob):=by
 unfold RP
 rw [RN]
 have hk:=M.kinds
 unfold wZ
 have hsm:=M.a.small M.ka16 M.al
 rcases q8 M.op with o|o|o|o|o|o|o|o
 ·rw [bk o,bk o]
  obtain⟨_,t1,t2⟩:=Ix o hk
  obtain⟨s1,s2,s3⟩:=M.scan o
  show(lg ob n).map _=_
  unfold lg
  have:de base.Tables n.Table=some (zy base n):=by
   unfold zy
   rw [iA n.Table.toNat (by omega),ph s1]
   rfl
  rw [hB,this]
  rfl
 ·rw [aX (by omega),bk o,aX (by omega),bk o]
  obtain⟨e,ht⟩:=Oo o hk
  have hj:PD n ka kb:=⟨M.g.cond,yw ht,M.ka16,M.kb16⟩
  obtain⟨b1,b2,b3⟩:=M.ib (.inl o)
  show(j3 ob n).map _=_
  rw [Us hj M.a M.b M.al M.bl ob (by rw [hR];exact M.ia (by omega)) (by rw [hR];exact b1) (by rw [hW n.B b2 b3,M.w])]
  rfl
 ·rw [aX (by omega),aX (by omega),bk o,aX (by omega),aX (by omega),bk o]
  obtain⟨e,ht⟩:=G2 o hk
  show(jR ob n).map _=_
  unfold jR
  rw [hR,M.ia (by omega),bu,Cn M.g.cond (yw ht) _ [] M.a (by have:=M.al;simp only [pZ];omega)]
  rfl
 ·rw [aX (by omega),aX (by omega),aX (by omega),bk o,aX (by omega),aX (by omega),aX (by omega),bk o]
  obtain⟨p1,p2,p3,p4⟩:=KC M.g.small o hk
  have hg:LN n ka:=⟨p1,fun g hg=>⟨M.g.args g hg,p2 g hg⟩,M.ka16,by omega,M.g.small.aggs⟩
  show(js ob n).map _=_
  rw [R5 hg M.a M.al ob (by rw [hR];exact M.ia (by omega))]
  rfl
 ·rw [aX (by omega),aX (by omega),aX (by omega),aX (by omega),bk o,aX (by omega),aX (by omega),aX (by omega),aX (by omega),bk o]
  obtain⟨p1,p2⟩:=EY M.g.small o hk
  show(jr ob n).map _=_
  unfold jr
  rw [hR,M.ia (by omega),bu,Oc (fun e he=>⟨M.g.items e he,p1 e he⟩) (by have:=M.g.small.items;omega) _ [] M.a (by have:=M.al;simp only [pZ];omega)]
  rfl
 ·rw [aX (by omega),aX (by omega),aX (by omega),aX (by omega),aX (by omega),bk o,aX (by omega),aX (by omega),aX (by omega),aX (by omega),aX (by omega),bk o]
  show(iX ob n).map _=_
  unfold iX
  rw [hR,M.ia (by omega),bu,Dv hsm,M.a.allr M.ka16]
  rfl
 ·rw [aX (by omega),aX (by omega),aX (by omega),aX (by omega),aX (by omega),aX (by omega),bk o,aX (by omega),aX (by omega),aX (by omega),aX (by omega),aX (by omega),aX (by omega),bk o]
  obtain⟨b1,b2,b3⟩:=M.ib (.inr o)
  show(kL ob n).map _=_
  unfold kL
  rw [hR,M.ia (by omega),bu,b1,bu,NP _ _ M.al M.bl]
  rfl
 ·rw [aX (by omega),aX (by omega),aX (by omega),aX (by omega),aX (by omega),aX (by omega),aX (by omega),bk o,aX (by omega),aX (by omega),aX (by omega),aX (by omega),aX (by omega),aX (by omega),aX (by omega)]
  obtain⟨p1,p2⟩:=On M.g.small o hk
  show(kM ob n).map _=_
  unfold kM
  have ho:NK n.Order (FX rows n.A):=⟨fun r hr=>(M.a r hr).right M.ka16,fun r hr=>ZY (M.a r hr) p2⟩
  rw [hR,M.ia (by omega),bu,Cu ho (by have:=M.al;omega)]
  rfl
theorem LM.next(h:LM ks rows i){r:List cU}(hr:sK (ks i) r)(hl:r.length≤8000):LM ks (rows++[r]) (i+1):=by
 have hlen:=h.len
 refine⟨by simp [hlen],fun j hj=>?_⟩
 by_cases hji:j<i
 ·rw [B0 (by omega)]
  exact h.ok j hji
 ·have:j=i:=by omega
  subst this
  rw [uX (by omega),hlen]
  simpa using ⟨hr,hl⟩



def KZ:List ac→List Int→Bool
 |v::t,k::ks=>(fG v&&(v.Kind==0||v.Kind==k))&&KZ t ks
 |[],_=>true
 |_::_,[]=>false
def Sd(kinds:List Int)(r:cU):Bool:=decide (r.length=kinds.length)&&KZ r kinds
def KY(rows:List cU)(kinds:List Int):Bool:=decide (rows.length≤12)&&rows.all (Sd kinds)
theorem Ff(kinds:List Int)(nx:Option Bool)(r:cU)(hl:r.length=kinds.length): ∀(n i:Nat),r.length-i=n→i≤r.length→mu kinds nx (r.drop i) i=if KZ (r.drop i) (kinds.drop i)then nx else some false
 |0,i,h,hi=>by
  rw [D5 (by omega)]
  unfold mu KZ
  rfl
 |n+1,i,h,hi=>by
  have hlt:i<r.length:=by omega
  have hlk:i<kinds.length:=by omega
  rw [xu hlt,xu hlk]
  unfold mu KZ
  rw [Ff kinds nx r hl n (i+1) (by omega) (by omega),nU,bu,cC,ph hlk]
  simp only [bu]
  have e:(r[i].Kind==0)= !(r[i].Kind !=0):=by rw [bne,Bool.not_not]
  have e2:(r[i].Kind==kinds[i])= !(r[i].Kind !=kinds[i]):=by rw [bne,Bool.not_not]
  rw [e,e2]
  cases fG r[i]<;>cases (r[i].Kind !=0)<;>cases (r[i].Kind !=kinds[i])<;>simp
theorem acL(a b:Nat):((a:Int) !=(b:Int))= !decide (a=b):=by
 rw [AE];simp;omega
theorem Fg(kinds:List Int): ∀rows:List cU,mv kinds rows=some (rows.all (Sd kinds))
 |[]=>rfl
 |r::t=>by
  unfold mv
  rw [acL,zU,Sd,Fg kinds t]
  by_cases h:r.length=kinds.length
  ·have:=Ff kinds (some (t.all (Sd kinds))) r h r.length 0 rfl (mA _)
   rw [xn,xn]at this
   rw [zb h,this]
   cases KZ r kinds<;>simp
  ·rw [zc h];simp
theorem Fo(rows:List cU)(kinds:List Int):sl rows kinds=some (KY rows kinds):=by
 unfold sl KY
 rw [Fg]
 by_cases h:rows.length≤12
 ·rw [aX (by rw [lX];omega),zb h];rfl
 ·rw [bk (by rw [lX];omega),zc h];rfl

def rt(ks:Nat→List Int)(i:Nat):List Int:=(List.range i).map fun j=>((ks j).length:Int)
theorem PM(x:Int)(h:0≤x)(h2:x<(i:Int)):de (rt ks i) x=some (Yc ks x:Int):=by
 obtain⟨k,hk⟩:=Ea h
 subst hk
 have hk:k<i:=by omega
 unfold rt Yc
 rw [cC,aX (by omega)]
 simp [hk]
theorem JH(ks:Nat→List Int)(i:Nat):rt ks i++[((ks i).length:Int)]=rt ks (i+1):=by
 unfold rt
 rw [List.range_succ,List.map_append]
 rfl
theorem Uq(h:1≤rows.length)(h2:rows.length≤100000):de rows (IntKind.i64.wrap ((rows.length:Int)-1))=some (RS rows):=by
 rw [ux (by omega) (by omega),show(rows.length:Int)-1=((rows.length-1:Nat):Int)from by omega,cC]
 unfold RS
 rw [ph (by omega)]
 rfl
theorem Hj{l:cm}{base:kH}{sz:Nat→Nat}{ks:Nat→List Int}(T:Hr l base sz ks): ∀(tl:List ay) (i:Nat) (rows:List (List cU)),l.Nodes.drop i=tl→i≤l.Nodes.length→LM ks rows i→gu l tl i ⟨base,rows,rt ks i⟩=some (SI (PV base ks tl rows))
 |[],i,rows,hd,hi,I=>by
  have h1:=vK hd
  have h2:i=l.Nodes.length:=by omega
  have hlen:=I.len
  have hle:=T.known.le
  have hpos:=T.known.pos
  unfold gu PV SI
  rw [Uq (rows:=rows) (by omega) (by omega)]
  rfl
 |n::t,i,rows,hd,hi,I=>by
  obtain⟨h1,h2,h3⟩:=lE hd
  obtain⟨n',hn',M⟩:=Z0 T h2 I
  rw [h1]at hn'
  injection hn' with hn'
  subst hn'
  have hlen:=I.len
  have hle:=T.known.le
  obtain⟨c1,c2,c3⟩:=Wh (base:=base) M.g M.op M.kinds M.ka16 M.kb16 M.scan M.a M.b M.al
  obtain⟨d1,d2⟩:=Ol (base:=base) M.g M.op M.kinds M.ka16 M.kb16 M.scan M.a M.b M.al
  have hcode:=Qe M ⟨base,rows,rt ks i⟩ rfl rfl (fun x h h2=>PM x h h2)
  unfold RP at hcode
  unfold gu PV
  rw [hcode,bu,M.w]
  simp only []
  unfold zM at c1 c2 c3 ⊢
  generalize wZ n base (FX rows n.A) (FX rows n.B) (if n.B<0 then []else ks n.B.toNat).length=q at c1 c2 c3 d1 d2 ⊢
  have hk2: ∀(rs:List cU) (q' :List cU×Int),sK (ks i) rs→rs.length≤8000→ot l (gu l t) i (q',⟨base,rows,rt ks i⟩) rs=some (SI (PV base ks t (rows++[rs]))):=by
   intro rs q' hrs hrl
   unfold ot
   obtain⟨d,hd1,sI⟩:=MK T.small T.right T.known h2
   rw [hd1,bu,sI,bu,cJ (by simp;omega),bu,cJ (by simp [rt];omega),bu]
   show gu l t (i+1) ⟨base,rows++[rs],rt ks i++[((ks i).length:Int)]⟩=_
   rw [JH]
   exact Hj T t (i+1) _ h3 h2 (I.next hrs hrl)
  by_cases h0:q.2=0
  ·by_cases hl:8000<q.1.length
   ·have e:K0 n q=([],3):=by unfold K0;rw [aX (by simp [h0]),bk hl]
    rw [bk (by simp only [h0,mz,tt,lX,true_and];omega),e]
    rfl
   ·have e:K0 n q=(if n.Op=8 then q.1 else Ad q.1,0):=by unfold K0;rw [aX (by simp [h0]),aX hl]
    rw [aX (by simp only [h0,mz,tt,lX,true_and];omega),e]
    rw [aX (c:=((if n.Op=8 then q.1 else Ad q.1,(0:Int)):List cU×Int).2≠0) (by simp)]
    unfold ou
    rw [aX (by simp [h0])]
    by_cases h8:n.Op=8
    ·rw [bk h8,aX (by simp [h8])]
     exact hk2 q.1 q d1 (by omega)
    ·rw [aX h8,bk (by simpa using h8),F9 (d1.small M.k16 (by omega)),d1.allr M.k16,bu]
     exact hk2 (Ad q.1) q (d1.perm (nV fe _).symm) (by show(u0 fe q.1).length≤8000;rw [yz];omega)
  ·have e:K0 n q=([],q.2):=by unfold K0;rw [bk h0]
   rw [aX (by simp [h0]),e]
   rw [bk (c:=(([],q.2):List cU×Int).2≠0) h0]
   unfold ou SI
   rw [bk (by simpa using h0)]
   rw [bk (c:=(([],q.2):List (List cU)×Int).2≠0) h0]
theorem acO(ks:Nat→List Int):LM ks [] 0:=⟨rfl,fun j hj=>by omega⟩
def Qs(b:kH)(n:ay):Bool:= !(n.Op==1)||(decide (n.Table<(b.Tables.length:Int))&&KY (zy b n) n.Kinds)
def Sb(l:cm)(b:kH):Bool:=l.Nodes.all (Qs b)
theorem Sc{b:kH}(ht:n.Op=1→0≤n.Table)(f:List cU→List Int→Option Bool)(hf: ∀x y,f x y=some (KY x y)):(if(n.Op==(1:Int))then((if(!(decide ((b.Tables.length:Int)≤n.Table)))then((de b.Tables n.Table).bind fun e1=>(f e1 n.Kinds).bind fun r1=>some (!r1))else some true).bind fun t1=>some t1)else some false)=some (!Qs b n):=by
 unfold Qs
 by_cases h1:n.Op=1
 ·have h0:=ht h1
  by_cases hl:n.Table<(b.Tables.length:Int)
  ·have hi:de b.Tables n.Table=some (zy b n):=by
    unfold zy
    rw [iA n.Table.toNat (by omega),ph (by omega)]
    rfl
   rw [bk (by simpa using h1),bk (by simp;omega),hi,bu,hf,bu,bu,h1]
   simp [hl]
  ·rw [bk (by simpa using h1),aX (by simp;omega),bu,h1]
   simp [hl]
 ·rw [aX (by simpa using h1)]
  simp [h1]
theorem FN(b:kH): ∀ns:List ay,(∀n∈ns,n.Op=1→0≤n.Table)→ov b ns=some (ns.all (Qs b))
 |[],_=>rfl
 |n::t,h=>by
  unfold ov
  rw [Sc (h n (lb ..)) sl Fo,bu,FN b t fun x hx=>h x (lc _ hx),zU]
  cases Qs b n<;>rfl
theorem MB(K:HB l sz ks): ∀n∈l.Nodes,n.Op=1→0≤n.Table:=by
 intro n hn h1
 obtain⟨j,hj,e⟩:=List.mem_iff_getElem.1 hn
 obtain⟨m,F⟩:=K.all j hj
 have:m=n:=by
  have:=F.node
  rw [cC,ph hj,e]at this
  injection this with this
  exact this.symm
 subst this
 exact(Ix h1 F.kinds).2.1
theorem BG(hS:qE l)(h:oT l=true)(b:kH):uR l b=some (Sb l b):=by
 obtain⟨sz,ks,K⟩:=E5 hS h
 obtain⟨_,⟨j,hj⟩,_⟩:=A4 hS
 rw [h]at hj
 unfold uR
 rw [hj,bu,bk rfl,aX (by decide),FN b _ (MB K)]
 rfl
def Rs(b:kH):Prop:= ∀t∈b.Tables,Dw t
theorem OG: ∀{r:cU} {ks:List Int},r.length=ks.length→KZ r ks=true→(∀k∈ks,k≤3)→T8 r→RK ks r
 |[],[],_,_,_,_=>trivial
 |v::t,k::ks,hl,h,hk,hr=>by
  unfold KZ at h
  simp only [mz,qO,tt]at h
  have hk3:=hk k (lb ..)
  refine⟨EO ?_ (hr v (lb ..)),?_,OG (by simpa using hl) h.2 (fun x hx=>hk x (lc _ hx)) fun x hx=>hr x (lc _ hx)⟩
  ·unfold mP
   rw [h.1.1]
   simp only [vg,rM,pG]
   omega
  ·unfold rf;omega
 |[],_::_,hl,_,_,_=>by simp at hl
 |_::_,[],hl,_,_,_=>by simp at hl
theorem TT{b:kH}(hN: ∀n∈l.Nodes,Hy n)(hb:Rs b)(h:oT l=true)(hf:Sb l b=true): ∃sz ks,Hr l b sz ks:=by
 have hS:qE l:=fun n hn=>(hN n hn).small
 obtain⟨sz,ks,K⟩:=E5 hS h
 refine⟨sz,ks,K,h,hN,?_⟩
 intro j n hj h1
 have hm:n∈l.Nodes:=by rw [cC]at hj;exact sM hj
 have hjl:j<l.Nodes.length:=by
  rw [cC]at hj
  obtain⟨h,_⟩:=jP.1 hj
  exact h
 obtain⟨m,F⟩:=K.all j hjl
 have e:m=n:=by have:=F.node;rw [hj]at this;injection this with this;exact this.symm
 subst e
 obtain⟨k1,t1,t2⟩:=Ix h1 F.kinds
 have hfn:=ki.1 hf m hm
 unfold Qs at hfn
 rw [h1]at hfn
 simp only [GB,nh,sy,mz,lX]at hfn
 obtain⟨f1,f2⟩:=hfn
 unfold KY at f2
 rw [mz,lX,ki]at f2
 have hlt:m.Table.toNat<b.Tables.length:=by omega
 have htab:zy b m=b.Tables[m.Table.toNat]:=by
  unfold zy
  rw [ph hlt]
  rfl
 refine⟨hlt,?_,f2.1⟩
 intro r hr
 have hfr:=f2.2 r hr
 unfold Sd at hfr
 rw [mz,lX]at hfr
 rw [k1]
 refine OG hfr.1 hfr.2 ?_ ?_
 ·intro k hk
  have:=yP (Wz hS K.all j hjl) (by rw [k1];exact hk)
  unfold k4 at this
  omega
 ·rw [htab]at hr
  exact hb _ (List.getElem_mem hlt) r hr
theorem Cw(T:Hr l base sz ks)(hf:Sb l base=true):sn l base=some (WN l base ks):=by
 obtain⟨_,⟨j,hj⟩,_⟩:=A4 T.small
 rw [T.right]at hj
 unfold sn
 rw [hj,bu,bk rfl,aX (by decide),BG T.small T.right,bu,hf,aX (by decide)]
 exact Hj T l.Nodes 0 [] rfl (mA _) (acO ks)

theorem xR(nx:Option Bool)(v:Bool)(hn:nx=some v): ∀r:cU,∃w,lA nx r=some w∧(w=false→v=false∧ ∀x∈r,x.S.length≤200)
 |[]=>⟨v,hn,fun h=>⟨h,by simp⟩⟩
 |e::t=>by
  unfold lA
  by_cases h:200<e.S.length
  ·exact⟨true,by rw [bk (by rw [lX];omega)],fun h=>by cases h⟩
  ·obtain⟨w,h1,h2⟩:=xR nx v hn t
   refine⟨w,by rw [aX (by rw [lX];omega)];exact h1,fun hw=>⟨(h2 hw).1,?_⟩⟩
   intro x hx
   rcases gk.1 hx with q|q
   ·rw [q];omega
   ·exact(h2 hw).2 x q
theorem xS: ∀l:List cU,∃w,iN l=some w∧(w=false→ ∀r∈l,r.length≤30)
 |[]=>⟨false,rfl,fun _=>by simp⟩
 |e::t=>by
  unfold iN
  by_cases h:30<e.length
  ·exact⟨true,by rw [bk (by rw [lX];omega)],fun h=>by cases h⟩
  ·obtain⟨v,h1,h2⟩:=xS t
   obtain⟨w,h3,h4⟩:=xR (iN t) v h1 e
   refine⟨w,by rw [aX (by rw [lX];omega)];exact h3,fun hw=>?_⟩
   intro x hx
   rcases gk.1 hx with q|q
   ·rw [q];omega
   ·exact h2 (h4 hw).1 x q
theorem Kq(l:List cU)(m:Nat): ∃w,qt l (m:Int)=some w∧(w=false→l.length≤m∧ ∀r∈l,r.length≤30):=by
 unfold qt
 by_cases h:m<l.length
 ·exact⟨true,by rw [bk (by rw [lX];omega)],fun h=>by cases h⟩
 ·obtain⟨w,h1,h2⟩:=xS l
  exact⟨w,by rw [aX (by rw [lX];omega)];exact h1,fun hw=>⟨by omega,h2 hw⟩⟩
theorem xT: ∀l:List bC,∃w,lB l=some w
 |[]=>⟨false,rfl⟩
 |e::t=>by
  unfold lB
  obtain⟨w,h⟩:=xT t
  split
  ·exact⟨true,rfl⟩
  ·exact⟨w,h⟩
theorem Kr(e:bS): ∃w,qu e=some w∧(w=false→e.Nodes.length≤100):=by
 unfold qu
 by_cases h:100<e.Nodes.length
 ·exact⟨true,by rw [bk (by rw [lX];omega)],fun h=>by cases h⟩
 ·obtain⟨w,h1⟩:=xT e.Nodes
  exact⟨w,by rw [aX (by rw [lX];omega)];exact h1,fun hw=>by omega⟩
structure FE(n:ay):Prop where
 kinds:n.Kinds.length≤20
 keys:n.Keys.length≤20
 order:n.Order.length≤20
 items:n.Items.length≤20
 aggs:n.Aggs.length≤20
 cond:n.Cond.Nodes.length≤100
 exprs: ∀e∈n.Items,e.Nodes.length≤100
 args: ∀g∈n.Aggs,g.Arg.Nodes.length≤100
structure rgN(n:ay):Prop where
 cond:Jm n.Cond.Nodes
 items: ∀e∈n.Items,Jm e.Nodes
 args: ∀g∈n.Aggs,Jm g.Arg.Nodes
theorem FE.small(h:FE n):jv n:=
 ⟨by have:=h.cond;omega,by have:=h.kinds;omega,by have:=h.keys;omega,by have:=h.aggs;omega,by have:=h.items;omega,by have:=h.order;omega,fun g hg=>by have:=h.args g hg;omega,fun e he=>by have:=h.exprs e he;omega⟩
theorem FE.g{n:ay}(h:FE n)(r:rgN n):Hy n:=
 ⟨h.small,⟨by have:=h.cond;omega,r.cond⟩,fun e he=>⟨by have:=h.exprs e he;omega,r.items e he⟩,fun g hg=>⟨by have:=h.args g hg;omega,r.args g hg⟩⟩
def ZD:cm:=⟨[⟨1,-1,-1,0,[2],false,⟨[]⟩,[],[],[],[],0⟩,⟨4,0,-1,0,[],false,⟨[]⟩,[],[⟨1,⟨[]⟩⟩,⟨3,⟨[⟨2,-1,-1,0,⟨0,0,0,[]⟩⟩]⟩⟩],[],[],0⟩]⟩
def wkB:kH:=⟨[[[⟨2,1,0,[]⟩],[⟨2,2,0,[]⟩],[⟨0,0,0,[]⟩]]]⟩
theorem Q6:oT ZD=true:=by kernel_rfl
theorem TQ(ks:Nat→List Int):WN ZD wkB ks=([[iV 3,iV 3]],0):=by
 kernel_rfl
end Go.Proofs.YtfhhakidodmdfaaGreatDoor

