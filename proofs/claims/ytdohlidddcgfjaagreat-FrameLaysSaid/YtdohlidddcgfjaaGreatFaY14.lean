/- cT of this claim: Y14. -/
import Derived.Test.YtdohlidddcgfjaaGreatFaY13
set_option linter.all false
namespace Go.Proofs.YtdohlidddcgfjaaGreat
open Go

theorem Bi(op:Int):sJ op=some (lO op):=by
 by_cases h1:op=1
 ·subst h1;rfl
 by_cases h2:op=2
 ·subst h2;rfl
 by_cases h3:op=3
 ·subst h3;rfl
 by_cases h4:op=4
 ·subst h4;rfl
 by_cases h5:op=5
 ·subst h5;rfl
 by_cases h6:op=6
 ·subst h6;rfl
 by_cases h7:op=7
 ·subst h7;rfl
 by_cases h8:op=8
 ·subst h8;rfl
 by_cases h9:op=9
 ·subst h9;rfl
 by_cases h10:op=10
 ·subst h10;rfl
 by_cases h11:op=11
 ·subst h11;rfl
 simp [sJ,pz,pd,nC,iZ,lO,h1,h2,h3,h4,h5,h6,h7,h8,h9,h10,h11]
def Sz(ns:List ap)(j s:Nat):Prop:= ∀fu,j+1<fu→fJ fu ns (j:Int)=some (s:Int)
inductive KU(ns:List ap):List Int→Int→Prop
 |nil:KU ns [] (-1)
 |cons {rest:List Int} (j s:Nat):Sz ns j s→1≤s→s≤j+1→KU ns rest ((j:Int)-(s:Int))→KU ns ((j:Int)::rest) (j:Int)
theorem KU.neg{ns:List ap}{st:List Int}{p:Int}(h:KU ns st p)(hp:p<0):st=[]:=by
 cases h with
 |nil=>rfl
 |cons j s=>omega
theorem KU.pos{ns:List ap}{st:List Int}{p:Int}(h:KU ns st p)(hp:0≤p): ∃(j s:Nat) (rest:List Int),p=(j:Int)∧st=(j:Int)::rest∧Sz ns j s∧1≤s∧s≤j+1∧KU ns rest ((j:Int)-(s:Int)):=by
 cases h with
 |nil=>omega
 |cons j s h1 h2 h3 h4=>exact⟨j,s,_,rfl,rfl,h1,h2,h3,h4⟩
def R7(e:ap)(st:List Int):Prop:=(lO e.Op=0∧e.A= -1∧e.B= -1)∨(lO e.Op=1∧e.B= -1∧ ∃rest,st=e.A::rest)∨(lO e.Op=2∧ ∃rest,st=e.B::e.A::rest)
theorem tJ(op:Int):lO op=0∨lO op=1∨lO op=2∨lO op= -1:=by
 unfold lO
 split
 ·exact .inl rfl
 ·split
  ·exact .inr (.inr (.inl rfl))
  ·split
   ·exact .inr (.inl rfl)
   ·exact .inr (.inr (.inr rfl))
theorem DT{ns:List ap}{fu:Nat}(h:0<fu){p:Int}(hp:p<0):fJ fu ns p=some 0:=by
 obtain⟨fu,rfl⟩: ∃k,fu=k+1:=⟨fu-1,by omega⟩
 unfold fJ
 rw [bq (by simp [hp])]
theorem Fv{ns:List ap}{j:Nat}{n:ap}(hn:ns[j]? =some n)(hl:ns.length≤1000)(fu:Nat):fJ (fu+1) ns (j:Int)=
  if lO n.Op=0 then(if n.A= -1∧n.B= -1 then some 1 else some 0)
  else if lO n.Op=1 then(fJ fu ns ((j:Int)-1)).bind (fun r1=>if(n.A=(j:Int)-1∧n.B= -1)∧0<r1 then some (IntKind.i64.wrap (r1+(1:Int)))else some (0:Int))
  else if lO n.Op=2 then(fJ fu ns ((j:Int)-1)).bind (fun r2=>if(r2=0∨n.B≠(j:Int)-1)∨n.A≠IntKind.i64.wrap ((j:Int)-1-r2)then some 0 else((fJ fu ns n.A).bind fun r3=>if(decide ((0:Int)<r3))then(some (IntKind.i64.wrap ((IntKind.i64.wrap (r3+r2))+(1:Int))))else(some (0:Int))))
  else some 0:=by
 have hj:=(kF.1 hn).1
 conv=>lhs;unfold fJ
 rw [aW (by simp;omega),dJ,hn]
 simp only [bj,Bi]
 rw [eC (n:=(j:Int)-1) (by omega) (by omega)]
 by_cases h0:lO n.Op=0
 ·simp only [h0,ow]
  rw [bq (by decide)]
  by_cases hAB:n.A= -1∧n.B= -1
  ·rw [bq hAB,bq (by simp [hAB])]
  ·rw [aW hAB,aW (by simpa using hAB)]
 by_cases h1:lO n.Op=1
 ·simp only [h1,ow,aW (show¬(1:Int)=0 by decide)]
  rw [aW (by decide),bq (by decide)]
  congr 1
  funext r1
  by_cases hc:(n.A=(j:Int)-1∧n.B= -1)∧0<r1
  ·rw [bq hc,bq (by simp [hc])]
  ·rw [aW hc,aW (by simpa using hc)]
 by_cases h2:lO n.Op=2
 ·simp only [h2,ow,aW (show¬(2:Int)=0 by decide),aW (show¬(2:Int)=1 by decide)]
  rw [aW (by decide),aW (by decide),bq (by decide)]
  congr 1
  funext r2
  by_cases hc:(r2=0∨n.B≠(j:Int)-1)∨n.A≠IntKind.i64.wrap ((j:Int)-1-r2)
  ·rw [bq hc,bq (by simpa using hc)]
  ·rw [aW hc,aW (by simpa using hc)]
 ·have h3:lO n.Op= -1:=by have:=tJ n.Op;omega
  simp only [h3]
  rfl
theorem JN{ns:List ap}{st:List Int}{i:Nat}{e:ap}(hst:KU ns st ((i:Int)-1))(he:ns[i]? =some e)(hl:ns.length≤100): ∃s:Nat,Sz ns i s∧((s=0∧ ¬R7 e st)∨(1≤s∧s≤i+1∧R7 e st∧KU ns ((i:Int)::st.drop (lO e.Op).toNat) (i:Int))):=by
 have hi:=(kF.1 he).1
 have step:=Fv he (by omega)
 have sz: ∀{s:Nat},(∀fu,i<fu→fJ (fu+1) ns (i:Int)=some (s:Int))→Sz ns i s:=fun h fu hf=>by
  obtain⟨fu,rfl⟩: ∃k,fu=k+1:=⟨fu-1,by omega⟩
  exact h fu (by omega)
 rcases tJ e.Op with h0|h0|h0|h0
 ·by_cases hAB:e.A= -1∧e.B= -1
  ·have hs:Sz ns i 1:=sz fun fu _=>by rw [step,bq h0,bq hAB];rfl
   refine⟨1,hs,.inr ⟨eE _,by omega,.inl ⟨h0,hAB⟩,?_⟩⟩
   rw [h0]
   exact .cons i 1 hs (eE _) (by omega) hst
  ·refine⟨0,sz fun fu _=>by rw [step,bq h0,aW hAB];rfl,.inl ⟨rfl,fun hp=>?_⟩⟩
   rcases hp with h|h|h
   ·exact hAB h.2
   ·omega
   ·omega
 ·by_cases hz:i=0
  ·have:=hst.neg (by omega)
   subst this
   refine⟨0,sz fun fu hf=>by rw [step,aW (by omega),bq h0,DT (by omega) (by omega),bj,aW (by omega)];rfl,.inl ⟨rfl,fun hp=>?_⟩⟩
   rcases hp with h|⟨_,_,r,h⟩|h
   ·omega
   ·cases h
   ·omega
  ·obtain⟨j,s,rest,hj,rfl,g1,g2,g3,g4⟩:=hst.pos (by omega)
   by_cases hA:e.A=(i:Int)-1∧e.B= -1
   ·have hs:Sz ns i (s+1):=sz fun fu hf=>by
     rw [step,aW (by omega),bq h0,hj,g1 fu (by omega),bj,bq ⟨by rw [←hj];exact hA,by omega⟩,eC (by omega) (by omega)];rfl
    refine⟨s+1,hs,.inr ⟨by omega,by omega,.inr (.inl ⟨h0,hA.2,rest,by rw [hA.1,hj]⟩),?_⟩⟩
    rw [h0]
    refine .cons i (s+1) hs (by omega) (by omega) ?_
    have:(i:Int)-((s+1:Nat):Int)=(j:Int)-(s:Int):=by omega
    rw [this]
    exact g4
   ·refine⟨0,sz fun fu hf=>by
     rw [step,aW (by omega),bq h0,hj,g1 fu (by omega),bj,aW (fun h=>hA (by rw [hj];exact h.1))];rfl,.inl ⟨rfl,fun hp=>?_⟩⟩
    rcases hp with h|⟨_,hB,r,h⟩|h
    ·omega
    ·injection h with h _
     exact hA ⟨by omega,hB⟩
    ·omega
 ·by_cases hz:i=0
  ·have:=hst.neg (by omega)
   subst this
   refine⟨0,sz fun fu hf=>by rw [step,aW (by omega),aW (by omega),bq h0,DT (by omega) (by omega),bj,bq (.inl (.inl rfl))];rfl,.inl ⟨rfl,fun hp=>?_⟩⟩
   rcases hp with h|h|⟨_,r,h⟩
   ·omega
   ·omega
   ·cases h
  ·obtain⟨j,s,rest,hj,rfl,g1,g2,g3,g4⟩:=hst.pos (by omega)
   by_cases hAB:e.B=(i:Int)-1∧e.A=(j:Int)-(s:Int)
   ·have hw:IntKind.i64.wrap ((j:Int)-(s:Int))=(j:Int)-(s:Int):=eC (by omega) (by omega)
    by_cases hn:(j:Int)-(s:Int)<0
    ·have:=g4.neg hn
     subst this
     refine⟨0,sz fun fu hf=>by
      rw [step,aW (by omega),aW (by omega),bq h0,hj,g1 fu (by omega),bj,hw,aW (by omega),DT (by omega) (by omega),bj,aW (by decide)];rfl,.inl ⟨rfl,fun hp=>?_⟩⟩
     rcases hp with h|h|⟨_,r,h⟩
     ·omega
     ·omega
     ·injection h with _ h;cases h
    ·obtain⟨j2,s2,rest2,hj2,rfl,k1,k2,k3,k4⟩:=g4.pos (by omega)
     have hs:Sz ns i (s2+s+1):=sz fun fu hf=>by
      rw [step,aW (by omega),aW (by omega),bq h0,hj,g1 fu (by omega),bj,hw,aW (by omega),hAB.2,hj2,k1 fu (by omega),bj,bq (by simp;omega),eC (n:=(s2:Int)+(s:Int)) (by omega) (by omega),eC (by omega) (by omega)];rfl
     refine⟨s2+s+1,hs,.inr ⟨by omega,by omega,.inr (.inr ⟨h0,rest2,by rw [hAB.1,hAB.2,hj,hj2]⟩),?_⟩⟩
     rw [h0]
     refine .cons i (s2+s+1) hs (by omega) (by omega) ?_
     have:(i:Int)-((s2+s+1:Nat):Int)=(j2:Int)-(s2:Int):=by omega
     rw [this]
     exact k4
   ·have hw:IntKind.i64.wrap ((j:Int)-(s:Int))=(j:Int)-(s:Int):=eC (by omega) (by omega)
    refine⟨0,sz fun fu hf=>by
     rw [step,aW (by omega),aW (by omega),bq h0,hj,g1 fu (by omega),bj,hw,bq (by omega)];rfl,.inl ⟨rfl,fun hp=>?_⟩⟩
    rcases hp with h|h|⟨_,r,h⟩
    ·omega
    ·omega
    ·injection h with e1 e2
     by_cases hn:(j:Int)-(s:Int)<0
     ·have:=g4.neg hn
      subst this
      cases e2
     ·obtain⟨j2,s2,rest2,hj2,rfl,_⟩:=g4.pos (by omega)
      injection e2 with e2 _
      exact hAB ⟨by omega,by omega⟩
 ·refine⟨0,sz fun fu _=>by rw [step,aW (by omega),aW (by omega),aW (by omega)];rfl,.inl ⟨rfl,fun hp=>?_⟩⟩
  rcases hp with h|h|h<;>omega
theorem K3.nil:K3 []:=fun x hx=>by cases hx
theorem J4{op:Int}(h:0≤lO op):Da op=true∨op=9∨op=10∨op=11:=by
 unfold lO at h
 simp only [Da,gX,rl]
 split at h
 ·omega
 ·split at h
  ·omega
  ·split at h
   ·omega
   ·omega
theorem LA{l:al}(h:Lb l)(hop:Da l.n.Op=true): ∃ok0 R0,oN l.n.Op l ()=some (ok0,{l with result:=R0})∧(C9 l.n l.a_ l.b).2=(ok0&&decide (R0.length≤16))∧((C9 l.n l.a_ l.b).2=true→(C9 l.n l.a_ l.b).1=R0∧cD l.n l.a_ l.b=some (R0,true)∧R0.length≤16):=by
 obtain⟨ok,R,o,k,h1,h2,h3,h4⟩:=Qy h hop
 refine⟨ok,R,h1,?_⟩
 have e:C9 l.n l.a_ l.b=if 16<k.length then([],false)else(k,o):=by unfold C9;rw [h2]
 rw [e]
 by_cases hl:16<k.length
 ·rw [bq hl]
  have:decide (k.length≤16)=false:=by simpa using hl
  rw [this,Bool.and_false]at h3
  exact⟨h3.symm,fun h=>by cases h⟩
 ·rw [aW hl]
  have:decide (k.length≤16)=true:=by simp;omega
  rw [this,Bool.and_true]at h3
  refine⟨h3.symm,fun ho=>?_⟩
  have ho:o=true:=ho
  subst ho
  have:=h4 h3
  subst this
  exact⟨rfl,h2,by omega⟩
def ki(e:ap)(a b:List Int):List (List Int):=if lO e.Op=0 then []else if lO e.Op=1 then [a]else [a,b]
def jM(e:ap)(a b:List Int):Bool:=(e.Op==11)||(!(decide ((4:Int)∈a))&& !(decide ((4:Int)∈b)))
theorem J3(n:ap){a b:List Int}(h3:K3 a)(hal:a.length≤16)(h:(4:Int)∈b):du n [a,b]=some ([],false):=by
 unfold du bP
 rw [wg,bj,aW (by simpa using h3.four),yl _ _ _ _ _ _ h3 (by show 0+a.length≤1000;omega)]
 unfold dw
 show((gn ([]:List ap) [j3,jm 0 a]).bind fun l5=>if(((0:Nat):Int)==(0:Int))then(bP [b] 1 {n with A:=IntKind.i64.wrap ((l5.length:Int)-1)} ⟨l5⟩)else(bP [b] 1 {n with B:=IntKind.i64.wrap ((l5.length:Int)-1)} ⟨l5⟩))=_
 rw [bH (by simp),bj,bq (by rfl)]
 exact ym _ h _ _ _
section
variable{l:al}{nx:Nat→(List (List Int))→Option ((List (List Int))×Int)}{i:Nat}{out:List (List Int)}
def zz(l:al)(nx:Nat→(List (List Int))→Option ((List (List Int))×Int))(i:Nat)(out:List (List Int)):Prop:= ∃ok0 R0 k o,oN l.n.Op l ()=some (ok0,{l with result:=R0})∧dU l.nodes nx i l.n out (ki l.n l.a_ l.b)=dg l.nodes nx i l.n out o k∧o=(jM l.n l.a_ l.b&&(ok0&&decide (R0.length≤16)))∧(o=true→k=R0∧Kd R0)
theorem QD(h:Lb l)(hop:Da l.n.Op=true)(ho:Cy l.n=true)(h0:lO l.n.Op=0→l.n.A= -1∧l.n.B= -1∧l.a_=[]∧l.b=[])(h1:lO l.n.Op=1→l.n.B= -1∧Kd l.a_∧l.b=[])(h2:lO l.n.Op=2→Kd l.a_∧Kd l.b):zz l nx i out:=by
 obtain⟨ok0,R0,e1,e2,e3⟩:=LA h hop
 have hop' :=qe hop
 have key: ∀(r:List Int×Bool),r=(if jM l.n l.a_ l.b then C9 l.n l.a_ l.b else([],false))→dU l.nodes nx i l.n out (ki l.n l.a_ l.b)=dg l.nodes nx i l.n out r.2 r.1→(jM l.n l.a_ l.b=true→K3 l.a_∧K3 l.b∧(l.n.Op≠1→1≤l.a_.length))→zz l nx i out:=by
  intro r hr hk h3
  refine⟨ok0,R0,r.1,r.2,e1,hk,?_,fun ho=>?_⟩
  ·rw [hr]
   cases hs:jM l.n l.a_ l.b with
   |false=>rfl
   |true=>rw [bq rfl,mZ];exact e2
  ·cases hs:jM l.n l.a_ l.b with
   |false=>rw [hr,hs,aW (by simp)]at ho;cases ho
   |true=>
    rw [hs,bq rfl]at hr
    rw [hr]at ho ⊢
    obtain⟨g1,g2,g3⟩:=e3 ho
    obtain⟨q1,q2,q3⟩:=h3 hs
    have:=Ps h.n hop q1 q2 h.a h.b q3 g2
    exact⟨g1,this.2,g3,fun x hx=>by have:=this.1 x hx;omega⟩
 have hk3:l.n.Op≠1→dU l.nodes nx i l.n out (ki l.n l.a_ l.b)=(du l.n (ki l.n l.a_ l.b)).bind fun r8=>dg l.nodes nx i l.n out r8.2 r8.1:=fun hn=>by
  unfold dU
  rw [aW (by simp;omega),aW (by simp;omega),aW (by simp;omega),aW (by simpa using hn)]
 have hs11:(l.n.Op==11)=false:=by simp;omega
 rcases tJ l.n.Op with hp|hp|hp|hp
 ·have hop1:l.n.Op=1:=by
   unfold lO at hp
   split at hp
   ·omega
   ·split at hp
    ·omega
    ·split at hp<;>omega
  obtain⟨hA,hB,ha,hb⟩:=h0 hp
  have hs:jM l.n l.a_ l.b=true:=by unfold jM;rw [ha,hb];simp
  refine key (C9 l.n [] []) (by rw [hs,bq rfl,ha,hb]) ?_ (fun _=>⟨by rw [ha];exact K3.nil,by rw [hb];exact K3.nil,fun h=>absurd hop1 h⟩)
  unfold dU
  rw [aW (by simp;omega),aW (by simp;omega),aW (by simp;omega),bq (by simp [hop1]),J2 h.n hop1 hA hB ho]
  rfl
 ·have hop1:l.n.Op≠1:=fun hc=>by rw [hc]at hp;exact absurd hp (by decide)
  have hop27: ¬(l.n.Op=2∨l.n.Op=7):=fun hc=>by rcases hc with hc|hc<;>(rw [hc]at hp;exact absurd hp (by decide))
  obtain⟨hB,hKa,hb⟩:=h1 hp
  have hparts:ki l.n l.a_ l.b=[l.a_]:=by unfold ki;rw [aW (by omega),bq hp]
  have hs:jM l.n l.a_ l.b= !(decide ((4:Int)∈l.a_)):=by unfold jM;rw [hs11,hb];simp
  by_cases h4:(4:Int)∈l.a_
  ·have hs' :jM l.n l.a_ l.b=false:=by rw [hs];simp [h4]
   refine key ([],false) (by rw [hs'];rfl) ?_ (fun h=>by rw [hs']at h;cases h)
   rw [hk3 hop1,hparts]
   unfold du
   rw [ym _ h4,bj]
  ·have hs' :jM l.n l.a_ l.b=true:=by rw [hs];simp [h4]
   refine key (C9 l.n l.a_ []) (by rw [hs',bq rfl,hb]) ?_ (fun _=>⟨hKa.k3 h4,by rw [hb];exact K3.nil,fun _=>hKa.pos⟩)
   rw [hk3 hop1,hparts,FU h.n hop hop1 hop27 hB ho hKa (hKa.k3 h4),bj]
 ·have hop1:l.n.Op≠1:=fun hc=>by rw [hc]at hp;exact absurd hp (by decide)
  have hop27:l.n.Op=2∨l.n.Op=7:=by
   unfold lO at hp
   split at hp
   ·omega
   ·split at hp
    ·omega
    ·split at hp<;>omega
  obtain⟨hKa,hKb⟩:=h2 hp
  have hparts:ki l.n l.a_ l.b=[l.a_,l.b]:=by unfold ki;rw [aW (by omega),aW (by omega)]
  have hs:jM l.n l.a_ l.b=(!(decide ((4:Int)∈l.a_))&& !(decide ((4:Int)∈l.b))):=by unfold jM;rw [hs11,vj]
  by_cases h4:(4:Int)∈l.a_
  ·have hs' :jM l.n l.a_ l.b=false:=by rw [hs];simp [h4]
   refine key ([],false) (by rw [hs'];rfl) ?_ (fun h=>by rw [hs']at h;cases h)
   rw [hk3 hop1,hparts]
   unfold du
   rw [ym _ h4,bj]
  ·by_cases h4b:(4:Int)∈l.b
   ·have hs' :jM l.n l.a_ l.b=false:=by rw [hs];simp [h4b]
    refine key ([],false) (by rw [hs'];rfl) ?_ (fun h=>by rw [hs']at h;cases h)
    rw [hk3 hop1,hparts,J3 _ (hKa.k3 h4) hKa.le h4b,bj]
   ·have hs' :jM l.n l.a_ l.b=true:=by rw [hs];simp [h4,h4b]
    refine key (C9 l.n l.a_ l.b) (by rw [hs',bq rfl]) ?_ (fun _=>⟨hKa.k3 h4,hKb.k3 h4b,fun _=>hKa.pos⟩)
    rw [hk3 hop1,hparts,Ly h.n hop27 ho hKa (hKa.k3 h4) hKb (hKb.k3 h4b),bj]
 ·exfalso
  unfold lO at hp
  split at hp
  ·omega
  ·split at hp
   ·omega
   ·split at hp<;>omega
theorem LV(hop:l.n.Op=9)(ha:l.a_=[])(hb:l.b=[]):zz l nx i out:=by
 refine⟨Gh l.n,l.n.Kinds,l.n.Kinds,Gh l.n,by rw [hop];exact HK l,?_,?_,fun h=>⟨rfl,LY h⟩⟩
 ·unfold dU
  rw [bq (by simp [hop]),Kj,bj]
 ·have hs:jM l.n l.a_ l.b=true:=by unfold jM;rw [ha,hb];simp
  rw [hs,mZ]
  cases h:Gh l.n with
  |false=>rfl
  |true=>have:=(LY h).le;simp [this]
theorem HI(h:Lb l)(hop:l.n.Op=10)(ho:Cy {l.n with Op:=4}=true)(hB:l.n.B= -1)(hKa:Kd l.a_)(hb:l.b=[]):zz l nx i out:=by
 have hparts:ki l.n l.a_ l.b=[l.a_]:=by unfold ki;rw [hop];rfl
 have hs:jM l.n l.a_ l.b= !(decide ((4:Int)∈l.a_)):=by unfold jM;rw [hop,hb];simp
 have hn4:jg {l.n with Op:=4}:=⟨h.n.cond,h.n.kinds,h.n.keys,h.n.aggs,h.n.items,h.n.order,h.n.args,h.n.exprs⟩
 have hk:=h.n.keys
 have hg:=h.n.aggs
 obtain⟨ok,R,o,k,g1,g2,g3,g4⟩:=BA h (n:={l.n with Op:=4}) rfl hn4 rfl rfl []
 -- what the code does
 have hcode: ∃R0,oN l.n.Op l ()=some (ok,{l with result:=R0})∧(ok=true→mH l.n R=some R0∧R0.length=R.length∧ ∀x∈R0,x∈R∨x=4):=by
  rw [hop]
  show∃R0,fb l=some (ok,{l with result:=R0})∧_
  unfold fb
  rw [g1,bj]
  cases ok with
  |false=>exact⟨R,rfl,fun h=>by cases h⟩
  |true=>
   obtain⟨_,hRl⟩:=g4 rfl
   obtain⟨R',q1,q2,q3,q4⟩:=zc (l:=l) (n:=l.n) rfl hk l.n.Aggs 0 R (by omega) (by omega)
   refine⟨R',q1,fun _=>⟨?_,q3,q4⟩⟩
   unfold mH
   rw [bH (by simp;omega),bj,lL]
   exact q2
 obtain⟨R0,c1,c2⟩:=hcode
 have hunf:dU l.nodes nx i l.n out (ki l.n l.a_ l.b)=(du {l.n with Op:=4} [l.a_]).bind fun r4=>if r4.2 then((mH l.n r4.1).bind fun r5=>dg l.nodes nx i l.n out r4.2 r5)else(dg l.nodes nx i l.n out r4.2 r4.1):=by
  unfold dU
  rw [aW (by simp [hop]),bq (by simp [hop]),hparts]
 by_cases h4:(4:Int)∈l.a_
 ·refine⟨ok,R0,[],false,c1,?_,by rw [hs];simp [h4],fun h=>by cases h⟩
  rw [hunf]
  unfold du
  rw [ym _ h4,bj,aW (by simp)]
 ·have hop1:du {l.n with Op:=4} [l.a_]=some (C9 {l.n with Op:=4} l.a_ []):=FU hn4 rfl (by show¬(4:Int)=1;decide) (by show¬((4:Int)=2∨(4:Int)=7);decide) hB ho hKa (hKa.k3 h4)
  have hopK:C9 {l.n with Op:=4} l.a_ []=if 16<k.length then([],false)else(k,o):=by unfold C9;rw [g2]
  rw [hop1,bj,hopK]at hunf
  cases ok with
  |false=>
   refine⟨false,R0,(if 16<k.length then([],false)else(k,o)).1,false,c1,?_,by simp,fun h=>by cases h⟩
   rw [hunf,←g3]
   split<;>rfl
  |true=>
   obtain⟨hRk,hRl⟩:=g4 rfl
   obtain⟨c3,c4,c5⟩:=c2 rfl
   rw [←g3,←hRk]at hunf
   by_cases hl:16<R.length
   ·rw [bq hl]at hunf
    refine⟨true,R0,[],false,c1,by rw [hunf];rfl,by rw [c4];simp;omega,fun h=>by cases h⟩
   ·rw [aW hl]at hunf
    refine⟨true,R0,R0,true,c1,?_,by rw [hs,c4];simp [h4];omega,fun _=>⟨rfl,?_⟩⟩
    ·rw [hunf]
     show(mH l.n R).bind _=_
     rw [c3,bj]
    ·have hr:=Ps (n:={l.n with Op:=4}) (b:=[]) hn4 rfl (hKa.k3 h4) (fun x hx=>by cases hx) h.a (by simp) (fun _=>hKa.pos) (by rw [g2,←g3])
     rw [←hRk]at hr
     refine⟨by omega,by omega,fun x hx=>?_⟩
     rcases c5 x hx with hx|rfl
     ·have:=hr.1 x hx;omega
     ·omega
theorem LW(h:Lb l)(hop:l.n.Op=11)(hKa:Kd l.a_){e:ap}(hA:gj l.nodes l.n.A=some e):zz l nx i out:=by
 have hparts:ki l.n l.a_ l.b=[l.a_]:=by unfold ki;rw [hop];rfl
 have hs:jM l.n l.a_ l.b=true:=by unfold jM;rw [hop];rfl
 have hk:=h.n.keys
 have hg:=h.n.aggs
 have ha:=hKa.le
 have hp:=hKa.pos
 have hunf:dU l.nodes nx i l.n out (ki l.n l.a_ l.b)=(nw l.n l.a_).bind fun r6=>(if r6.2 then(some (e.Op==(9:Int)))else some false).bind fun t1=>dg l.nodes nx i l.n out t1 r6.1:=by
  unfold dU
  rw [aW (by simp [hop]),aW (by simp [hop]),bq (by simp [hop]),hparts,hA]
  rfl
 have hask:oN l.n.Op l ()=eu l:=by rw [hop];rfl
 have hw:IntKind.i64.wrap ((l.n.Keys.length:Int)+(l.n.Aggs.length:Int))=((l.n.Keys.length+l.n.Aggs.length:Nat):Int):=by rw [eC (by omega) (by omega)];omega
 by_cases hc:(l.n.Keys.length≤3∧l.n.Aggs.length≤12)∧l.n.Keys.length+l.n.Aggs.length=l.a_.length
 ·-- what both come to, but for where it comes from
  have hfin:nw l.n l.a_=some (if xx l.a_ l.n.Keys 0&&(l.n.Aggs.zip (l.a_.drop l.n.Keys.length)).all (fun p=>(fk p.1 p.2).2)then(l.a_.take l.n.Keys.length++List.zipWith (fun g k=>(fk g k).1) l.n.Aggs (l.a_.drop l.n.Keys.length),true)else([],false)):=by
   unfold nw
   rw [hw,aW (by intro hh;simp only [zF,rl,wW,ss,ne_eq]at hh;omega)]
   have:=Gc (n:=l.n) (a:=l.a_) (by omega) (by omega) l.n.Keys 0 (va _)
   rw [List.take_zero]at this
   rw [this]
   cases hkb:xx l.a_ l.n.Keys 0 with
   |false=>rw [aW (by simp)];rfl
   |true=>rw [bq rfl,IY hk l.n.Aggs 0 _ (l.a_.drop l.n.Keys.length) (by simp;omega) rfl (by simp;omega) (by omega),mZ]
  by_cases h9:e.Op=9
  ·have hcode:eu l=some (xx l.a_ l.n.Keys 0&&(l.n.Aggs.zip (l.a_.drop l.n.Keys.length)).all (fun p=>(fk p.1 p.2).2),{l with result:=l.a_.take l.n.Keys.length++List.zipWith (fun g k=>(fk g k).1) l.n.Aggs (l.a_.drop l.n.Keys.length)}):=by
    unfold eu
    have hcond:((((e.Op==(9:Int))&&(decide ((l.n.Keys.length:Int)≤(3:Int))))&&(decide ((l.n.Aggs.length:Int)≤(12:Int))))&&((IntKind.i64.wrap ((l.n.Keys.length:Int)+(l.n.Aggs.length:Int)))==(l.a_.length:Int)))=true:=by
     rw [hw];simp [h9];omega
    rw [hA,bj,hcond,aW (by simp),uL _ (by omega),bj,Dk (by omega) l.a_ l.n.Keys 0 true (va _),mZ]
    have:=Gs (l:=l) hk l.n.Aggs 0 (xx l.a_ l.n.Keys 0) (l.a_.take l.n.Keys.length) (l.a_.drop l.n.Keys.length) (by simp;omega) (by simp;omega) rfl (by simp;omega)
    rw [tt]at this
    exact this
   have hRl:(l.a_.take l.n.Keys.length++List.zipWith (fun g k=>(fk g k).1) l.n.Aggs (l.a_.drop l.n.Keys.length)).length=l.a_.length:=by simp;omega
   refine⟨_,_,(if xx l.a_ l.n.Keys 0&&(l.n.Aggs.zip (l.a_.drop l.n.Keys.length)).all (fun p=>(fk p.1 p.2).2)then(l.a_.take l.n.Keys.length++List.zipWith (fun g k=>(fk g k).1) l.n.Aggs (l.a_.drop l.n.Keys.length),true)else([],false)).1,_,hask.trans hcode,?_,rfl,fun hv=>?_⟩
   ·rw [hunf,hfin,bj,hs,hRl]
    have e16:decide (l.a_.length≤16)=true:=by simpa using ha
    rw [e16]
    cases (xx l.a_ l.n.Keys 0&&(l.n.Aggs.zip (l.a_.drop l.n.Keys.length)).all (fun p=>(fk p.1 p.2).2))with
    |true=>simp [h9]
    |false=>simp
   ·rw [hs,mZ,gX]at hv
    rw [bq hv.1]
    refine⟨rfl,by omega,by omega,fun x hx=>?_⟩
    rcases yS.1 hx with hx|hx
    ·exact hKa.vals x (List.mem_of_mem_take hx)
    ·obtain⟨j,hj,hjx⟩:=List.getElem_of_mem hx
     rw [List.getElem_zipWith]at hjx
     have hm:(l.a_.drop l.n.Keys.length)[j]'(by simp at hj ⊢;omega)∈l.a_:=List.mem_of_mem_drop (CQ _)
     have:=hKa.vals _ hm
     rw [←hjx]
     unfold fk
     split
     ·exact this
     ·split
      ·omega
      ·split<;>exact this
  ·refine⟨false,l.result,(if xx l.a_ l.n.Keys 0&&(l.n.Aggs.zip (l.a_.drop l.n.Keys.length)).all (fun p=>(fk p.1 p.2).2)then(l.a_.take l.n.Keys.length++List.zipWith (fun g k=>(fk g k).1) l.n.Aggs (l.a_.drop l.n.Keys.length),true)else([],false)).1,false,hask.trans ?_,?_,by simp,fun h=>by cases h⟩
   ·unfold eu
    rw [hA,bj,bq (by simp [h9])]
   ·rw [hunf,hfin,bj]
    have:(e.Op==9)=false:=by simpa using h9
    rw [this]
    split<;>rfl
 ·refine⟨false,l.result,[],false,hask.trans ?_,?_,by simp,fun h=>by cases h⟩
  ·unfold eu
   have hcond:((((e.Op==(9:Int))&&(decide ((l.n.Keys.length:Int)≤(3:Int))))&&(decide ((l.n.Aggs.length:Int)≤(12:Int))))&&((IntKind.i64.wrap ((l.n.Keys.length:Int)+(l.n.Aggs.length:Int)))==(l.a_.length:Int)))=false:=by
    rw [hw,zI];intro hh;apply hc;simp at hh;omega
   rw [hA,bj,hcond,bq (by simp)]
  ·have:nw l.n l.a_=some ([],false):=by
    unfold nw
    rw [hw,bq (by
     cases hb:((((decide ((3:Int)<(l.n.Keys.length:Int)))||(decide ((12:Int)<(l.n.Aggs.length:Int))))||((((l.n.Keys.length+l.n.Aggs.length:Nat):Int)) !=(l.a_.length:Int)))||((l.a_.length:Int)==(0:Int)))with
     |true=>rfl
     |false=>exfalso;apply hc;simp at hb;omega)]
   rw [hunf,this]
   rfl
end
end Go.Proofs.YtdohlidddcgfjaaGreat

