/- di of this claim: Y14. -/
import Derived.Test.YtmogpgcfognefaaGreatDoorNdY13
set_option linter.all false
namespace Go.Proofs.YtmogpgcfognefaaGreatDoor
open Go

theorem CM(op:Int):tS op=some (kO op):=by
 by_cases h1:op=1
 ·subst h1;rfl
 by_cases h2:op=2
 ·subst h2;rfl
 by_cases h3:op=3
 ·subst h3;rfl
 by_cases h4:op=4
 ·subst h4;rfl
 by_cases h5:op=5
 ·subst h5;rfl
 by_cases h6:op=6
 ·subst h6;rfl
 by_cases h7:op=7
 ·subst h7;rfl
 by_cases h8:op=8
 ·subst h8;rfl
 by_cases h9:op=9
 ·subst h9;rfl
 by_cases h10:op=10
 ·subst h10;rfl
 by_cases h11:op=11
 ·subst h11;rfl
 simp [tS,qv,pU,oy,jL,kO,h1,h2,h3,h4,h5,h6,h7,h8,h9,h10,h11]
def Sz(ns:List aw)(j s:Nat):Prop:= ∀fu,j+1<fu→f8 fu ns (j:Int)=some (s:Int)
inductive NF(ns:List aw):List Int→Int→Prop
 |nil:NF ns [] (-1)
 |cons {rest:List Int} (j s:Nat):Sz ns j s→1≤s→s≤j+1→NF ns rest ((j:Int)-(s:Int))→NF ns ((j:Int)::rest) (j:Int)
theorem NF.neg{ns:List aw}{st:List Int}{p:Int}(h:NF ns st p)(hp:p<0):st=[]:=by
 cases h with
 |nil=>rfl
 |cons j s=>omega
theorem NF.pos{ns:List aw}{st:List Int}{p:Int}(h:NF ns st p)(hp:0≤p): ∃(j s:Nat) (rest:List Int),p=(j:Int)∧st=(j:Int)::rest∧Sz ns j s∧1≤s∧s≤j+1∧NF ns rest ((j:Int)-(s:Int)):=by
 cases h with
 |nil=>omega
 |cons j s h1 h2 h3 h4=>exact⟨j,s,_,rfl,rfl,h1,h2,h3,h4⟩
def Pl(e:aw)(st:List Int):Prop:=(kO e.Op=0∧e.A= -1∧e.B= -1)∨(kO e.Op=1∧e.B= -1∧ ∃rest,st=e.A::rest)∨(kO e.Op=2∧ ∃rest,st=e.B::e.A::rest)
theorem uW(op:Int):kO op=0∨kO op=1∨kO op=2∨kO op= -1:=by
 unfold kO
 split
 ·exact .inl rfl
 ·split
  ·exact .inr (.inr (.inl rfl))
  ·split
   ·exact .inr (.inl rfl)
   ·exact .inr (.inr (.inr rfl))
theorem FS{ns:List aw}{fu:Nat}(h:0<fu){p:Int}(hp:p<0):f8 fu ns p=some 0:=by
 obtain⟨fu,rfl⟩: ∃k,fu=k+1:=⟨fu-1,by omega⟩
 unfold f8
 rw [bQ (by simp [hp])]
theorem Ht{ns:List aw}{j:Nat}{n:aw}(hn:ns[j]? =some n)(hl:ns.length≤1000)(fu:Nat):f8 (fu+1) ns (j:Int)=
  if kO n.Op=0 then(if n.A= -1∧n.B= -1 then some 1 else some 0)
  else if kO n.Op=1 then(f8 fu ns ((j:Int)-1)).bind (fun r1=>if(n.A=(j:Int)-1∧n.B= -1)∧0<r1 then some (IntKind.i64.wrap (r1+(1:Int)))else some (0:Int))
  else if kO n.Op=2 then(f8 fu ns ((j:Int)-1)).bind (fun r2=>if(r2=0∨n.B≠(j:Int)-1)∨n.A≠IntKind.i64.wrap ((j:Int)-1-r2)then some 0 else((f8 fu ns n.A).bind fun r3=>if(decide ((0:Int)<r3))then(some (IntKind.i64.wrap ((IntKind.i64.wrap (r3+r2))+(1:Int))))else(some (0:Int))))
  else some 0:=by
 have hj:=(pc.1 hn).1
 conv=>lhs;unfold f8
 rw [bI (by simp;omega),cK,hn]
 simp only [bA,CM]
 rw [eS (n:=(j:Int)-1) (by omega) (by omega)]
 by_cases h0:kO n.Op=0
 ·simp only [h0,nt]
  rw [bQ (by decide)]
  by_cases hAB:n.A= -1∧n.B= -1
  ·rw [bQ hAB,bQ (by simp [hAB])]
  ·rw [bI hAB,bI (by simpa using hAB)]
 by_cases h1:kO n.Op=1
 ·simp only [h1,nt,bI (show¬(1:Int)=0 by decide)]
  rw [bI (by decide),bQ (by decide)]
  congr 1
  funext r1
  by_cases hc:(n.A=(j:Int)-1∧n.B= -1)∧0<r1
  ·rw [bQ hc,bQ (by simp [hc])]
  ·rw [bI hc,bI (by simpa using hc)]
 by_cases h2:kO n.Op=2
 ·simp only [h2,nt,bI (show¬(2:Int)=0 by decide),bI (show¬(2:Int)=1 by decide)]
  rw [bI (by decide),bI (by decide),bQ (by decide)]
  congr 1
  funext r2
  by_cases hc:(r2=0∨n.B≠(j:Int)-1)∨n.A≠IntKind.i64.wrap ((j:Int)-1-r2)
  ·rw [bQ hc,bQ (by simpa using hc)]
  ·rw [bI hc,bI (by simpa using hc)]
 ·have h3:kO n.Op= -1:=by have:=uW n.Op;omega
  simp only [h3]
  rfl
theorem Mi{ns:List aw}{st:List Int}{i:Nat}{e:aw}(hst:NF ns st ((i:Int)-1))(he:ns[i]? =some e)(hl:ns.length≤100): ∃s:Nat,Sz ns i s∧((s=0∧ ¬Pl e st)∨(1≤s∧s≤i+1∧Pl e st∧NF ns ((i:Int)::st.drop (kO e.Op).toNat) (i:Int))):=by
 have hi:=(pc.1 he).1
 have step:=Ht he (by omega)
 have sz: ∀{s:Nat},(∀fu,i<fu→f8 (fu+1) ns (i:Int)=some (s:Int))→Sz ns i s:=fun h fu hf=>by
  obtain⟨fu,rfl⟩: ∃k,fu=k+1:=⟨fu-1,by omega⟩
  exact h fu (by omega)
 rcases uW e.Op with h0|h0|h0|h0
 ·by_cases hAB:e.A= -1∧e.B= -1
  ·have hs:Sz ns i 1:=sz fun fu _=>by rw [step,bQ h0,bQ hAB];rfl
   refine⟨1,hs,.inr ⟨gB _,by omega,.inl ⟨h0,hAB⟩,?_⟩⟩
   rw [h0]
   exact .cons i 1 hs (gB _) (by omega) hst
  ·refine⟨0,sz fun fu _=>by rw [step,bQ h0,bI hAB];rfl,.inl ⟨rfl,fun hp=>?_⟩⟩
   rcases hp with h|h|h
   ·exact hAB h.2
   ·omega
   ·omega
 ·by_cases hz:i=0
  ·have:=hst.neg (by omega)
   subst this
   refine⟨0,sz fun fu hf=>by rw [step,bI (by omega),bQ h0,FS (by omega) (by omega),bA,bI (by omega)];rfl,.inl ⟨rfl,fun hp=>?_⟩⟩
   rcases hp with h|⟨_,_,r,h⟩|h
   ·omega
   ·cases h
   ·omega
  ·obtain⟨j,s,rest,hj,rfl,g1,g2,g3,g4⟩:=hst.pos (by omega)
   by_cases hA:e.A=(i:Int)-1∧e.B= -1
   ·have hs:Sz ns i (s+1):=sz fun fu hf=>by
     rw [step,bI (by omega),bQ h0,hj,g1 fu (by omega),bA,bQ ⟨by rw [←hj];exact hA,by omega⟩,eS (by omega) (by omega)];rfl
    refine⟨s+1,hs,.inr ⟨by omega,by omega,.inr (.inl ⟨h0,hA.2,rest,by rw [hA.1,hj]⟩),?_⟩⟩
    rw [h0]
    refine .cons i (s+1) hs (by omega) (by omega) ?_
    have:(i:Int)-((s+1:Nat):Int)=(j:Int)-(s:Int):=by omega
    rw [this]
    exact g4
   ·refine⟨0,sz fun fu hf=>by
     rw [step,bI (by omega),bQ h0,hj,g1 fu (by omega),bA,bI (fun h=>hA (by rw [hj];exact h.1))];rfl,.inl ⟨rfl,fun hp=>?_⟩⟩
    rcases hp with h|⟨_,hB,r,h⟩|h
    ·omega
    ·injection h with h _
     exact hA ⟨by omega,hB⟩
    ·omega
 ·by_cases hz:i=0
  ·have:=hst.neg (by omega)
   subst this
   refine⟨0,sz fun fu hf=>by rw [step,bI (by omega),bI (by omega),bQ h0,FS (by omega) (by omega),bA,bQ (.inl (.inl rfl))];rfl,.inl ⟨rfl,fun hp=>?_⟩⟩
   rcases hp with h|h|⟨_,r,h⟩
   ·omega
   ·omega
   ·cases h
  ·obtain⟨j,s,rest,hj,rfl,g1,g2,g3,g4⟩:=hst.pos (by omega)
   by_cases hAB:e.B=(i:Int)-1∧e.A=(j:Int)-(s:Int)
   ·have hw:IntKind.i64.wrap ((j:Int)-(s:Int))=(j:Int)-(s:Int):=eS (by omega) (by omega)
    by_cases hn:(j:Int)-(s:Int)<0
    ·have:=g4.neg hn
     subst this
     refine⟨0,sz fun fu hf=>by
      rw [step,bI (by omega),bI (by omega),bQ h0,hj,g1 fu (by omega),bA,hw,bI (by omega),FS (by omega) (by omega),bA,bI (by decide)];rfl,.inl ⟨rfl,fun hp=>?_⟩⟩
     rcases hp with h|h|⟨_,r,h⟩
     ·omega
     ·omega
     ·injection h with _ h;cases h
    ·obtain⟨j2,s2,rest2,hj2,rfl,k1,k2,k3,k4⟩:=g4.pos (by omega)
     have hs:Sz ns i (s2+s+1):=sz fun fu hf=>by
      rw [step,bI (by omega),bI (by omega),bQ h0,hj,g1 fu (by omega),bA,hw,bI (by omega),hAB.2,hj2,k1 fu (by omega),bA,bQ (by simp;omega),eS (n:=(s2:Int)+(s:Int)) (by omega) (by omega),eS (by omega) (by omega)];rfl
     refine⟨s2+s+1,hs,.inr ⟨by omega,by omega,.inr (.inr ⟨h0,rest2,by rw [hAB.1,hAB.2,hj,hj2]⟩),?_⟩⟩
     rw [h0]
     refine .cons i (s2+s+1) hs (by omega) (by omega) ?_
     have:(i:Int)-((s2+s+1:Nat):Int)=(j2:Int)-(s2:Int):=by omega
     rw [this]
     exact k4
   ·have hw:IntKind.i64.wrap ((j:Int)-(s:Int))=(j:Int)-(s:Int):=eS (by omega) (by omega)
    refine⟨0,sz fun fu hf=>by
     rw [step,bI (by omega),bI (by omega),bQ h0,hj,g1 fu (by omega),bA,hw,bQ (by omega)];rfl,.inl ⟨rfl,fun hp=>?_⟩⟩
    rcases hp with h|h|⟨_,r,h⟩
    ·omega
    ·omega
    ·injection h with e1 e2
     by_cases hn:(j:Int)-(s:Int)<0
     ·have:=g4.neg hn
      subst this
      cases e2
     ·obtain⟨j2,s2,rest2,hj2,rfl,_⟩:=g4.pos (by omega)
      injection e2 with e2 _
      exact hAB ⟨by omega,by omega⟩
 ·refine⟨0,sz fun fu _=>by rw [step,bI (by omega),bI (by omega),bI (by omega)];rfl,.inl ⟨rfl,fun hp=>?_⟩⟩
  rcases hp with h|h|h<;>omega
theorem K3.nil:K3 []:=fun x hx=>by cases hx
theorem ME{op:Int}(h:0≤kO op):EU op=true∨op=9∨op=10∨op=11:=by
 unfold kO at h
 simp only [EU,iz,oU]
 split at h
 ·omega
 ·split at h
  ·omega
  ·split at h
   ·omega
   ·omega
theorem On{l:aq}(h:Lb l)(hop:EU l.n.Op=true): ∃ok0 R0,pM l.n.Op l ()=some (ok0,{l with result:=R0})∧(ET l.n l.a_ l.b).2=(ok0&&decide (R0.length≤16))∧((ET l.n l.a_ l.b).2=true→(ET l.n l.a_ l.b).1=R0∧cX l.n l.a_ l.b=some (R0,true)∧R0.length≤16):=by
 obtain⟨ok,R,o,k,h1,h2,h3,h4⟩:=TL h hop
 refine⟨ok,R,h1,?_⟩
 have e:ET l.n l.a_ l.b=if 16<k.length then([],false)else(k,o):=by unfold ET;rw [h2]
 rw [e]
 by_cases hl:16<k.length
 ·rw [bQ hl]
  have:decide (k.length≤16)=false:=by simpa using hl
  rw [this,Bool.and_false]at h3
  exact⟨h3.symm,fun h=>by cases h⟩
 ·rw [bI hl]
  have:decide (k.length≤16)=true:=by simp;omega
  rw [this,Bool.and_true]at h3
  refine⟨h3.symm,fun ho=>?_⟩
  have ho:o=true:=ho
  subst ho
  have:=h4 h3
  subst this
  exact⟨rfl,h2,by omega⟩
def lC(e:aw)(a b:List Int):List (List Int):=if kO e.Op=0 then []else if kO e.Op=1 then [a]else [a,b]
def kM(e:aw)(a b:List Int):Bool:=(e.Op==11)||(!(decide ((4:Int)∈a))&& !(decide ((4:Int)∈b)))
theorem MD(n:aw){a b:List Int}(h3:K3 a)(hal:a.length≤16)(h:(4:Int)∈b):dH n [a,b]=some ([],false):=by
 unfold dH cd
 rw [vo,bA,bI (by simpa using h3.four),zh _ _ _ _ _ _ h3 (by show 0+a.length≤1000;omega)]
 unfold dJ
 show((ko ([]:List aw) [la,j6 0 a]).bind fun l5=>if(((0:Nat):Int)==(0:Int))then(cd [b] 1 {n with A:=IntKind.i64.wrap ((l5.length:Int)-1)} ⟨l5⟩)else(cd [b] 1 {n with B:=IntKind.i64.wrap ((l5.length:Int)-1)} ⟨l5⟩))=_
 rw [du (by simp),bA,bQ (by rfl)]
 exact zi _ h _ _ _
section
variable{l:aq}{nx:Nat→(List (List Int))→Option ((List (List Int))×Int)}{i:Nat}{out:List (List Int)}
def AN(l:aq)(nx:Nat→(List (List Int))→Option ((List (List Int))×Int))(i:Nat)(out:List (List Int)):Prop:= ∃ok0 R0 k o,pM l.n.Op l ()=some (ok0,{l with result:=R0})∧ec l.nodes nx i l.n out (lC l.n l.a_ l.b)=dx l.nodes nx i l.n out o k∧o=(kM l.n l.a_ l.b&&(ok0&&decide (R0.length≤16)))∧(o=true→k=R0∧Kd R0)
theorem TQ(h:Lb l)(hop:EU l.n.Op=true)(ho:Eh l.n=true)(h0:kO l.n.Op=0→l.n.A= -1∧l.n.B= -1∧l.a_=[]∧l.b=[])(h1:kO l.n.Op=1→l.n.B= -1∧Kd l.a_∧l.b=[])(h2:kO l.n.Op=2→Kd l.a_∧Kd l.b):AN l nx i out:=by
 obtain⟨ok0,R0,e1,e2,e3⟩:=On h hop
 have hop' :=q9 hop
 have key: ∀(r:List Int×Bool),r=(if kM l.n l.a_ l.b then ET l.n l.a_ l.b else([],false))→ec l.nodes nx i l.n out (lC l.n l.a_ l.b)=dx l.nodes nx i l.n out r.2 r.1→(kM l.n l.a_ l.b=true→K3 l.a_∧K3 l.b∧(l.n.Op≠1→1≤l.a_.length))→AN l nx i out:=by
  intro r hr hk h3
  refine⟨ok0,R0,r.1,r.2,e1,hk,?_,fun ho=>?_⟩
  ·rw [hr]
   cases hs:kM l.n l.a_ l.b with
   |false=>rfl
   |true=>rw [bQ rfl,nQ];exact e2
  ·cases hs:kM l.n l.a_ l.b with
   |false=>rw [hr,hs,bI (by simp)]at ho;cases ho
   |true=>
    rw [hs,bQ rfl]at hr
    rw [hr]at ho ⊢
    obtain⟨g1,g2,g3⟩:=e3 ho
    obtain⟨q1,q2,q3⟩:=h3 hs
    have:=SK h.n hop q1 q2 h.a h.b q3 g2
    exact⟨g1,this.2,g3,fun x hx=>by have:=this.1 x hx;omega⟩
 have hk3:l.n.Op≠1→ec l.nodes nx i l.n out (lC l.n l.a_ l.b)=(dH l.n (lC l.n l.a_ l.b)).bind fun r8=>dx l.nodes nx i l.n out r8.2 r8.1:=fun hn=>by
  unfold ec
  rw [bI (by simp;omega),bI (by simp;omega),bI (by simp;omega),bI (by simpa using hn)]
 have hs11:(l.n.Op==11)=false:=by simp;omega
 rcases uW l.n.Op with hp|hp|hp|hp
 ·have hop1:l.n.Op=1:=by
   unfold kO at hp
   split at hp
   ·omega
   ·split at hp
    ·omega
    ·split at hp<;>omega
  obtain⟨hA,hB,ha,hb⟩:=h0 hp
  have hs:kM l.n l.a_ l.b=true:=by unfold kM;rw [ha,hb];simp
  refine key (ET l.n [] []) (by rw [hs,bQ rfl,ha,hb]) ?_ (fun _=>⟨by rw [ha];exact K3.nil,by rw [hb];exact K3.nil,fun h=>absurd hop1 h⟩)
  unfold ec
  rw [bI (by simp;omega),bI (by simp;omega),bI (by simp;omega),bQ (by simp [hop1]),MC h.n hop1 hA hB ho]
  rfl
 ·have hop1:l.n.Op≠1:=fun hc=>by rw [hc]at hp;exact absurd hp (by decide)
  have hop27: ¬(l.n.Op=2∨l.n.Op=7):=fun hc=>by rcases hc with hc|hc<;>(rw [hc]at hp;exact absurd hp (by decide))
  obtain⟨hB,hKa,hb⟩:=h1 hp
  have hparts:lC l.n l.a_ l.b=[l.a_]:=by unfold lC;rw [bI (by omega),bQ hp]
  have hs:kM l.n l.a_ l.b= !(decide ((4:Int)∈l.a_)):=by unfold kM;rw [hs11,hb];simp
  by_cases h4:(4:Int)∈l.a_
  ·have hs' :kM l.n l.a_ l.b=false:=by rw [hs];simp [h4]
   refine key ([],false) (by rw [hs'];rfl) ?_ (fun h=>by rw [hs']at h;cases h)
   rw [hk3 hop1,hparts]
   unfold dH
   rw [zi _ h4,bA]
  ·have hs' :kM l.n l.a_ l.b=true:=by rw [hs];simp [h4]
   refine key (ET l.n l.a_ []) (by rw [hs',bQ rfl,hb]) ?_ (fun _=>⟨hKa.k3 h4,by rw [hb];exact K3.nil,fun _=>hKa.pos⟩)
   rw [hk3 hop1,hparts,HI h.n hop hop1 hop27 hB ho hKa (hKa.k3 h4),bA]
 ·have hop1:l.n.Op≠1:=fun hc=>by rw [hc]at hp;exact absurd hp (by decide)
  have hop27:l.n.Op=2∨l.n.Op=7:=by
   unfold kO at hp
   split at hp
   ·omega
   ·split at hp
    ·omega
    ·split at hp<;>omega
  obtain⟨hKa,hKb⟩:=h2 hp
  have hparts:lC l.n l.a_ l.b=[l.a_,l.b]:=by unfold lC;rw [bI (by omega),bI (by omega)]
  have hs:kM l.n l.a_ l.b=(!(decide ((4:Int)∈l.a_))&& !(decide ((4:Int)∈l.b))):=by unfold kM;rw [hs11,we]
  by_cases h4:(4:Int)∈l.a_
  ·have hs' :kM l.n l.a_ l.b=false:=by rw [hs];simp [h4]
   refine key ([],false) (by rw [hs'];rfl) ?_ (fun h=>by rw [hs']at h;cases h)
   rw [hk3 hop1,hparts]
   unfold dH
   rw [zi _ h4,bA]
  ·by_cases h4b:(4:Int)∈l.b
   ·have hs' :kM l.n l.a_ l.b=false:=by rw [hs];simp [h4b]
    refine key ([],false) (by rw [hs'];rfl) ?_ (fun h=>by rw [hs']at h;cases h)
    rw [hk3 hop1,hparts,MD _ (hKa.k3 h4) hKa.le h4b,bA]
   ·have hs' :kM l.n l.a_ l.b=true:=by rw [hs];simp [h4,h4b]
    refine key (ET l.n l.a_ l.b) (by rw [hs',bQ rfl]) ?_ (fun _=>⟨hKa.k3 h4,hKb.k3 h4b,fun _=>hKa.pos⟩)
    rw [hk3 hop1,hparts,Ok h.n hop27 ho hKa (hKa.k3 h4) hKb (hKb.k3 h4b),bA]
 ·exfalso
  unfold kO at hp
  split at hp
  ·omega
  ·split at hp
   ·omega
   ·split at hp<;>omega
theorem OC(hop:l.n.Op=9)(ha:l.a_=[])(hb:l.b=[]):AN l nx i out:=by
 refine⟨H2 l.n,l.n.Kinds,l.n.Kinds,H2 l.n,by rw [hop];exact JK l,?_,?_,fun h=>⟨rfl,OG h⟩⟩
 ·unfold ec
  rw [bQ (by simp [hop]),MY,bA]
 ·have hs:kM l.n l.a_ l.b=true:=by unfold kM;rw [ha,hb];simp
  rw [hs,nQ]
  cases h:H2 l.n with
  |false=>rfl
  |true=>have:=(OG h).le;simp [this]
theorem JI(h:Lb l)(hop:l.n.Op=10)(ho:Eh {l.n with Op:=4}=true)(hB:l.n.B= -1)(hKa:Kd l.a_)(hb:l.b=[]):AN l nx i out:=by
 have hparts:lC l.n l.a_ l.b=[l.a_]:=by unfold lC;rw [hop];rfl
 have hs:kM l.n l.a_ l.b= !(decide ((4:Int)∈l.a_)):=by unfold kM;rw [hop,hb];simp
 have hn4:jX {l.n with Op:=4}:=⟨h.n.cond,h.n.kinds,h.n.keys,h.n.aggs,h.n.items,h.n.order,h.n.args,h.n.exprs⟩
 have hk:=h.n.keys
 have hg:=h.n.aggs
 obtain⟨ok,R,o,k,g1,g2,g3,g4⟩:=Db h (n:={l.n with Op:=4}) rfl hn4 rfl rfl []
 -- what the code does
 have hcode: ∃R0,pM l.n.Op l ()=some (ok,{l with result:=R0})∧(ok=true→nC l.n R=some R0∧R0.length=R.length∧ ∀x∈R0,x∈R∨x=4):=by
  rw [hop]
  show∃R0,gT l=some (ok,{l with result:=R0})∧_
  unfold gT
  rw [g1,bA]
  cases ok with
  |false=>exact⟨R,rfl,fun h=>by cases h⟩
  |true=>
   obtain⟨_,hRl⟩:=g4 rfl
   obtain⟨R',q1,q2,q3,q4⟩:=Av (l:=l) (n:=l.n) rfl hk l.n.Aggs 0 R (by omega) (by omega)
   refine⟨R',q1,fun _=>⟨?_,q3,q4⟩⟩
   unfold nC
   rw [du (by simp;omega),bA,nv]
   exact q2
 obtain⟨R0,c1,c2⟩:=hcode
 have hunf:ec l.nodes nx i l.n out (lC l.n l.a_ l.b)=(dH {l.n with Op:=4} [l.a_]).bind fun r4=>if r4.2 then((nC l.n r4.1).bind fun r5=>dx l.nodes nx i l.n out r4.2 r5)else(dx l.nodes nx i l.n out r4.2 r4.1):=by
  unfold ec
  rw [bI (by simp [hop]),bQ (by simp [hop]),hparts]
 by_cases h4:(4:Int)∈l.a_
 ·refine⟨ok,R0,[],false,c1,?_,by rw [hs];simp [h4],fun h=>by cases h⟩
  rw [hunf]
  unfold dH
  rw [zi _ h4,bA,bI (by simp)]
 ·have hop1:dH {l.n with Op:=4} [l.a_]=some (ET {l.n with Op:=4} l.a_ []):=HI hn4 rfl (by show¬(4:Int)=1;decide) (by show¬((4:Int)=2∨(4:Int)=7);decide) hB ho hKa (hKa.k3 h4)
  have hopK:ET {l.n with Op:=4} l.a_ []=if 16<k.length then([],false)else(k,o):=by unfold ET;rw [g2]
  rw [hop1,bA,hopK]at hunf
  cases ok with
  |false=>
   refine⟨false,R0,(if 16<k.length then([],false)else(k,o)).1,false,c1,?_,by simp,fun h=>by cases h⟩
   rw [hunf,←g3]
   split<;>rfl
  |true=>
   obtain⟨hRk,hRl⟩:=g4 rfl
   obtain⟨c3,c4,c5⟩:=c2 rfl
   rw [←g3,←hRk]at hunf
   by_cases hl:16<R.length
   ·rw [bQ hl]at hunf
    refine⟨true,R0,[],false,c1,by rw [hunf];rfl,by rw [c4];simp;omega,fun h=>by cases h⟩
   ·rw [bI hl]at hunf
    refine⟨true,R0,R0,true,c1,?_,by rw [hs,c4];simp [h4];omega,fun _=>⟨rfl,?_⟩⟩
    ·rw [hunf]
     show(nC l.n R).bind _=_
     rw [c3,bA]
    ·have hr:=SK (n:={l.n with Op:=4}) (b:=[]) hn4 rfl (hKa.k3 h4) (fun x hx=>by cases hx) h.a (by simp) (fun _=>hKa.pos) (by rw [g2,←g3])
     rw [←hRk]at hr
     refine⟨by omega,by omega,fun x hx=>?_⟩
     rcases c5 x hx with hx|rfl
     ·have:=hr.1 x hx;omega
     ·omega
theorem OD(h:Lb l)(hop:l.n.Op=11)(hKa:Kd l.a_){e:aw}(hA:dC l.nodes l.n.A=some e):AN l nx i out:=by
 have hparts:lC l.n l.a_ l.b=[l.a_]:=by unfold lC;rw [hop];rfl
 have hs:kM l.n l.a_ l.b=true:=by unfold kM;rw [hop];rfl
 have hk:=h.n.keys
 have hg:=h.n.aggs
 have ha:=hKa.le
 have hp:=hKa.pos
 have hunf:ec l.nodes nx i l.n out (lC l.n l.a_ l.b)=(ot l.n l.a_).bind fun r6=>(if r6.2 then(some (e.Op==(9:Int)))else some false).bind fun t1=>dx l.nodes nx i l.n out t1 r6.1:=by
  unfold ec
  rw [bI (by simp [hop]),bI (by simp [hop]),bQ (by simp [hop]),hparts,hA]
  rfl
 have hask:pM l.n.Op l ()=fL l:=by rw [hop];rfl
 have hw:IntKind.i64.wrap ((l.n.Keys.length:Int)+(l.n.Aggs.length:Int))=((l.n.Keys.length+l.n.Aggs.length:Nat):Int):=by rw [eS (by omega) (by omega)];omega
 by_cases hc:(l.n.Keys.length≤3∧l.n.Aggs.length≤12)∧l.n.Keys.length+l.n.Aggs.length=l.a_.length
 ·-- what both come to, but for where it comes from
  have hfin:ot l.n l.a_=some (if yx l.a_ l.n.Keys 0&&(l.n.Aggs.zip (l.a_.drop l.n.Keys.length)).all (fun p=>(fk p.1 p.2).2)then(l.a_.take l.n.Keys.length++List.zipWith (fun g k=>(fk g k).1) l.n.Aggs (l.a_.drop l.n.Keys.length),true)else([],false)):=by
   unfold ot
   rw [hw,bI (by intro hh;simp only [z7,oU,wn,uM,ne_eq]at hh;omega)]
   have:=HX (n:=l.n) (a:=l.a_) (by omega) (by omega) l.n.Keys 0 (pj _)
   rw [List.take_zero]at this
   rw [this]
   cases hkb:yx l.a_ l.n.Keys 0 with
   |false=>rw [bI (by simp)];rfl
   |true=>rw [bQ rfl,Lc hk l.n.Aggs 0 _ (l.a_.drop l.n.Keys.length) (by simp;omega) rfl (by simp;omega) (by omega),nQ]
  by_cases h9:e.Op=9
  ·have hcode:fL l=some (yx l.a_ l.n.Keys 0&&(l.n.Aggs.zip (l.a_.drop l.n.Keys.length)).all (fun p=>(fk p.1 p.2).2),{l with result:=l.a_.take l.n.Keys.length++List.zipWith (fun g k=>(fk g k).1) l.n.Aggs (l.a_.drop l.n.Keys.length)}):=by
    unfold fL
    have hcond:((((e.Op==(9:Int))&&(decide ((l.n.Keys.length:Int)≤(3:Int))))&&(decide ((l.n.Aggs.length:Int)≤(12:Int))))&&((IntKind.i64.wrap ((l.n.Keys.length:Int)+(l.n.Aggs.length:Int)))==(l.a_.length:Int)))=true:=by
     rw [hw];simp [h9];omega
    rw [hA,bA,hcond,bI (by simp),nr _ (by omega),bA,E3 (by omega) l.a_ l.n.Keys 0 true (pj _),nQ]
    have:=If (l:=l) hk l.n.Aggs 0 (yx l.a_ l.n.Keys 0) (l.a_.take l.n.Keys.length) (l.a_.drop l.n.Keys.length) (by simp;omega) (by simp;omega) rfl (by simp;omega)
    rw [sS]at this
    exact this
   have hRl:(l.a_.take l.n.Keys.length++List.zipWith (fun g k=>(fk g k).1) l.n.Aggs (l.a_.drop l.n.Keys.length)).length=l.a_.length:=by simp;omega
   refine⟨_,_,(if yx l.a_ l.n.Keys 0&&(l.n.Aggs.zip (l.a_.drop l.n.Keys.length)).all (fun p=>(fk p.1 p.2).2)then(l.a_.take l.n.Keys.length++List.zipWith (fun g k=>(fk g k).1) l.n.Aggs (l.a_.drop l.n.Keys.length),true)else([],false)).1,_,hask.trans hcode,?_,rfl,fun hv=>?_⟩
   ·rw [hunf,hfin,bA,hs,hRl]
    have e16:decide (l.a_.length≤16)=true:=by simpa using ha
    rw [e16]
    cases (yx l.a_ l.n.Keys 0&&(l.n.Aggs.zip (l.a_.drop l.n.Keys.length)).all (fun p=>(fk p.1 p.2).2))with
    |true=>simp [h9]
    |false=>simp
   ·rw [hs,nQ,iz]at hv
    rw [bQ hv.1]
    refine⟨rfl,by omega,by omega,fun x hx=>?_⟩
    rcases yJ.1 hx with hx|hx
    ·exact hKa.vals x (List.mem_of_mem_take hx)
    ·obtain⟨j,hj,hjx⟩:=List.getElem_of_mem hx
     rw [List.getElem_zipWith]at hjx
     have hm:(l.a_.drop l.n.Keys.length)[j]'(by simp at hj ⊢;omega)∈l.a_:=List.mem_of_mem_drop (yS _)
     have:=hKa.vals _ hm
     rw [←hjx]
     unfold fk
     split
     ·exact this
     ·split
      ·omega
      ·split<;>exact this
  ·refine⟨false,l.result,(if yx l.a_ l.n.Keys 0&&(l.n.Aggs.zip (l.a_.drop l.n.Keys.length)).all (fun p=>(fk p.1 p.2).2)then(l.a_.take l.n.Keys.length++List.zipWith (fun g k=>(fk g k).1) l.n.Aggs (l.a_.drop l.n.Keys.length),true)else([],false)).1,false,hask.trans ?_,?_,by simp,fun h=>by cases h⟩
   ·unfold fL
    rw [hA,bA,bQ (by simp [h9])]
   ·rw [hunf,hfin,bA]
    have:(e.Op==9)=false:=by simpa using h9
    rw [this]
    split<;>rfl
 ·refine⟨false,l.result,[],false,hask.trans ?_,?_,by simp,fun h=>by cases h⟩
  ·unfold fL
   have hcond:((((e.Op==(9:Int))&&(decide ((l.n.Keys.length:Int)≤(3:Int))))&&(decide ((l.n.Aggs.length:Int)≤(12:Int))))&&((IntKind.i64.wrap ((l.n.Keys.length:Int)+(l.n.Aggs.length:Int)))==(l.a_.length:Int)))=false:=by
    rw [hw,Ci];intro hh;apply hc;simp at hh;omega
   rw [hA,bA,hcond,bQ (by simp)]
  ·have:ot l.n l.a_=some ([],false):=by
    unfold ot
    rw [hw,bQ (by
     cases hb:((((decide ((3:Int)<(l.n.Keys.length:Int)))||(decide ((12:Int)<(l.n.Aggs.length:Int))))||((((l.n.Keys.length+l.n.Aggs.length:Nat):Int)) !=(l.a_.length:Int)))||((l.a_.length:Int)==(0:Int)))with
     |true=>rfl
     |false=>exfalso;apply hc;simp at hb;omega)]
   rw [hunf,this]
   rfl
end
end Go.Proofs.YtmogpgcfognefaaGreatDoor

