/- bR of this claim: Y14. -/
import Derived.Test.YtdohlidddcgfjaaGreatFbY13
set_option linter.all false
namespace Go.Proofs.YtdohlidddcgfjaaGreat
open Go

def A9(op:Int):uN op=some (lw op):=by
 by_cases Y:op=1
 ·subst Y;rfl
 by_cases H:op=2
 ·subst H;rfl
 by_cases Q:op=3
 ·subst Q;rfl
 by_cases h4:op=4
 ·subst h4;rfl
 by_cases h5:op=5
 ·subst h5;rfl
 by_cases h6:op=6
 ·subst h6;rfl
 by_cases h7:op=7
 ·subst h7;rfl
 by_cases h8:op=8
 ·subst h8;rfl
 by_cases h9:op=9
 ·subst h9;rfl
 by_cases h10:op=10
 ·subst h10;rfl
 by_cases h11:op=11
 ·subst h11;rfl
 simp [uN,qV,pP,oL,jI,lw,Y,H,Q,h4,h5,h6,h7,h8,h9,h10,h11]
def Sz(ns:List aa)(j ae:Nat):Prop:= ∀fu,j+1<fu->fy fu ns (j:Int)=some (ae:Int)
inductive LL(ns:List aa):List Int->Int->Prop
 |nil:LL ns [] (-1)
 |cons {rest:List Int} (j ae:Nat):Sz ns j ae->1<=ae->ae<=j+1->LL ns rest ((j:Int)-(ae:Int))->LL ns ((j:Int)::rest) (j:Int)
def LL.neg{ns:List aa}{st:List Int}{p:Int}(h:LL ns st p)(hp:p<0):st=[]:=by
 cases h with
 |nil=>rfl
 |cons j ae=>omega
def LL.pos{ns:List aa}{st:List Int}{p:Int}(h:LL ns st p)(hp:0<=p): ∃(j ae:Nat) (rest:List Int),p=(j:Int)/\st=(j:Int)::rest/\Sz ns j ae/\1<=ae/\ae<=j+1/\LL ns rest ((j:Int)-(ae:Int)):=by
 cases h with
 |nil=>omega
 |cons j ae Y H Q h4=>exact⟨j,ae,_,rfl,rfl,Y,H,Q,h4⟩
def SY(e:aa)(st:List Int):Prop:=(lw e.Op=0/\e.A= -1/\e.B= -1)\/(lw e.Op=1/\e.B= -1/\ ∃rest,st=e.A::rest)\/(lw e.Op=2/\ ∃rest,st=e.B::e.A::rest)
def sN(op:Int):lw op=0\/lw op=1\/lw op=2\/lw op= -1:=by
 unfold lw
 split
 ·exact .inl rfl
 ·split
  ·exact .inr (.inr (.inl rfl))
  ·split
   ·exact .inr (.inl rfl)
   ·exact .inr (.inr (.inr rfl))
def El{ns:List aa}{fu:Nat}(h:0<fu){p:Int}(hp:p<0):fy fu ns p=some 0:=by
 obtain⟨fu,rfl⟩: ∃k,fu=k+1:=⟨fu-1,by omega⟩
 unfold fy
 rw [bu (by simp [hp])]
def FN{ns:List aa}{j:Nat}{n:aa}(hn:ns[j]? =some n)(hl:ns.length<=1000)(fu:Nat):fy (fu+1) ns (j:Int)=
  if lw n.Op=0 then(if n.A= -1/\n.B= -1 then some 1 else some 0)
  else if lw n.Op=1 then(fy fu ns ((j:Int)-1)).bind (fun r1=>if(n.A=(j:Int)-1/\n.B= -1)/\0<r1 then some (IntKind.i64.wrap (r1+(1:Int)))else some (0:Int))
  else if lw n.Op=2 then(fy fu ns ((j:Int)-1)).bind (fun r2=>if(r2=0\/n.B≠(j:Int)-1)\/n.A≠IntKind.i64.wrap ((j:Int)-1-r2)then some 0 else((fy fu ns n.A).bind fun r3=>if(decide ((0:Int)<r3))then(some (IntKind.i64.wrap ((IntKind.i64.wrap (r3+r2))+(1:Int))))else(some (0:Int))))
  else some 0:=by
 have hj:=(pZ.1 hn).1
 conv=>lhs;unfold fy
 rw [aZ (by simp;omega),eZ,hn]
 simp only [br,A9]
 rw [d7 (n:=(j:Int)-1) (by omega) (by omega)]
 by_cases h0:lw n.Op=0
 ·simp only [h0,jY]
  rw [bu (by decide)]
  by_cases hAB:n.A= -1/\n.B= -1
  ·rw [bu hAB,bu (by simp [hAB])]
  ·rw [aZ hAB,aZ (by simpa using hAB)]
 by_cases Y:lw n.Op=1
 ·simp only [Y,jY,aZ (show¬(1:Int)=0 by decide)]
  rw [aZ (by decide),bu (by decide)]
  congr 1
  funext r1
  by_cases hc:(n.A=(j:Int)-1/\n.B= -1)/\0<r1
  ·rw [bu hc,bu (by simp [hc])]
  ·rw [aZ hc,aZ (by simpa using hc)]
 by_cases H:lw n.Op=2
 ·simp only [H,jY,aZ (show¬(2:Int)=0 by decide),aZ (show¬(2:Int)=1 by decide)]
  rw [aZ (by decide),aZ (by decide),bu (by decide)]
  congr 1
  funext r2
  by_cases hc:(r2=0\/n.B≠(j:Int)-1)\/n.A≠IntKind.i64.wrap ((j:Int)-1-r2)
  ·rw [bu hc,bu (by simpa using hc)]
  ·rw [aZ hc,aZ (by simpa using hc)]
 ·have Q:lw n.Op= -1:=by have:=sN n.Op;omega
  simp only [Q]
  rfl
def KB{ns:List aa}{st:List Int}{i:Nat}{e:aa}(hst:LL ns st ((i:Int)-1))(he:ns[i]? =some e)(hl:ns.length<=100): ∃ae:Nat,Sz ns i ae/\((ae=0/\ ¬SY e st)\/(1<=ae/\ae<=i+1/\SY e st/\LL ns ((i:Int)::st.drop (lw e.Op).toNat) (i:Int))):=by
 have hi:=(pZ.1 he).1
 have step:=FN he (by omega)
 have sz: ∀{ae:Nat},(∀fu,i<fu->fy (fu+1) ns (i:Int)=some (ae:Int))->Sz ns i ae:=fun h fu hf=>by
  obtain⟨fu,rfl⟩: ∃k,fu=k+1:=⟨fu-1,by omega⟩
  exact h fu (by omega)
 rcases sN e.Op with h0|h0|h0|h0
 ·by_cases hAB:e.A= -1/\e.B= -1
  ·have hs:Sz ns i 1:=sz fun fu _=>by rw [step,bu h0,bu hAB];rfl
   refine⟨1,hs,.inr ⟨jW _,by omega,.inl ⟨h0,hAB⟩,?_⟩⟩
   rw [h0]
   exact .cons i 1 hs (jW _) (by omega) hst
  ·refine⟨0,sz fun fu _=>by rw [step,bu h0,aZ hAB];rfl,.inl ⟨rfl,fun hp=>?_⟩⟩
   rcases hp with h|h|h
   ·exact hAB h.2
   ·omega
   ·omega
 ·by_cases hz:i=0
  ·have:=hst.neg (by omega)
   subst this
   refine⟨0,sz fun fu hf=>by rw [step,aZ (by omega),bu h0,El (by omega) (by omega),br,aZ (by omega)];rfl,.inl ⟨rfl,fun hp=>?_⟩⟩
   rcases hp with h|⟨_,_,r,h⟩|h
   ·omega
   ·cases h
   ·omega
  ·obtain⟨j,ae,rest,hj,rfl,g1,g2,g3,g4⟩:=hst.pos (by omega)
   by_cases hA:e.A=(i:Int)-1/\e.B= -1
   ·have hs:Sz ns i (ae+1):=sz fun fu hf=>by
     rw [step,aZ (by omega),bu h0,hj,g1 fu (by omega),br,bu ⟨by rw [<-hj];exact hA,by omega⟩,d7 (by omega) (by omega)];rfl
    refine⟨ae+1,hs,.inr ⟨by omega,by omega,.inr (.inl ⟨h0,hA.2,rest,by rw [hA.1,hj]⟩),?_⟩⟩
    rw [h0]
    refine .cons i (ae+1) hs (by omega) (by omega) ?_
    have:(i:Int)-((ae+1:Nat):Int)=(j:Int)-(ae:Int):=by omega
    rw [this]
    exact g4
   ·refine⟨0,sz fun fu hf=>by
     rw [step,aZ (by omega),bu h0,hj,g1 fu (by omega),br,aZ (fun h=>hA (by rw [hj];exact h.1))];rfl,.inl ⟨rfl,fun hp=>?_⟩⟩
    rcases hp with h|⟨_,hB,r,h⟩|h
    ·omega
    ·injection h with h _
     exact hA ⟨by omega,hB⟩
    ·omega
 ·by_cases hz:i=0
  ·have:=hst.neg (by omega)
   subst this
   refine⟨0,sz fun fu hf=>by rw [step,aZ (by omega),aZ (by omega),bu h0,El (by omega) (by omega),br,bu (.inl (.inl rfl))];rfl,.inl ⟨rfl,fun hp=>?_⟩⟩
   rcases hp with h|h|⟨_,r,h⟩
   ·omega
   ·omega
   ·cases h
  ·obtain⟨j,ae,rest,hj,rfl,g1,g2,g3,g4⟩:=hst.pos (by omega)
   by_cases hAB:e.B=(i:Int)-1/\e.A=(j:Int)-(ae:Int)
   ·have hw:IntKind.i64.wrap ((j:Int)-(ae:Int))=(j:Int)-(ae:Int):=d7 (by omega) (by omega)
    by_cases hn:(j:Int)-(ae:Int)<0
    ·have:=g4.neg hn
     subst this
     refine⟨0,sz fun fu hf=>by
      rw [step,aZ (by omega),aZ (by omega),bu h0,hj,g1 fu (by omega),br,hw,aZ (by omega),El (by omega) (by omega),br,aZ (by decide)];rfl,.inl ⟨rfl,fun hp=>?_⟩⟩
     rcases hp with h|h|⟨_,r,h⟩
     ·omega
     ·omega
     ·injection h with _ h;cases h
    ·obtain⟨j2,s2,rest2,hj2,rfl,k1,k2,k3,k4⟩:=g4.pos (by omega)
     have hs:Sz ns i (s2+ae+1):=sz fun fu hf=>by
      rw [step,aZ (by omega),aZ (by omega),bu h0,hj,g1 fu (by omega),br,hw,aZ (by omega),hAB.2,hj2,k1 fu (by omega),br,bu (by simp;omega),d7 (n:=(s2:Int)+(ae:Int)) (by omega) (by omega),d7 (by omega) (by omega)];rfl
     refine⟨s2+ae+1,hs,.inr ⟨by omega,by omega,.inr (.inr ⟨h0,rest2,by rw [hAB.1,hAB.2,hj,hj2]⟩),?_⟩⟩
     rw [h0]
     refine .cons i (s2+ae+1) hs (by omega) (by omega) ?_
     have:(i:Int)-((s2+ae+1:Nat):Int)=(j2:Int)-(s2:Int):=by omega
     rw [this]
     exact k4
   ·have hw:IntKind.i64.wrap ((j:Int)-(ae:Int))=(j:Int)-(ae:Int):=d7 (by omega) (by omega)
    refine⟨0,sz fun fu hf=>by
     rw [step,aZ (by omega),aZ (by omega),bu h0,hj,g1 fu (by omega),br,hw,bu (by omega)];rfl,.inl ⟨rfl,fun hp=>?_⟩⟩
    rcases hp with h|h|⟨_,r,h⟩
    ·omega
    ·omega
    ·injection h with e1 e2
     by_cases hn:(j:Int)-(ae:Int)<0
     ·have:=g4.neg hn
      subst this
      cases e2
     ·obtain⟨j2,s2,rest2,hj2,rfl,_⟩:=g4.pos (by omega)
      injection e2 with e2 _
      exact hAB ⟨by omega,by omega⟩
 ·refine⟨0,sz fun fu _=>by rw [step,aZ (by omega),aZ (by omega),aZ (by omega)];rfl,.inl ⟨rfl,fun hp=>?_⟩⟩
  rcases hp with h|h|h<;>omega
def K3.nil:K3 []:=fun x V=>by cases V
def KW{op:Int}(h:0<=lw op):Du op=true\/op=9\/op=10\/op=11:=by
 unfold lw at h
 simp only [Du,iO,o9]
 split at h
 ·omega
 ·split at h
  ·omega
  ·split at h
   ·omega
   ·omega
def Mz{l:ai}(h:Lb l)(hop:Du l.n.Op=true): ∃ok0 R0,nF l.n.Op l ()=some (ok0,{l with result:=R0})/\(Dt l.n l.a_ l.b).2=(ok0&&decide (R0.length<=16))/\((Dt l.n l.a_ l.b).2=true->(Dt l.n l.a_ l.b).1=R0/\cn l.n l.a_ l.b=some (R0,true)/\R0.length<=16):=by
 obtain⟨ok,R,o,k,Y,H,Q,h4⟩:=Rt h hop
 refine⟨ok,R,Y,?_⟩
 have e:Dt l.n l.a_ l.b=if 16<k.length then([],false)else(k,o):=by unfold Dt;rw [H]
 rw [e]
 by_cases hl:16<k.length
 ·rw [bu hl]
  have:decide (k.length<=16)=false:=by simpa using hl
  rw [this,Bool.and_false]at Q
  exact⟨Q.symm,fun h=>by cases h⟩
 ·rw [aZ hl]
  have:decide (k.length<=16)=true:=by simp;omega
  rw [this,Bool.and_true]at Q
  refine⟨Q.symm,fun ho=>?_⟩
  have ho:o=true:=ho
  subst ho
  have:=h4 Q
  subst this
  exact⟨rfl,H,by omega⟩
def jS(e:aa)(a b:List Int):List (List Int):=if lw e.Op=0 then []else if lw e.Op=1 then [a]else [a,b]
def jt(e:aa)(a b:List Int):Bool:=(e.Op==11)||(!(decide ((4:Int)∈a))&& !(decide ((4:Int)∈b)))
def KV(n:aa){a b:List Int}(Q:K3 a)(hal:a.length<=16)(h:(4:Int)∈b):cZ n [a,b]=some ([],false):=by
 unfold cZ bL
 rw [vz,br,aZ (by simpa using Q.four),xL _ _ _ _ _ _ Q (by show 0+a.length<=1000;omega)]
 unfold dp
 show((jb ([]:List aa) [jE,iQ 0 a]).bind fun l5=>if(((0:Nat):Int)==(0:Int))then(bL [b] 1 {n with A:=IntKind.i64.wrap ((l5.length:Int)-1)} ⟨l5⟩)else(bL [b] 1 {n with B:=IntKind.i64.wrap ((l5.length:Int)-1)} ⟨l5⟩))=_
 rw [cy (by simp),br,bu (by rfl)]
 exact xM _ h _ _ _
section
variable{l:ai}{nx:Nat->(List (List Int))->Option ((List (List Int))×Int)}{i:Nat}{out:List (List Int)}
def zq(l:ai)(nx:Nat->(List (List Int))->Option ((List (List Int))×Int))(i:Nat)(out:List (List Int)):Prop:= ∃ok0 R0 k o,nF l.n.Op l ()=some (ok0,{l with result:=R0})/\dr l.nodes nx i l.n out (jS l.n l.a_ l.b)=cR l.nodes nx i l.n out o k/\o=(jt l.n l.a_ l.b&&(ok0&&decide (R0.length<=16)))/\(o=true->k=R0/\Kd R0)
def Rx(h:Lb l)(hop:Du l.n.Op=true)(ho:CD l.n=true)(h0:lw l.n.Op=0->l.n.A= -1/\l.n.B= -1/\l.a_=[]/\l.b=[])(Y:lw l.n.Op=1->l.n.B= -1/\Kd l.a_/\l.b=[])(H:lw l.n.Op=2->Kd l.a_/\Kd l.b):zq l nx i out:=by
 obtain⟨ok0,R0,e1,e2,e3⟩:=Mz h hop
 have hop' :=ph hop
 have key: ∀(r:List Int×Bool),r=(if jt l.n l.a_ l.b then Dt l.n l.a_ l.b else([],false))->dr l.nodes nx i l.n out (jS l.n l.a_ l.b)=cR l.nodes nx i l.n out r.2 r.1->(jt l.n l.a_ l.b=true->K3 l.a_/\K3 l.b/\(l.n.Op≠1->1<=l.a_.length))->zq l nx i out:=by
  intro r hr hk Q
  refine⟨ok0,R0,r.1,r.2,e1,hk,?_,fun ho=>?_⟩
  ·rw [hr]
   cases hs:jt l.n l.a_ l.b with
   |false=>rfl
   |true=>rw [bu rfl,mA];exact e2
  ·cases hs:jt l.n l.a_ l.b with
   |false=>rw [hr,hs,aZ (by simp)]at ho;cases ho
   |true=>
    rw [hs,bu rfl]at hr
    rw [hr]at ho ⊢
    obtain⟨g1,g2,g3⟩:=e3 ho
    obtain⟨q1,q2,q3⟩:=Q hs
    have:=Qe h.n hop q1 q2 h.a h.b q3 g2
    exact⟨g1,this.2,g3,fun x V=>by have:=this.1 x V;omega⟩
 have hk3:l.n.Op≠1->dr l.nodes nx i l.n out (jS l.n l.a_ l.b)=(cZ l.n (jS l.n l.a_ l.b)).bind fun r8=>cR l.nodes nx i l.n out r8.2 r8.1:=fun hn=>by
  unfold dr
  rw [aZ (by simp;omega),aZ (by simp;omega),aZ (by simp;omega),aZ (by simpa using hn)]
 have hs11:(l.n.Op==11)=false:=by simp;omega
 rcases sN l.n.Op with hp|hp|hp|hp
 ·have hop1:l.n.Op=1:=by
   unfold lw at hp
   split at hp
   ·omega
   ·split at hp
    ·omega
    ·split at hp<;>omega
  obtain⟨hA,hB,ha,W⟩:=h0 hp
  have hs:jt l.n l.a_ l.b=true:=by unfold jt;rw [ha,W];simp
  refine key (Dt l.n [] []) (by rw [hs,bu rfl,ha,W]) ?_ (fun _=>⟨by rw [ha];exact K3.nil,by rw [W];exact K3.nil,fun h=>absurd hop1 h⟩)
  unfold dr
  rw [aZ (by simp;omega),aZ (by simp;omega),aZ (by simp;omega),bu (by simp [hop1]),KU h.n hop1 hA hB ho]
  rfl
 ·have hop1:l.n.Op≠1:=fun hc=>by rw [hc]at hp;exact absurd hp (by decide)
  have hop27: ¬(l.n.Op=2\/l.n.Op=7):=fun hc=>by rcases hc with hc|hc<;>(rw [hc]at hp;exact absurd hp (by decide))
  obtain⟨hB,hKa,W⟩:=Y hp
  have hparts:jS l.n l.a_ l.b=[l.a_]:=by unfold jS;rw [aZ (by omega),bu hp]
  have hs:jt l.n l.a_ l.b= !(decide ((4:Int)∈l.a_)):=by unfold jt;rw [hs11,W];simp
  by_cases h4:(4:Int)∈l.a_
  ·have hs' :jt l.n l.a_ l.b=false:=by rw [hs];simp [h4]
   refine key ([],false) (by rw [hs'];rfl) ?_ (fun h=>by rw [hs']at h;cases h)
   rw [hk3 hop1,hparts]
   unfold cZ
   rw [xM _ h4,br]
  ·have hs' :jt l.n l.a_ l.b=true:=by rw [hs];simp [h4]
   refine key (Dt l.n l.a_ []) (by rw [hs',bu rfl,W]) ?_ (fun _=>⟨hKa.k3 h4,by rw [W];exact K3.nil,fun _=>hKa.pos⟩)
   rw [hk3 hop1,hparts,F7 h.n hop hop1 hop27 hB ho hKa (hKa.k3 h4),br]
 ·have hop1:l.n.Op≠1:=fun hc=>by rw [hc]at hp;exact absurd hp (by decide)
  have hop27:l.n.Op=2\/l.n.Op=7:=by
   unfold lw at hp
   split at hp
   ·omega
   ·split at hp
    ·omega
    ·split at hp<;>omega
  obtain⟨hKa,hKb⟩:=H hp
  have hparts:jS l.n l.a_ l.b=[l.a_,l.b]:=by unfold jS;rw [aZ (by omega),aZ (by omega)]
  have hs:jt l.n l.a_ l.b=(!(decide ((4:Int)∈l.a_))&& !(decide ((4:Int)∈l.b))):=by unfold jt;rw [hs11,sy]
  by_cases h4:(4:Int)∈l.a_
  ·have hs' :jt l.n l.a_ l.b=false:=by rw [hs];simp [h4]
   refine key ([],false) (by rw [hs'];rfl) ?_ (fun h=>by rw [hs']at h;cases h)
   rw [hk3 hop1,hparts]
   unfold cZ
   rw [xM _ h4,br]
  ·by_cases h4b:(4:Int)∈l.b
   ·have hs' :jt l.n l.a_ l.b=false:=by rw [hs];simp [h4b]
    refine key ([],false) (by rw [hs'];rfl) ?_ (fun h=>by rw [hs']at h;cases h)
    rw [hk3 hop1,hparts,KV _ (hKa.k3 h4) hKa.le h4b,br]
   ·have hs' :jt l.n l.a_ l.b=true:=by rw [hs];simp [h4,h4b]
    refine key (Dt l.n l.a_ l.b) (by rw [hs',bu rfl]) ?_ (fun _=>⟨hKa.k3 h4,hKb.k3 h4b,fun _=>hKa.pos⟩)
    rw [hk3 hop1,hparts,Mx h.n hop27 ho hKa (hKa.k3 h4) hKb (hKb.k3 h4b),br]
 ·exfalso
  unfold lw at hp
  split at hp
  ·omega
  ·split at hp
   ·omega
   ·split at hp<;>omega
def MQ(hop:l.n.Op=9)(ha:l.a_=[])(W:l.b=[]):zq l nx i out:=by
 refine⟨Gq l.n,l.n.Kinds,l.n.Kinds,Gq l.n,by rw [hop];exact Ip l,?_,?_,fun h=>⟨rfl,MT h⟩⟩
 ·unfold dr
  rw [bu (by simp [hop]),Lh,br]
 ·have hs:jt l.n l.a_ l.b=true:=by unfold jt;rw [ha,W];simp
  rw [hs,mA]
  cases h:Gq l.n with
  |false=>rfl
  |true=>have:=(MT h).le;simp [this]
def Im(h:Lb l)(hop:l.n.Op=10)(ho:CD {l.n with Op:=4}=true)(hB:l.n.B= -1)(hKa:Kd l.a_)(W:l.b=[]):zq l nx i out:=by
 have hparts:jS l.n l.a_ l.b=[l.a_]:=by unfold jS;rw [hop];rfl
 have hs:jt l.n l.a_ l.b= !(decide ((4:Int)∈l.a_)):=by unfold jt;rw [hop,W];simp
 have hn4:iN {l.n with Op:=4}:=⟨h.n.cond,h.n.kinds,h.n.keys,h.n.aggs,h.n.items,h.n.order,h.n.args,h.n.exprs⟩
 have hk:=h.n.keys
 have X:=h.n.aggs
 obtain⟨ok,R,o,k,g1,g2,g3,g4⟩:=Bt h (n:={l.n with Op:=4}) rfl hn4 rfl rfl []
 -- what the code does
 have hcode: ∃R0,nF l.n.Op l ()=some (ok,{l with result:=R0})/\(ok=true->nA l.n R=some R0/\R0.length=R.length/\ ∀x∈R0,x∈R\/x=4):=by
  rw [hop]
  show∃R0,ed l=some (ok,{l with result:=R0})/\_
  unfold ed
  rw [g1,br]
  cases ok with
  |false=>exact⟨R,rfl,fun h=>by cases h⟩
  |true=>
   obtain⟨_,hRl⟩:=g4 rfl
   obtain⟨R',q1,q2,q3,q4⟩:=yY (l:=l) (n:=l.n) rfl hk l.n.Aggs 0 R (by omega) (by omega)
   refine⟨R',q1,fun _=>⟨?_,q3,q4⟩⟩
   unfold nA
   rw [cy (by simp;omega),br,mz]
   exact q2
 obtain⟨R0,c1,c2⟩:=hcode
 have hunf:dr l.nodes nx i l.n out (jS l.n l.a_ l.b)=(cZ {l.n with Op:=4} [l.a_]).bind fun r4=>if r4.2 then((nA l.n r4.1).bind fun r5=>cR l.nodes nx i l.n out r4.2 r5)else(cR l.nodes nx i l.n out r4.2 r4.1):=by
  unfold dr
  rw [aZ (by simp [hop]),bu (by simp [hop]),hparts]
 by_cases h4:(4:Int)∈l.a_
 ·refine⟨ok,R0,[],false,c1,?_,by rw [hs];simp [h4],fun h=>by cases h⟩
  rw [hunf]
  unfold cZ
  rw [xM _ h4,br,aZ (by simp)]
 ·have hop1:cZ {l.n with Op:=4} [l.a_]=some (Dt {l.n with Op:=4} l.a_ []):=F7 hn4 rfl (by show¬(4:Int)=1;decide) (by show¬((4:Int)=2\/(4:Int)=7);decide) hB ho hKa (hKa.k3 h4)
  have hopK:Dt {l.n with Op:=4} l.a_ []=if 16<k.length then([],false)else(k,o):=by unfold Dt;rw [g2]
  rw [hop1,br,hopK]at hunf
  cases ok with
  |false=>
   refine⟨false,R0,(if 16<k.length then([],false)else(k,o)).1,false,c1,?_,by simp,fun h=>by cases h⟩
   rw [hunf,<-g3]
   split<;>rfl
  |true=>
   obtain⟨hRk,hRl⟩:=g4 rfl
   obtain⟨c3,c4,c5⟩:=c2 rfl
   rw [<-g3,<-hRk]at hunf
   by_cases hl:16<R.length
   ·rw [bu hl]at hunf
    refine⟨true,R0,[],false,c1,by rw [hunf];rfl,by rw [c4];simp;omega,fun h=>by cases h⟩
   ·rw [aZ hl]at hunf
    refine⟨true,R0,R0,true,c1,?_,by rw [hs,c4];simp [h4];omega,fun _=>⟨rfl,?_⟩⟩
    ·rw [hunf]
     show(nA l.n R).bind _=_
     rw [c3,br]
    ·have hr:=Qe (n:={l.n with Op:=4}) (b:=[]) hn4 rfl (hKa.k3 h4) (fun x V=>by cases V) h.a (by simp) (fun _=>hKa.pos) (by rw [g2,<-g3])
     rw [<-hRk]at hr
     refine⟨by omega,by omega,fun x V=>?_⟩
     rcases c5 x V with V|rfl
     ·have:=hr.1 x V;omega
     ·omega
def MR(h:Lb l)(hop:l.n.Op=11)(hKa:Kd l.a_){e:aa}(hA:ga l.nodes l.n.A=some e):zq l nx i out:=by
 have hparts:jS l.n l.a_ l.b=[l.a_]:=by unfold jS;rw [hop];rfl
 have hs:jt l.n l.a_ l.b=true:=by unfold jt;rw [hop];rfl
 have hk:=h.n.keys
 have X:=h.n.aggs
 have ha:=hKa.le
 have hp:=hKa.pos
 have hunf:dr l.nodes nx i l.n out (jS l.n l.a_ l.b)=(n8 l.n l.a_).bind fun r6=>(if r6.2 then(some (e.Op==(9:Int)))else some false).bind fun t1=>cR l.nodes nx i l.n out t1 r6.1:=by
  unfold dr
  rw [aZ (by simp [hop]),aZ (by simp [hop]),bu (by simp [hop]),hparts,hA]
  rfl
 have hask:nF l.n.Op l ()=dG l:=by rw [hop];rfl
 have hw:IntKind.i64.wrap ((l.n.Keys.length:Int)+(l.n.Aggs.length:Int))=((l.n.Keys.length+l.n.Aggs.length:Nat):Int):=by rw [d7 (by omega) (by omega)];omega
 by_cases hc:(l.n.Keys.length<=3/\l.n.Aggs.length<=12)/\l.n.Keys.length+l.n.Aggs.length=l.a_.length
 ·-- what both come to, but for where it comes from
  have hfin:n8 l.n l.a_=some (if wZ l.a_ l.n.Keys 0&&(l.n.Aggs.zip (l.a_.drop l.n.Keys.length)).all (fun p=>(fk p.1 p.2).2)then(l.a_.take l.n.Keys.length++List.zipWith (fun g k=>(fk g k).1) l.n.Aggs (l.a_.drop l.n.Keys.length),true)else([],false)):=by
   unfold n8
   rw [hw,aZ (by intro hh;simp only [xn,o9,uB,wC,ne_eq]at hh;omega)]
   have:=Gl (n:=l.n) (a:=l.a_) (by omega) (by omega) l.n.Keys 0 (uj _)
   rw [List.take_zero]at this
   rw [this]
   cases hkb:wZ l.a_ l.n.Keys 0 with
   |false=>rw [aZ (by simp)];rfl
   |true=>rw [bu rfl,JN hk l.n.Aggs 0 _ (l.a_.drop l.n.Keys.length) (by simp;omega) rfl (by simp;omega) (by omega),mA]
  by_cases h9:e.Op=9
  ·have hcode:dG l=some (wZ l.a_ l.n.Keys 0&&(l.n.Aggs.zip (l.a_.drop l.n.Keys.length)).all (fun p=>(fk p.1 p.2).2),{l with result:=l.a_.take l.n.Keys.length++List.zipWith (fun g k=>(fk g k).1) l.n.Aggs (l.a_.drop l.n.Keys.length)}):=by
    unfold dG
    have hcond:((((e.Op==(9:Int))&&(decide ((l.n.Keys.length:Int)<=(3:Int))))&&(decide ((l.n.Aggs.length:Int)<=(12:Int))))&&((IntKind.i64.wrap ((l.n.Keys.length:Int)+(l.n.Aggs.length:Int)))==(l.a_.length:Int)))=true:=by
     rw [hw];simp [h9];omega
    rw [hA,br,hcond,aZ (by simp),ua _ (by omega),br,DC (by omega) l.a_ l.n.Keys 0 true (uj _),mA]
    have:=GF (l:=l) hk l.n.Aggs 0 (wZ l.a_ l.n.Keys 0) (l.a_.take l.n.Keys.length) (l.a_.drop l.n.Keys.length) (by simp;omega) (by simp;omega) rfl (by simp;omega)
    rw [qL]at this
    exact this
   have hRl:(l.a_.take l.n.Keys.length++List.zipWith (fun g k=>(fk g k).1) l.n.Aggs (l.a_.drop l.n.Keys.length)).length=l.a_.length:=by simp;omega
   refine⟨_,_,(if wZ l.a_ l.n.Keys 0&&(l.n.Aggs.zip (l.a_.drop l.n.Keys.length)).all (fun p=>(fk p.1 p.2).2)then(l.a_.take l.n.Keys.length++List.zipWith (fun g k=>(fk g k).1) l.n.Aggs (l.a_.drop l.n.Keys.length),true)else([],false)).1,_,hask.trans hcode,?_,rfl,fun hv=>?_⟩
   ·rw [hunf,hfin,br,hs,hRl]
    have e16:decide (l.a_.length<=16)=true:=by simpa using ha
    rw [e16]
    cases (wZ l.a_ l.n.Keys 0&&(l.n.Aggs.zip (l.a_.drop l.n.Keys.length)).all (fun p=>(fk p.1 p.2).2))with
    |true=>simp [h9]
    |false=>simp
   ·rw [hs,mA,iO]at hv
    rw [bu hv.1]
    refine⟨rfl,by omega,by omega,fun x V=>?_⟩
    rcases xo.1 V with V|V
    ·exact hKa.vals x (List.mem_of_mem_take V)
    ·obtain⟨j,hj,hjx⟩:=List.getElem_of_mem V
     rw [List.getElem_zipWith]at hjx
     have hm:(l.a_.drop l.n.Keys.length)[j]'(by simp at hj ⊢;omega)∈l.a_:=List.mem_of_mem_drop (CR _)
     have:=hKa.vals _ hm
     rw [<-hjx]
     unfold fk
     split
     ·exact this
     ·split
      ·omega
      ·split<;>exact this
  ·refine⟨false,l.result,(if wZ l.a_ l.n.Keys 0&&(l.n.Aggs.zip (l.a_.drop l.n.Keys.length)).all (fun p=>(fk p.1 p.2).2)then(l.a_.take l.n.Keys.length++List.zipWith (fun g k=>(fk g k).1) l.n.Aggs (l.a_.drop l.n.Keys.length),true)else([],false)).1,false,hask.trans ?_,?_,by simp,fun h=>by cases h⟩
   ·unfold dG
    rw [hA,br,bu (by simp [h9])]
   ·rw [hunf,hfin,br]
    have:(e.Op==9)=false:=by simpa using h9
    rw [this]
    split<;>rfl
 ·refine⟨false,l.result,[],false,hask.trans ?_,?_,by simp,fun h=>by cases h⟩
  ·unfold dG
   have hcond:((((e.Op==(9:Int))&&(decide ((l.n.Keys.length:Int)<=(3:Int))))&&(decide ((l.n.Aggs.length:Int)<=(12:Int))))&&((IntKind.i64.wrap ((l.n.Keys.length:Int)+(l.n.Aggs.length:Int)))==(l.a_.length:Int)))=false:=by
    rw [hw,AD];intro hh;apply hc;simp at hh;omega
   rw [hA,br,hcond,bu (by simp)]
  ·have:n8 l.n l.a_=some ([],false):=by
    unfold n8
    rw [hw,bu (by
     cases W:((((decide ((3:Int)<(l.n.Keys.length:Int)))||(decide ((12:Int)<(l.n.Aggs.length:Int))))||((((l.n.Keys.length+l.n.Aggs.length:Nat):Int)) !=(l.a_.length:Int)))||((l.a_.length:Int)==(0:Int)))with
     |true=>rfl
     |false=>exfalso;apply hc;simp at W;omega)]
   rw [hunf,this]
   rfl
end
end Go.Proofs.YtdohlidddcgfjaaGreat

