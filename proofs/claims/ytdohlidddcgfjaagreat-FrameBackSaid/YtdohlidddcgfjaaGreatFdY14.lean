/- bT of this claim: Y14. -/
import Derived.Test.YtdohlidddcgfjaaGreatFdY13
set_option linter.all false
namespace Go.Proofs.YtdohlidddcgfjaaGreat
open Go

def El(op:Int):xq op=some (prt op):=by
 by_cases Y:op=1
 ·subst Y;rfl
 by_cases X:op=2
 ·subst X;rfl
 by_cases d:op=3
 ·subst d;rfl
 by_cases h4:op=4
 ·subst h4;rfl
 by_cases h5:op=5
 ·subst h5;rfl
 by_cases h6:op=6
 ·subst h6;rfl
 by_cases h7:op=7
 ·subst h7;rfl
 by_cases h8:op=8
 ·subst h8;rfl
 by_cases h9:op=9
 ·subst h9;rfl
 by_cases h10:op=10
 ·subst h10;rfl
 by_cases h11:op=11
 ·subst h11;rfl
 simp [xq,tm,rW,qE,lb,prt,Y,X,d,h4,h5,h6,h7,h8,h9,h10,h11]
def Sz(ns:List aa)(j ae:Nat):Prop:= ∀fu,j+1<fu->gz fu ns (j:Int)=some (ae:Int)
inductive QL(ns:List aa):List Int->Int->Prop
 |nil:QL ns [] (-1)
 |cons {rest:List Int} (j ae:Nat):Sz ns j ae->1<=ae->ae<=j+1->QL ns rest ((j:Int)-(ae:Int))->QL ns ((j:Int)::rest) (j:Int)
def QL.neg{ns:List aa}{st:List Int}{p:Int}(h:QL ns st p)(hp:p<0):st=[]:=by
 cases h with
 |nil=>rfl
 |cons j ae=>omega
def QL.pos{ns:List aa}{st:List Int}{p:Int}(h:QL ns st p)(hp:0<=p): ∃(j ae:Nat) (rest:List Int),p=(j:Int)/\st=(j:Int)::rest/\Sz ns j ae/\1<=ae/\ae<=j+1/\QL ns rest ((j:Int)-(ae:Int)):=by
 cases h with
 |nil=>omega
 |cons j ae Y X d h4=>exact⟨j,ae,_,rfl,rfl,Y,X,d,h4⟩
def TG(e:aa)(st:List Int):Prop:=(prt e.Op=0/\e.A= -1/\e.B= -1)\/(prt e.Op=1/\e.B= -1/\ ∃rest,st=e.A::rest)\/(prt e.Op=2/\ ∃rest,st=e.B::e.A::rest)
def vf(op:Int):prt op=0\/prt op=1\/prt op=2\/prt op= -1:=by
 unfold prt
 split
 ·exact .inl rfl
 ·split
  ·exact .inr (.inr (.inl rfl))
  ·split
   ·exact .inr (.inl rfl)
   ·exact .inr (.inr (.inr rfl))
def HQ{ns:List aa}{fu:Nat}(h:0<fu){p:Int}(hp:p<0):gz fu ns p=some 0:=by
 obtain⟨fu,rfl⟩: ∃k,fu=k+1:=⟨fu-1,by omega⟩
 unfold gz
 rw [bh (by simp [hp])]
def JH{ns:List aa}{j:Nat}{n:aa}(hn:ns[j]? =some n)(hl:ns.length<=1000)(fu:Nat):gz (fu+1) ns (j:Int)=
  if prt n.Op=0 then(if n.A= -1/\n.B= -1 then some 1 else some 0)
  else if prt n.Op=1 then(gz fu ns ((j:Int)-1)).bind (fun r1=>if(n.A=(j:Int)-1/\n.B= -1)/\0<r1 then some (IntKind.i64.wrap (r1+(1:Int)))else some (0:Int))
  else if prt n.Op=2 then(gz fu ns ((j:Int)-1)).bind (fun r2=>if(r2=0\/n.B≠(j:Int)-1)\/n.A≠IntKind.i64.wrap ((j:Int)-1-r2)then some 0 else((gz fu ns n.A).bind fun r3=>if(decide ((0:Int)<r3))then(some (IntKind.i64.wrap ((IntKind.i64.wrap (r3+r2))+(1:Int))))else(some (0:Int))))
  else some 0:=by
 have hj:=(sf.1 hn).1
 conv=>lhs;unfold gz
 rw [aR (by simp;omega),eU,hn]
 simp only [bg,El]
 rw [eP (n:=(j:Int)-1) (by omega) (by omega)]
 by_cases h0:prt n.Op=0
 ·simp only [h0,jL]
  rw [bh (by decide)]
  by_cases hAB:n.A= -1/\n.B= -1
  ·rw [bh hAB,bh (by simp [hAB])]
  ·rw [aR hAB,aR (by simpa using hAB)]
 by_cases Y:prt n.Op=1
 ·simp only [Y,jL,aR (show¬(1:Int)=0 by decide)]
  rw [aR (by decide),bh (by decide)]
  congr 1
  funext r1
  by_cases hc:(n.A=(j:Int)-1/\n.B= -1)/\0<r1
  ·rw [bh hc,bh (by simp [hc])]
  ·rw [aR hc,aR (by simpa using hc)]
 by_cases X:prt n.Op=2
 ·simp only [X,jL,aR (show¬(2:Int)=0 by decide),aR (show¬(2:Int)=1 by decide)]
  rw [aR (by decide),aR (by decide),bh (by decide)]
  congr 1
  funext r2
  by_cases hc:(r2=0\/n.B≠(j:Int)-1)\/n.A≠IntKind.i64.wrap ((j:Int)-1-r2)
  ·rw [bh hc,bh (by simpa using hc)]
  ·rw [aR hc,aR (by simpa using hc)]
 ·have d:prt n.Op= -1:=by have:=vf n.Op;omega
  simp only [d]
  rfl
def Pm{ns:List aa}{st:List Int}{i:Nat}{e:aa}(hst:QL ns st ((i:Int)-1))(he:ns[i]? =some e)(hl:ns.length<=100): ∃ae:Nat,Sz ns i ae/\((ae=0/\ ¬TG e st)\/(1<=ae/\ae<=i+1/\TG e st/\QL ns ((i:Int)::st.drop (prt e.Op).toNat) (i:Int))):=by
 have hi:=(sf.1 he).1
 have step:=JH he (by omega)
 have sz: ∀{ae:Nat},(∀fu,i<fu->gz (fu+1) ns (i:Int)=some (ae:Int))->Sz ns i ae:=fun h fu hf=>by
  obtain⟨fu,rfl⟩: ∃k,fu=k+1:=⟨fu-1,by omega⟩
  exact h fu (by omega)
 rcases vf e.Op with h0|h0|h0|h0
 ·by_cases hAB:e.A= -1/\e.B= -1
  ·have hs:Sz ns i 1:=sz fun fu _=>by rw [step,bh h0,bh hAB];rfl
   refine⟨1,hs,.inr ⟨eg _,by omega,.inl ⟨h0,hAB⟩,?_⟩⟩
   rw [h0]
   exact .cons i 1 hs (eg _) (by omega) hst
  ·refine⟨0,sz fun fu _=>by rw [step,bh h0,aR hAB];rfl,.inl ⟨rfl,fun hp=>?_⟩⟩
   rcases hp with h|h|h
   ·exact hAB h.2
   ·omega
   ·omega
 ·by_cases hz:i=0
  ·have:=hst.neg (by omega)
   subst this
   refine⟨0,sz fun fu hf=>by rw [step,aR (by omega),bh h0,HQ (by omega) (by omega),bg,aR (by omega)];rfl,.inl ⟨rfl,fun hp=>?_⟩⟩
   rcases hp with h|⟨_,_,r,h⟩|h
   ·omega
   ·cases h
   ·omega
  ·obtain⟨j,ae,rest,hj,rfl,g1,g2,g3,g4⟩:=hst.pos (by omega)
   by_cases hA:e.A=(i:Int)-1/\e.B= -1
   ·have hs:Sz ns i (ae+1):=sz fun fu hf=>by
     rw [step,aR (by omega),bh h0,hj,g1 fu (by omega),bg,bh ⟨by rw [<-hj];exact hA,by omega⟩,eP (by omega) (by omega)];rfl
    refine⟨ae+1,hs,.inr ⟨by omega,by omega,.inr (.inl ⟨h0,hA.2,rest,by rw [hA.1,hj]⟩),?_⟩⟩
    rw [h0]
    refine .cons i (ae+1) hs (by omega) (by omega) ?_
    have:(i:Int)-((ae+1:Nat):Int)=(j:Int)-(ae:Int):=by omega
    rw [this]
    exact g4
   ·refine⟨0,sz fun fu hf=>by
     rw [step,aR (by omega),bh h0,hj,g1 fu (by omega),bg,aR (fun h=>hA (by rw [hj];exact h.1))];rfl,.inl ⟨rfl,fun hp=>?_⟩⟩
    rcases hp with h|⟨_,hB,r,h⟩|h
    ·omega
    ·injection h with h _
     exact hA ⟨by omega,hB⟩
    ·omega
 ·by_cases hz:i=0
  ·have:=hst.neg (by omega)
   subst this
   refine⟨0,sz fun fu hf=>by rw [step,aR (by omega),aR (by omega),bh h0,HQ (by omega) (by omega),bg,bh (.inl (.inl rfl))];rfl,.inl ⟨rfl,fun hp=>?_⟩⟩
   rcases hp with h|h|⟨_,r,h⟩
   ·omega
   ·omega
   ·cases h
  ·obtain⟨j,ae,rest,hj,rfl,g1,g2,g3,g4⟩:=hst.pos (by omega)
   by_cases hAB:e.B=(i:Int)-1/\e.A=(j:Int)-(ae:Int)
   ·have hw:IntKind.i64.wrap ((j:Int)-(ae:Int))=(j:Int)-(ae:Int):=eP (by omega) (by omega)
    by_cases hn:(j:Int)-(ae:Int)<0
    ·have:=g4.neg hn
     subst this
     refine⟨0,sz fun fu hf=>by
      rw [step,aR (by omega),aR (by omega),bh h0,hj,g1 fu (by omega),bg,hw,aR (by omega),HQ (by omega) (by omega),bg,aR (by decide)];rfl,.inl ⟨rfl,fun hp=>?_⟩⟩
     rcases hp with h|h|⟨_,r,h⟩
     ·omega
     ·omega
     ·injection h with _ h;cases h
    ·obtain⟨j2,s2,rest2,hj2,rfl,k1,k2,k3,k4⟩:=g4.pos (by omega)
     have hs:Sz ns i (s2+ae+1):=sz fun fu hf=>by
      rw [step,aR (by omega),aR (by omega),bh h0,hj,g1 fu (by omega),bg,hw,aR (by omega),hAB.2,hj2,k1 fu (by omega),bg,bh (by simp;omega),eP (n:=(s2:Int)+(ae:Int)) (by omega) (by omega),eP (by omega) (by omega)];rfl
     refine⟨s2+ae+1,hs,.inr ⟨by omega,by omega,.inr (.inr ⟨h0,rest2,by rw [hAB.1,hAB.2,hj,hj2]⟩),?_⟩⟩
     rw [h0]
     refine .cons i (s2+ae+1) hs (by omega) (by omega) ?_
     have:(i:Int)-((s2+ae+1:Nat):Int)=(j2:Int)-(s2:Int):=by omega
     rw [this]
     exact k4
   ·have hw:IntKind.i64.wrap ((j:Int)-(ae:Int))=(j:Int)-(ae:Int):=eP (by omega) (by omega)
    refine⟨0,sz fun fu hf=>by
     rw [step,aR (by omega),aR (by omega),bh h0,hj,g1 fu (by omega),bg,hw,bh (by omega)];rfl,.inl ⟨rfl,fun hp=>?_⟩⟩
    rcases hp with h|h|⟨_,r,h⟩
    ·omega
    ·omega
    ·injection h with e1 e2
     by_cases hn:(j:Int)-(ae:Int)<0
     ·have:=g4.neg hn
      subst this
      cases e2
     ·obtain⟨j2,s2,rest2,hj2,rfl,_⟩:=g4.pos (by omega)
      injection e2 with e2 _
      exact hAB ⟨by omega,by omega⟩
 ·refine⟨0,sz fun fu _=>by rw [step,aR (by omega),aR (by omega),aR (by omega)];rfl,.inl ⟨rfl,fun hp=>?_⟩⟩
  rcases hp with h|h|h<;>omega
def K3.nil:K3 []:=fun x V=>by cases V
def yA{op:Int}(h:0<=prt op):FN op=true\/op=9\/op=10\/op=11:=by
 unfold prt at h
 simp only [FN,lq,hX]
 split at h
 ·omega
 ·split at h
  ·omega
  ·split at h
   ·omega
   ·omega
def RS{l:al}(h:Lb l)(hop:FN l.n.Op=true): ∃ok0 R0,nU l.n.Op l ()=some (ok0,{l with result:=R0})/\(GH l.n l.a_ l.b).2=(ok0&&decide (R0.length<=16))/\((GH l.n l.a_ l.b).2=true->(GH l.n l.a_ l.b).1=R0/\cC l.n l.a_ l.b=some (R0,true)/\R0.length<=16):=by
 obtain⟨ok,R,o,k,Y,X,d,h4⟩:=Sc h hop
 refine⟨ok,R,Y,?_⟩
 have e:GH l.n l.a_ l.b=if 16<k.length then([],false)else(k,o):=by unfold GH;rw [X]
 rw [e]
 by_cases hl:16<k.length
 ·rw [bh hl]
  have:decide (k.length<=16)=false:=by simpa using hl
  rw [this,Bool.and_false]at d
  exact⟨d.symm,fun h=>by cases h⟩
 ·rw [aR hl]
  have:decide (k.length<=16)=true:=by simp;omega
  rw [this,Bool.and_true]at d
  refine⟨d.symm,fun ho=>?_⟩
  have ho:o=true:=ho
  subst ho
  have:=h4 d
  subst this
  exact⟨rfl,X,by omega⟩
def ll(e:aa)(a b:List Int):List (List Int):=if prt e.Op=0 then []else if prt e.Op=1 then [a]else [a,b]
def kO(e:aa)(a b:List Int):Bool:=(e.Op==11)||(!(decide ((4:Int)∈a))&& !(decide ((4:Int)∈b)))
def PM(n:aa){a b:List Int}(d:K3 a)(hal:a.length<=16)(h:(4:Int)∈b):dE n [a,b]=some ([],false):=by
 unfold dE bX
 rw [yo,bg,aR (by simpa using d.four),AQ _ _ _ _ _ _ d (by show 0+a.length<=1000;omega)]
 unfold dX
 show((app ([]:List aa) [k7,j0 0 a]).bind fun l5=>if(((0:Nat):Int)==(0:Int))then(bX [b] 1 {n with A:=IntKind.i64.wrap ((l5.length:Int)-1)} ⟨l5⟩)else(bX [b] 1 {n with B:=IntKind.i64.wrap ((l5.length:Int)-1)} ⟨l5⟩))=_
 rw [cK (by simp),bg,bh (by rfl)]
 exact AR _ h _ _ _
section
variable{l:al}{nx:Nat->(List (List Int))->Option ((List (List Int))×Int)}{i:Nat}{out:List (List Int)}
def Cj(l:al)(nx:Nat->(List (List Int))->Option ((List (List Int))×Int))(i:Nat)(out:List (List Int)):Prop:= ∃ok0 R0 k o,nU l.n.Op l ()=some (ok0,{l with result:=R0})/\dZ l.nodes nx i l.n out (ll l.n l.a_ l.b)=dr l.nodes nx i l.n out o k/\o=(kO l.n l.a_ l.b&&(ok0&&decide (R0.length<=16)))/\(o=true->k=R0/\Kd R0)
def XC(h:Lb l)(hop:FN l.n.Op=true)(ho:BV l.n=true)(h0:prt l.n.Op=0->l.n.A= -1/\l.n.B= -1/\l.a_=[]/\l.b=[])(Y:prt l.n.Op=1->l.n.B= -1/\Kd l.a_/\l.b=[])(X:prt l.n.Op=2->Kd l.a_/\Kd l.b):Cj l nx i out:=by
 obtain⟨ok0,R0,e1,e2,e3⟩:=RS h hop
 have hop' :=nm hop
 have key: ∀(r:List Int×Bool),r=(if kO l.n l.a_ l.b then GH l.n l.a_ l.b else([],false))->dZ l.nodes nx i l.n out (ll l.n l.a_ l.b)=dr l.nodes nx i l.n out r.2 r.1->(kO l.n l.a_ l.b=true->K3 l.a_/\K3 l.b/\(l.n.Op≠1->1<=l.a_.length))->Cj l nx i out:=by
  intro r hr hk d
  refine⟨ok0,R0,r.1,r.2,e1,hk,?_,fun ho=>?_⟩
  ·rw [hr]
   cases hs:kO l.n l.a_ l.b with
   |false=>rfl
   |true=>rw [bh rfl,nC];exact e2
  ·cases hs:kO l.n l.a_ l.b with
   |false=>rw [hr,hs,aR (by simp)]at ho;cases ho
   |true=>
    rw [hs,bh rfl]at hr
    rw [hr]at ho ⊢
    obtain⟨g1,g2,g3⟩:=e3 ho
    obtain⟨q1,q2,q3⟩:=d hs
    have:=V3 h.n hop q1 q2 h.a h.b q3 g2
    exact⟨g1,this.2,g3,fun x V=>by have:=this.1 x V;omega⟩
 have hk3:l.n.Op≠1->dZ l.nodes nx i l.n out (ll l.n l.a_ l.b)=(dE l.n (ll l.n l.a_ l.b)).bind fun r8=>dr l.nodes nx i l.n out r8.2 r8.1:=fun hn=>by
  unfold dZ
  rw [aR (by simp;omega),aR (by simp;omega),aR (by simp;omega),aR (by simpa using hn)]
 have hs11:(l.n.Op==11)=false:=by simp;omega
 rcases vf l.n.Op with hp|hp|hp|hp
 ·have hop1:l.n.Op=1:=by
   unfold prt at hp
   split at hp
   ·omega
   ·split at hp
    ·omega
    ·split at hp<;>omega
  obtain⟨hA,hB,ha,K⟩:=h0 hp
  have hs:kO l.n l.a_ l.b=true:=by unfold kO;rw [ha,K];simp
  refine key (GH l.n [] []) (by rw [hs,bh rfl,ha,K]) ?_ (fun _=>⟨by rw [ha];exact K3.nil,by rw [K];exact K3.nil,fun h=>absurd hop1 h⟩)
  unfold dZ
  rw [aR (by simp;omega),aR (by simp;omega),aR (by simp;omega),bh (by simp [hop1]),PL h.n hop1 hA hB ho]
  rfl
 ·have hop1:l.n.Op≠1:=fun hc=>by rw [hc]at hp;exact absurd hp (by decide)
  have hop27: ¬(l.n.Op=2\/l.n.Op=7):=fun hc=>by rcases hc with hc|hc<;>(rw [hc]at hp;exact absurd hp (by decide))
  obtain⟨hB,hKa,K⟩:=Y hp
  have hparts:ll l.n l.a_ l.b=[l.a_]:=by unfold ll;rw [aR (by omega),bh hp]
  have hs:kO l.n l.a_ l.b= !(decide ((4:Int)∈l.a_)):=by unfold kO;rw [hs11,K];simp
  by_cases h4:(4:Int)∈l.a_
  ·have hs' :kO l.n l.a_ l.b=false:=by rw [hs];simp [h4]
   refine key ([],false) (by rw [hs'];rfl) ?_ (fun h=>by rw [hs']at h;cases h)
   rw [hk3 hop1,hparts]
   unfold dE
   rw [AR _ h4,bg]
  ·have hs' :kO l.n l.a_ l.b=true:=by rw [hs];simp [h4]
   refine key (GH l.n l.a_ []) (by rw [hs',bh rfl,K]) ?_ (fun _=>⟨hKa.k3 h4,by rw [K];exact K3.nil,fun _=>hKa.pos⟩)
   rw [hk3 hop1,hparts,J2 h.n hop hop1 hop27 hB ho hKa (hKa.k3 h4),bg]
 ·have hop1:l.n.Op≠1:=fun hc=>by rw [hc]at hp;exact absurd hp (by decide)
  have hop27:l.n.Op=2\/l.n.Op=7:=by
   unfold prt at hp
   split at hp
   ·omega
   ·split at hp
    ·omega
    ·split at hp<;>omega
  obtain⟨hKa,hKb⟩:=X hp
  have hparts:ll l.n l.a_ l.b=[l.a_,l.b]:=by unfold ll;rw [aR (by omega),aR (by omega)]
  have hs:kO l.n l.a_ l.b=(!(decide ((4:Int)∈l.a_))&& !(decide ((4:Int)∈l.b))):=by unfold kO;rw [hs11,uH]
  by_cases h4:(4:Int)∈l.a_
  ·have hs' :kO l.n l.a_ l.b=false:=by rw [hs];simp [h4]
   refine key ([],false) (by rw [hs'];rfl) ?_ (fun h=>by rw [hs']at h;cases h)
   rw [hk3 hop1,hparts]
   unfold dE
   rw [AR _ h4,bg]
  ·by_cases h4b:(4:Int)∈l.b
   ·have hs' :kO l.n l.a_ l.b=false:=by rw [hs];simp [h4b]
    refine key ([],false) (by rw [hs'];rfl) ?_ (fun h=>by rw [hs']at h;cases h)
    rw [hk3 hop1,hparts,PM _ (hKa.k3 h4) hKa.le h4b,bg]
   ·have hs' :kO l.n l.a_ l.b=true:=by rw [hs];simp [h4,h4b]
    refine key (GH l.n l.a_ l.b) (by rw [hs',bh rfl]) ?_ (fun _=>⟨hKa.k3 h4,hKb.k3 h4b,fun _=>hKa.pos⟩)
    rw [hk3 hop1,hparts,RQ h.n hop27 ho hKa (hKa.k3 h4) hKb (hKb.k3 h4b),bg]
 ·exfalso
  unfold prt at hp
  split at hp
  ·omega
  ·split at hp
   ·omega
   ·split at hp<;>omega
def Sj(hop:l.n.Op=9)(ha:l.a_=[])(K:l.b=[]):Cj l nx i out:=by
 refine⟨Ir l.n,l.n.Kinds,l.n.Kinds,Ir l.n,by rw [hop];exact EI l,?_,?_,fun h=>⟨rfl,Sn h⟩⟩
 ·unfold dZ
  rw [bh (by simp [hop]),Qb,bg]
 ·have hs:kO l.n l.a_ l.b=true:=by unfold kO;rw [ha,K];simp
  rw [hs,nC]
  cases h:Ir l.n with
  |false=>rfl
  |true=>have:=(Sn h).le;simp [this]
def Mr(h:Lb l)(hop:l.n.Op=10)(ho:BV {l.n with Op:=4}=true)(hB:l.n.B= -1)(hKa:Kd l.a_)(K:l.b=[]):Cj l nx i out:=by
 have hparts:ll l.n l.a_ l.b=[l.a_]:=by unfold ll;rw [hop];rfl
 have hs:kO l.n l.a_ l.b= !(decide ((4:Int)∈l.a_)):=by unfold kO;rw [hop,K];simp
 have hn4:i0 {l.n with Op:=4}:=⟨h.n.cond,h.n.kinds,h.n.keys,h.n.aggs,h.n.items,h.n.order,h.n.args,h.n.exprs⟩
 have hk:=h.n.keys
 have H:=h.n.aggs
 obtain⟨ok,R,o,k,g1,g2,g3,g4⟩:=zO h (n:={l.n with Op:=4}) rfl hn4 rfl rfl []
 -- what the code does
 have hcode: ∃R0,nU l.n.Op l ()=some (ok,{l with result:=R0})/\(ok=true->pu l.n R=some R0/\R0.length=R.length/\ ∀x∈R0,x∈R\/x=4):=by
  rw [hop]
  show∃R0,dY l=some (ok,{l with result:=R0})/\_
  unfold dY
  rw [g1,bg]
  cases ok with
  |false=>exact⟨R,rfl,fun h=>by cases h⟩
  |true=>
   obtain⟨_,hRl⟩:=g4 rfl
   obtain⟨R',q1,q2,q3,q4⟩:=BU (l:=l) (n:=l.n) rfl hk l.n.Aggs 0 R (by omega) (by omega)
   refine⟨R',q1,fun _=>⟨?_,q3,q4⟩⟩
   unfold pu
   rw [cK (by simp;omega),bg,m7]
   exact q2
 obtain⟨R0,c1,c2⟩:=hcode
 have hunf:dZ l.nodes nx i l.n out (ll l.n l.a_ l.b)=(dE {l.n with Op:=4} [l.a_]).bind fun r4=>if r4.2 then((pu l.n r4.1).bind fun r5=>dr l.nodes nx i l.n out r4.2 r5)else(dr l.nodes nx i l.n out r4.2 r4.1):=by
  unfold dZ
  rw [aR (by simp [hop]),bh (by simp [hop]),hparts]
 by_cases h4:(4:Int)∈l.a_
 ·refine⟨ok,R0,[],false,c1,?_,by rw [hs];simp [h4],fun h=>by cases h⟩
  rw [hunf]
  unfold dE
  rw [AR _ h4,bg,aR (by simp)]
 ·have hop1:dE {l.n with Op:=4} [l.a_]=some (GH {l.n with Op:=4} l.a_ []):=J2 hn4 rfl (by show¬(4:Int)=1;decide) (by show¬((4:Int)=2\/(4:Int)=7);decide) hB ho hKa (hKa.k3 h4)
  have hopK:GH {l.n with Op:=4} l.a_ []=if 16<k.length then([],false)else(k,o):=by unfold GH;rw [g2]
  rw [hop1,bg,hopK]at hunf
  cases ok with
  |false=>
   refine⟨false,R0,(if 16<k.length then([],false)else(k,o)).1,false,c1,?_,by simp,fun h=>by cases h⟩
   rw [hunf,<-g3]
   split<;>rfl
  |true=>
   obtain⟨hRk,hRl⟩:=g4 rfl
   obtain⟨c3,c4,c5⟩:=c2 rfl
   rw [<-g3,<-hRk]at hunf
   by_cases hl:16<R.length
   ·rw [bh hl]at hunf
    refine⟨true,R0,[],false,c1,by rw [hunf];rfl,by rw [c4];simp;omega,fun h=>by cases h⟩
   ·rw [aR hl]at hunf
    refine⟨true,R0,R0,true,c1,?_,by rw [hs,c4];simp [h4];omega,fun _=>⟨rfl,?_⟩⟩
    ·rw [hunf]
     show(pu l.n R).bind _=_
     rw [c3,bg]
    ·have hr:=V3 (n:={l.n with Op:=4}) (b:=[]) hn4 rfl (hKa.k3 h4) (fun x V=>by cases V) h.a (by simp) (fun _=>hKa.pos) (by rw [g2,<-g3])
     rw [<-hRk]at hr
     refine⟨by omega,by omega,fun x V=>?_⟩
     rcases c5 x V with V|rfl
     ·have:=hr.1 x V;omega
     ·omega
def Sk(h:Lb l)(hop:l.n.Op=11)(hKa:Kd l.a_){e:aa}(hA:gR l.nodes l.n.A=some e):Cj l nx i out:=by
 have hparts:ll l.n l.a_ l.b=[l.a_]:=by unfold ll;rw [hop];rfl
 have hs:kO l.n l.a_ l.b=true:=by unfold kO;rw [hop];rfl
 have hk:=h.n.keys
 have H:=h.n.aggs
 have ha:=hKa.le
 have hp:=hKa.pos
 have hunf:dZ l.nodes nx i l.n out (ll l.n l.a_ l.b)=(qa l.n l.a_).bind fun r6=>(if r6.2 then(some (e.Op==(9:Int)))else some false).bind fun t1=>dr l.nodes nx i l.n out t1 r6.1:=by
  unfold dZ
  rw [aR (by simp [hop]),aR (by simp [hop]),bh (by simp [hop]),hparts,hA]
  rfl
 have hask:nU l.n.Op l ()=dA l:=by rw [hop];rfl
 have hw:IntKind.i64.wrap ((l.n.Keys.length:Int)+(l.n.Aggs.length:Int))=((l.n.Keys.length+l.n.Aggs.length:Nat):Int):=by rw [eP (by omega) (by omega)];omega
 by_cases hc:(l.n.Keys.length<=3/\l.n.Aggs.length<=12)/\l.n.Keys.length+l.n.Aggs.length=l.a_.length
 ·-- what both come to, but for where it comes from
  have hfin:qa l.n l.a_=some (if wZ l.a_ l.n.Keys 0&&(l.n.Aggs.zip (l.a_.drop l.n.Keys.length)).all (fun p=>(fk p.1 p.2).2)then(l.a_.take l.n.Keys.length++List.zipWith (fun g k=>(fk g k).1) l.n.Aggs (l.a_.drop l.n.Keys.length),true)else([],false)):=by
   unfold qa
   rw [hw,aR (by intro hh;simp only [yS,hX,xd,oJ,ne_eq]at hh;omega)]
   have:=Kk (n:=l.n) (a:=l.a_) (by omega) (by omega) l.n.Keys 0 (uX _)
   rw [List.take_zero]at this
   rw [this]
   cases hkb:wZ l.a_ l.n.Keys 0 with
   |false=>rw [aR (by simp)];rfl
   |true=>rw [bh rfl,Oh hk l.n.Aggs 0 _ (l.a_.drop l.n.Keys.length) (by simp;omega) rfl (by simp;omega) (by omega),nC]
  by_cases h9:e.Op=9
  ·have hcode:dA l=some (wZ l.a_ l.n.Keys 0&&(l.n.Aggs.zip (l.a_.drop l.n.Keys.length)).all (fun p=>(fk p.1 p.2).2),{l with result:=l.a_.take l.n.Keys.length++List.zipWith (fun g k=>(fk g k).1) l.n.Aggs (l.a_.drop l.n.Keys.length)}):=by
    unfold dA
    have hcond:((((e.Op==(9:Int))&&(decide ((l.n.Keys.length:Int)<=(3:Int))))&&(decide ((l.n.Aggs.length:Int)<=(12:Int))))&&((IntKind.i64.wrap ((l.n.Keys.length:Int)+(l.n.Aggs.length:Int)))==(l.a_.length:Int)))=true:=by
     rw [hw];simp [h9];omega
    rw [hA,bg,hcond,aR (by simp),sP _ (by omega),bg,BY (by omega) l.a_ l.n.Keys 0 true (uX _),nC]
    have:=ET (l:=l) hk l.n.Aggs 0 (wZ l.a_ l.n.Keys 0) (l.a_.take l.n.Keys.length) (l.a_.drop l.n.Keys.length) (by simp;omega) (by simp;omega) rfl (by simp;omega)
    rw [s6]at this
    exact this
   have hRl:(l.a_.take l.n.Keys.length++List.zipWith (fun g k=>(fk g k).1) l.n.Aggs (l.a_.drop l.n.Keys.length)).length=l.a_.length:=by simp;omega
   refine⟨_,_,(if wZ l.a_ l.n.Keys 0&&(l.n.Aggs.zip (l.a_.drop l.n.Keys.length)).all (fun p=>(fk p.1 p.2).2)then(l.a_.take l.n.Keys.length++List.zipWith (fun g k=>(fk g k).1) l.n.Aggs (l.a_.drop l.n.Keys.length),true)else([],false)).1,_,hask.trans hcode,?_,rfl,fun hv=>?_⟩
   ·rw [hunf,hfin,bg,hs,hRl]
    have e16:decide (l.a_.length<=16)=true:=by simpa using ha
    rw [e16]
    cases (wZ l.a_ l.n.Keys 0&&(l.n.Aggs.zip (l.a_.drop l.n.Keys.length)).all (fun p=>(fk p.1 p.2).2))with
    |true=>simp [h9]
    |false=>simp
   ·rw [hs,nC,lq]at hv
    rw [bh hv.1]
    refine⟨rfl,by omega,by omega,fun x V=>?_⟩
    rcases tQ.1 V with V|V
    ·exact hKa.vals x (List.mem_of_mem_take V)
    ·obtain⟨j,hj,hjx⟩:=List.getElem_of_mem V
     rw [List.getElem_zipWith]at hjx
     have hm:(l.a_.drop l.n.Keys.length)[j]'(by simp at hj ⊢;omega)∈l.a_:=List.mem_of_mem_drop (F6 _)
     have:=hKa.vals _ hm
     rw [<-hjx]
     unfold fk
     split
     ·exact this
     ·split
      ·omega
      ·split<;>exact this
  ·refine⟨false,l.result,(if wZ l.a_ l.n.Keys 0&&(l.n.Aggs.zip (l.a_.drop l.n.Keys.length)).all (fun p=>(fk p.1 p.2).2)then(l.a_.take l.n.Keys.length++List.zipWith (fun g k=>(fk g k).1) l.n.Aggs (l.a_.drop l.n.Keys.length),true)else([],false)).1,false,hask.trans ?_,?_,by simp,fun h=>by cases h⟩
   ·unfold dA
    rw [hA,bg,bh (by simp [h9])]
   ·rw [hunf,hfin,bg]
    have:(e.Op==9)=false:=by simpa using h9
    rw [this]
    split<;>rfl
 ·refine⟨false,l.result,[],false,hask.trans ?_,?_,by simp,fun h=>by cases h⟩
  ·unfold dA
   have hcond:((((e.Op==(9:Int))&&(decide ((l.n.Keys.length:Int)<=(3:Int))))&&(decide ((l.n.Aggs.length:Int)<=(12:Int))))&&((IntKind.i64.wrap ((l.n.Keys.length:Int)+(l.n.Aggs.length:Int)))==(l.a_.length:Int)))=false:=by
    rw [hw,DF];intro hh;apply hc;simp at hh;omega
   rw [hA,bg,hcond,bh (by simp)]
  ·have:qa l.n l.a_=some ([],false):=by
    unfold qa
    rw [hw,bh (by
     cases K:((((decide ((3:Int)<(l.n.Keys.length:Int)))||(decide ((12:Int)<(l.n.Aggs.length:Int))))||((((l.n.Keys.length+l.n.Aggs.length:Nat):Int)) !=(l.a_.length:Int)))||((l.a_.length:Int)==(0:Int)))with
     |true=>rfl
     |false=>exfalso;apply hc;simp at K;omega)]
   rw [hunf,this]
   rfl
end
end Go.Proofs.YtdohlidddcgfjaaGreat

