/- bS of this claim: Y14. -/
import Derived.Test.YtdohlidddcgfjaaGreatFfY13
set_option linter.all false
namespace Go.Proofs.YtdohlidddcgfjaaGreat
open Go

def EJ(op:Int):xH op=some (prt op):=by
 by_cases Y:op=1
 ·subst Y;rfl
 by_cases X:op=2
 ·subst X;rfl
 by_cases d:op=3
 ·subst d;rfl
 by_cases h4:op=4
 ·subst h4;rfl
 by_cases h5:op=5
 ·subst h5;rfl
 by_cases h6:op=6
 ·subst h6;rfl
 by_cases h7:op=7
 ·subst h7;rfl
 by_cases h8:op=8
 ·subst h8;rfl
 by_cases h9:op=9
 ·subst h9;rfl
 by_cases h10:op=10
 ·subst h10;rfl
 by_cases h11:op=11
 ·subst h11;rfl
 simp [xH,tN,sk,qT,lj,prt,Y,X,d,h4,h5,h6,h7,h8,h9,h10,h11]
def Sz(ns:List aa)(j ae:Nat):Prop:= ∀fu,j+1<fu->gI fu ns (j:Int)=some (ae:Int)
inductive Ro(ns:List aa):List Int->Int->Prop
 |nil:Ro ns [] (-1)
 |cons {rest:List Int} (j ae:Nat):Sz ns j ae->1<=ae->ae<=j+1->Ro ns rest ((j:Int)-(ae:Int))->Ro ns ((j:Int)::rest) (j:Int)
def Ro.neg{ns:List aa}{st:List Int}{p:Int}(h:Ro ns st p)(hp:p<0):st=[]:=by
 cases h with
 |nil=>rfl
 |cons j ae=>omega
def Ro.pos{ns:List aa}{st:List Int}{p:Int}(h:Ro ns st p)(hp:0<=p): ∃(j ae:Nat) (rest:List Int),p=(j:Int)/\st=(j:Int)::rest/\Sz ns j ae/\1<=ae/\ae<=j+1/\Ro ns rest ((j:Int)-(ae:Int)):=by
 cases h with
 |nil=>omega
 |cons j ae Y X d h4=>exact⟨j,ae,_,rfl,rfl,Y,X,d,h4⟩
def Ur(e:aa)(st:List Int):Prop:=(prt e.Op=0/\e.A= -1/\e.B= -1)\/(prt e.Op=1/\e.B= -1/\ ∃rest,st=e.A::rest)\/(prt e.Op=2/\ ∃rest,st=e.B::e.A::rest)
def vx(op:Int):prt op=0\/prt op=1\/prt op=2\/prt op= -1:=by
 unfold prt
 split
 ·exact .inl rfl
 ·split
  ·exact .inr (.inr (.inl rfl))
  ·split
   ·exact .inr (.inl rfl)
   ·exact .inr (.inr (.inr rfl))
def Im{ns:List aa}{fu:Nat}(h:0<fu){p:Int}(hp:p<0):gI fu ns p=some 0:=by
 obtain⟨fu,rfl⟩: ∃k,fu=k+1:=⟨fu-1,by omega⟩
 unfold gI
 rw [bh (by simp [hp])]
def J4{ns:List aa}{j:Nat}{n:aa}(hn:ns[j]? =some n)(hl:ns.length<=1000)(fu:Nat):gI (fu+1) ns (j:Int)=
  if prt n.Op=0 then(if n.A= -1/\n.B= -1 then some 1 else some 0)
  else if prt n.Op=1 then(gI fu ns ((j:Int)-1)).bind (fun r1=>if(n.A=(j:Int)-1/\n.B= -1)/\0<r1 then some (IntKind.i64.wrap (r1+(1:Int)))else some (0:Int))
  else if prt n.Op=2 then(gI fu ns ((j:Int)-1)).bind (fun r2=>if(r2=0\/n.B≠(j:Int)-1)\/n.A≠IntKind.i64.wrap ((j:Int)-1-r2)then some 0 else((gI fu ns n.A).bind fun r3=>if(decide ((0:Int)<r3))then(some (IntKind.i64.wrap ((IntKind.i64.wrap (r3+r2))+(1:Int))))else(some (0:Int))))
  else some 0:=by
 have hj:=(sy.1 hn).1
 conv=>lhs;unfold gI
 rw [aQ (by simp;omega),eU,hn]
 simp only [bf,EJ]
 rw [eM (n:=(j:Int)-1) (by omega) (by omega)]
 by_cases h0:prt n.Op=0
 ·simp only [h0,jR]
  rw [bh (by decide)]
  by_cases hAB:n.A= -1/\n.B= -1
  ·rw [bh hAB,bh (by simp [hAB])]
  ·rw [aQ hAB,aQ (by simpa using hAB)]
 by_cases Y:prt n.Op=1
 ·simp only [Y,jR,aQ (show¬(1:Int)=0 by decide)]
  rw [aQ (by decide),bh (by decide)]
  congr 1
  funext r1
  by_cases hc:(n.A=(j:Int)-1/\n.B= -1)/\0<r1
  ·rw [bh hc,bh (by simp [hc])]
  ·rw [aQ hc,aQ (by simpa using hc)]
 by_cases X:prt n.Op=2
 ·simp only [X,jR,aQ (show¬(2:Int)=0 by decide),aQ (show¬(2:Int)=1 by decide)]
  rw [aQ (by decide),aQ (by decide),bh (by decide)]
  congr 1
  funext r2
  by_cases hc:(r2=0\/n.B≠(j:Int)-1)\/n.A≠IntKind.i64.wrap ((j:Int)-1-r2)
  ·rw [bh hc,bh (by simpa using hc)]
  ·rw [aQ hc,aQ (by simpa using hc)]
 ·have d:prt n.Op= -1:=by have:=vx n.Op;omega
  simp only [d]
  rfl
def PX{ns:List aa}{st:List Int}{i:Nat}{e:aa}(hst:Ro ns st ((i:Int)-1))(he:ns[i]? =some e)(hl:ns.length<=100): ∃ae:Nat,Sz ns i ae/\((ae=0/\ ¬Ur e st)\/(1<=ae/\ae<=i+1/\Ur e st/\Ro ns ((i:Int)::st.drop (prt e.Op).toNat) (i:Int))):=by
 have hi:=(sy.1 he).1
 have step:=J4 he (by omega)
 have sz: ∀{ae:Nat},(∀fu,i<fu->gI (fu+1) ns (i:Int)=some (ae:Int))->Sz ns i ae:=fun h fu hf=>by
  obtain⟨fu,rfl⟩: ∃k,fu=k+1:=⟨fu-1,by omega⟩
  exact h fu (by omega)
 rcases vx e.Op with h0|h0|h0|h0
 ·by_cases hAB:e.A= -1/\e.B= -1
  ·have hs:Sz ns i 1:=sz fun fu _=>by rw [step,bh h0,bh hAB];rfl
   refine⟨1,hs,.inr ⟨eo _,by omega,.inl ⟨h0,hAB⟩,?_⟩⟩
   rw [h0]
   exact .cons i 1 hs (eo _) (by omega) hst
  ·refine⟨0,sz fun fu _=>by rw [step,bh h0,aQ hAB];rfl,.inl ⟨rfl,fun hp=>?_⟩⟩
   rcases hp with h|h|h
   ·exact hAB h.2
   ·omega
   ·omega
 ·by_cases hz:i=0
  ·have:=hst.neg (by omega)
   subst this
   refine⟨0,sz fun fu hf=>by rw [step,aQ (by omega),bh h0,Im (by omega) (by omega),bf,aQ (by omega)];rfl,.inl ⟨rfl,fun hp=>?_⟩⟩
   rcases hp with h|⟨_,_,r,h⟩|h
   ·omega
   ·cases h
   ·omega
  ·obtain⟨j,ae,rest,hj,rfl,g1,g2,g3,g4⟩:=hst.pos (by omega)
   by_cases hA:e.A=(i:Int)-1/\e.B= -1
   ·have hs:Sz ns i (ae+1):=sz fun fu hf=>by
     rw [step,aQ (by omega),bh h0,hj,g1 fu (by omega),bf,bh ⟨by rw [<-hj];exact hA,by omega⟩,eM (by omega) (by omega)];rfl
    refine⟨ae+1,hs,.inr ⟨by omega,by omega,.inr (.inl ⟨h0,hA.2,rest,by rw [hA.1,hj]⟩),?_⟩⟩
    rw [h0]
    refine .cons i (ae+1) hs (by omega) (by omega) ?_
    have:(i:Int)-((ae+1:Nat):Int)=(j:Int)-(ae:Int):=by omega
    rw [this]
    exact g4
   ·refine⟨0,sz fun fu hf=>by
     rw [step,aQ (by omega),bh h0,hj,g1 fu (by omega),bf,aQ (fun h=>hA (by rw [hj];exact h.1))];rfl,.inl ⟨rfl,fun hp=>?_⟩⟩
    rcases hp with h|⟨_,hB,r,h⟩|h
    ·omega
    ·injection h with h _
     exact hA ⟨by omega,hB⟩
    ·omega
 ·by_cases hz:i=0
  ·have:=hst.neg (by omega)
   subst this
   refine⟨0,sz fun fu hf=>by rw [step,aQ (by omega),aQ (by omega),bh h0,Im (by omega) (by omega),bf,bh (.inl (.inl rfl))];rfl,.inl ⟨rfl,fun hp=>?_⟩⟩
   rcases hp with h|h|⟨_,r,h⟩
   ·omega
   ·omega
   ·cases h
  ·obtain⟨j,ae,rest,hj,rfl,g1,g2,g3,g4⟩:=hst.pos (by omega)
   by_cases hAB:e.B=(i:Int)-1/\e.A=(j:Int)-(ae:Int)
   ·have hw:IntKind.i64.wrap ((j:Int)-(ae:Int))=(j:Int)-(ae:Int):=eM (by omega) (by omega)
    by_cases hn:(j:Int)-(ae:Int)<0
    ·have:=g4.neg hn
     subst this
     refine⟨0,sz fun fu hf=>by
      rw [step,aQ (by omega),aQ (by omega),bh h0,hj,g1 fu (by omega),bf,hw,aQ (by omega),Im (by omega) (by omega),bf,aQ (by decide)];rfl,.inl ⟨rfl,fun hp=>?_⟩⟩
     rcases hp with h|h|⟨_,r,h⟩
     ·omega
     ·omega
     ·injection h with _ h;cases h
    ·obtain⟨j2,s2,rest2,hj2,rfl,k1,k2,k3,k4⟩:=g4.pos (by omega)
     have hs:Sz ns i (s2+ae+1):=sz fun fu hf=>by
      rw [step,aQ (by omega),aQ (by omega),bh h0,hj,g1 fu (by omega),bf,hw,aQ (by omega),hAB.2,hj2,k1 fu (by omega),bf,bh (by simp;omega),eM (n:=(s2:Int)+(ae:Int)) (by omega) (by omega),eM (by omega) (by omega)];rfl
     refine⟨s2+ae+1,hs,.inr ⟨by omega,by omega,.inr (.inr ⟨h0,rest2,by rw [hAB.1,hAB.2,hj,hj2]⟩),?_⟩⟩
     rw [h0]
     refine .cons i (s2+ae+1) hs (by omega) (by omega) ?_
     have:(i:Int)-((s2+ae+1:Nat):Int)=(j2:Int)-(s2:Int):=by omega
     rw [this]
     exact k4
   ·have hw:IntKind.i64.wrap ((j:Int)-(ae:Int))=(j:Int)-(ae:Int):=eM (by omega) (by omega)
    refine⟨0,sz fun fu hf=>by
     rw [step,aQ (by omega),aQ (by omega),bh h0,hj,g1 fu (by omega),bf,hw,bh (by omega)];rfl,.inl ⟨rfl,fun hp=>?_⟩⟩
    rcases hp with h|h|⟨_,r,h⟩
    ·omega
    ·omega
    ·injection h with e1 e2
     by_cases hn:(j:Int)-(ae:Int)<0
     ·have:=g4.neg hn
      subst this
      cases e2
     ·obtain⟨j2,s2,rest2,hj2,rfl,_⟩:=g4.pos (by omega)
      injection e2 with e2 _
      exact hAB ⟨by omega,by omega⟩
 ·refine⟨0,sz fun fu _=>by rw [step,aQ (by omega),aQ (by omega),aQ (by omega)];rfl,.inl ⟨rfl,fun hp=>?_⟩⟩
  rcases hp with h|h|h<;>omega
def K3.nil:K3 []:=fun x V=>by cases V
def yO{op:Int}(h:0<=prt op):F9 op=true\/op=9\/op=10\/op=11:=by
 unfold prt at h
 simp only [F9,ly,ig]
 split at h
 ·omega
 ·split at h
  ·omega
  ·split at h
   ·omega
   ·omega
def SD{l:al}(h:Lb l)(hop:F9 l.n.Op=true): ∃ok0 R0,oe l.n.Op l ()=some (ok0,{l with result:=R0})/\(Ha l.n l.a_ l.b).2=(ok0&&decide (R0.length<=16))/\((Ha l.n l.a_ l.b).2=true->(Ha l.n l.a_ l.b).1=R0/\cF l.n l.a_ l.b=some (R0,true)/\R0.length<=16):=by
 obtain⟨ok,R,o,k,Y,X,d,h4⟩:=SV h hop
 refine⟨ok,R,Y,?_⟩
 have e:Ha l.n l.a_ l.b=if 16<k.length then([],false)else(k,o):=by unfold Ha;rw [X]
 rw [e]
 by_cases hl:16<k.length
 ·rw [bh hl]
  have:decide (k.length<=16)=false:=by simpa using hl
  rw [this,Bool.and_false]at d
  exact⟨d.symm,fun h=>by cases h⟩
 ·rw [aQ hl]
  have:decide (k.length<=16)=true:=by simp;omega
  rw [this,Bool.and_true]at d
  refine⟨d.symm,fun ho=>?_⟩
  have ho:o=true:=ho
  subst ho
  have:=h4 d
  subst this
  exact⟨rfl,X,by omega⟩
def lu(e:aa)(a b:List Int):List (List Int):=if prt e.Op=0 then []else if prt e.Op=1 then [a]else [a,b]
def kS(e:aa)(a b:List Int):Bool:=(e.Op==11)||(!(decide ((4:Int)∈a))&& !(decide ((4:Int)∈b)))
def Qw(n:aa){a b:List Int}(d:K3 a)(hal:a.length<=16)(h:(4:Int)∈b):dK n [a,b]=some ([],false):=by
 unfold dK bX
 rw [yF,bf,aQ (by simpa using d.four),Ba _ _ _ _ _ _ d (by show 0+a.length<=1000;omega)]
 unfold d7
 show((app ([]:List aa) [lg,j8 0 a]).bind fun l5=>if(((0:Nat):Int)==(0:Int))then(bX [b] 1 {n with A:=IntKind.i64.wrap ((l5.length:Int)-1)} ⟨l5⟩)else(bX [b] 1 {n with B:=IntKind.i64.wrap ((l5.length:Int)-1)} ⟨l5⟩))=_
 rw [cD (by simp),bf,bh (by rfl)]
 exact Bb _ h _ _ _
section
variable{l:al}{nx:Nat->(List (List Int))->Option ((List (List Int))×Int)}{i:Nat}{out:List (List Int)}
def CC(l:al)(nx:Nat->(List (List Int))->Option ((List (List Int))×Int))(i:Nat)(out:List (List Int)):Prop:= ∃ok0 R0 k o,oe l.n.Op l ()=some (ok0,{l with result:=R0})/\d9 l.nodes nx i l.n out (lu l.n l.a_ l.b)=dx l.nodes nx i l.n out o k/\o=(kS l.n l.a_ l.b&&(ok0&&decide (R0.length<=16)))/\(o=true->k=R0/\Kd R0)
def Ys(h:Lb l)(hop:F9 l.n.Op=true)(ho:Cf l.n=true)(h0:prt l.n.Op=0->l.n.A= -1/\l.n.B= -1/\l.a_=[]/\l.b=[])(Y:prt l.n.Op=1->l.n.B= -1/\Kd l.a_/\l.b=[])(X:prt l.n.Op=2->Kd l.a_/\Kd l.b):CC l nx i out:=by
 obtain⟨ok0,R0,e1,e2,e3⟩:=SD h hop
 have hop' :=nA hop
 have key: ∀(r:List Int×Bool),r=(if kS l.n l.a_ l.b then Ha l.n l.a_ l.b else([],false))->d9 l.nodes nx i l.n out (lu l.n l.a_ l.b)=dx l.nodes nx i l.n out r.2 r.1->(kS l.n l.a_ l.b=true->K3 l.a_/\K3 l.b/\(l.n.Op≠1->1<=l.a_.length))->CC l nx i out:=by
  intro r hr hk d
  refine⟨ok0,R0,r.1,r.2,e1,hk,?_,fun ho=>?_⟩
  ·rw [hr]
   cases hs:kS l.n l.a_ l.b with
   |false=>rfl
   |true=>rw [bh rfl,nN];exact e2
  ·cases hs:kS l.n l.a_ l.b with
   |false=>rw [hr,hs,aQ (by simp)]at ho;cases ho
   |true=>
    rw [hs,bh rfl]at hr
    rw [hr]at ho ⊢
    obtain⟨g1,g2,g3⟩:=e3 ho
    obtain⟨q1,q2,q3⟩:=d hs
    have:=WP h.n hop q1 q2 h.a h.b q3 g2
    exact⟨g1,this.2,g3,fun x V=>by have:=this.1 x V;omega⟩
 have hk3:l.n.Op≠1->d9 l.nodes nx i l.n out (lu l.n l.a_ l.b)=(dK l.n (lu l.n l.a_ l.b)).bind fun r8=>dx l.nodes nx i l.n out r8.2 r8.1:=fun hn=>by
  unfold d9
  rw [aQ (by simp;omega),aQ (by simp;omega),aQ (by simp;omega),aQ (by simpa using hn)]
 have hs11:(l.n.Op==11)=false:=by simp;omega
 rcases vx l.n.Op with hp|hp|hp|hp
 ·have hop1:l.n.Op=1:=by
   unfold prt at hp
   split at hp
   ·omega
   ·split at hp
    ·omega
    ·split at hp<;>omega
  obtain⟨hA,hB,ha,H⟩:=h0 hp
  have hs:kS l.n l.a_ l.b=true:=by unfold kS;rw [ha,H];simp
  refine key (Ha l.n [] []) (by rw [hs,bh rfl,ha,H]) ?_ (fun _=>⟨by rw [ha];exact K3.nil,by rw [H];exact K3.nil,fun h=>absurd hop1 h⟩)
  unfold d9
  rw [aQ (by simp;omega),aQ (by simp;omega),aQ (by simp;omega),bh (by simp [hop1]),Qv h.n hop1 hA hB ho]
  rfl
 ·have hop1:l.n.Op≠1:=fun hc=>by rw [hc]at hp;exact absurd hp (by decide)
  have hop27: ¬(l.n.Op=2\/l.n.Op=7):=fun hc=>by rcases hc with hc|hc<;>(rw [hc]at hp;exact absurd hp (by decide))
  obtain⟨hB,hKa,H⟩:=Y hp
  have hparts:lu l.n l.a_ l.b=[l.a_]:=by unfold lu;rw [aQ (by omega),bh hp]
  have hs:kS l.n l.a_ l.b= !(decide ((4:Int)∈l.a_)):=by unfold kS;rw [hs11,H];simp
  by_cases h4:(4:Int)∈l.a_
  ·have hs' :kS l.n l.a_ l.b=false:=by rw [hs];simp [h4]
   refine key ([],false) (by rw [hs'];rfl) ?_ (fun h=>by rw [hs']at h;cases h)
   rw [hk3 hop1,hparts]
   unfold dK
   rw [Bb _ h4,bf]
  ·have hs' :kS l.n l.a_ l.b=true:=by rw [hs];simp [h4]
   refine key (Ha l.n l.a_ []) (by rw [hs',bh rfl,H]) ?_ (fun _=>⟨hKa.k3 h4,by rw [H];exact K3.nil,fun _=>hKa.pos⟩)
   rw [hk3 hop1,hparts,KB h.n hop hop1 hop27 hB ho hKa (hKa.k3 h4),bf]
 ·have hop1:l.n.Op≠1:=fun hc=>by rw [hc]at hp;exact absurd hp (by decide)
  have hop27:l.n.Op=2\/l.n.Op=7:=by
   unfold prt at hp
   split at hp
   ·omega
   ·split at hp
    ·omega
    ·split at hp<;>omega
  obtain⟨hKa,hKb⟩:=X hp
  have hparts:lu l.n l.a_ l.b=[l.a_,l.b]:=by unfold lu;rw [aQ (by omega),aQ (by omega)]
  have hs:kS l.n l.a_ l.b=(!(decide ((4:Int)∈l.a_))&& !(decide ((4:Int)∈l.b))):=by unfold kS;rw [hs11,uX]
  by_cases h4:(4:Int)∈l.a_
  ·have hs' :kS l.n l.a_ l.b=false:=by rw [hs];simp [h4]
   refine key ([],false) (by rw [hs'];rfl) ?_ (fun h=>by rw [hs']at h;cases h)
   rw [hk3 hop1,hparts]
   unfold dK
   rw [Bb _ h4,bf]
  ·by_cases h4b:(4:Int)∈l.b
   ·have hs' :kS l.n l.a_ l.b=false:=by rw [hs];simp [h4b]
    refine key ([],false) (by rw [hs'];rfl) ?_ (fun h=>by rw [hs']at h;cases h)
    rw [hk3 hop1,hparts,Qw _ (hKa.k3 h4) hKa.le h4b,bf]
   ·have hs' :kS l.n l.a_ l.b=true:=by rw [hs];simp [h4,h4b]
    refine key (Ha l.n l.a_ l.b) (by rw [hs',bh rfl]) ?_ (fun _=>⟨hKa.k3 h4,hKb.k3 h4b,fun _=>hKa.pos⟩)
    rw [hk3 hop1,hparts,SB h.n hop27 ho hKa (hKa.k3 h4) hKb (hKb.k3 h4b),bf]
 ·exfalso
  unfold prt at hp
  split at hp
  ·omega
  ·split at hp
   ·omega
   ·split at hp<;>omega
def S4(hop:l.n.Op=9)(ha:l.a_=[])(H:l.b=[]):CC l nx i out:=by
 refine⟨IP l.n,l.n.Kinds,l.n.Kinds,IP l.n,by rw [hop];exact E3 l,?_,?_,fun h=>⟨rfl,S8 h⟩⟩
 ·unfold d9
  rw [bh (by simp [hop]),QL,bf]
 ·have hs:kS l.n l.a_ l.b=true:=by unfold kS;rw [ha,H];simp
  rw [hs,nN]
  cases h:IP l.n with
  |false=>rfl
  |true=>have:=(S8 h).le;simp [this]
def MY(h:Lb l)(hop:l.n.Op=10)(ho:Cf {l.n with Op:=4}=true)(hB:l.n.B= -1)(hKa:Kd l.a_)(H:l.b=[]):CC l nx i out:=by
 have hparts:lu l.n l.a_ l.b=[l.a_]:=by unfold lu;rw [hop];rfl
 have hs:kS l.n l.a_ l.b= !(decide ((4:Int)∈l.a_)):=by unfold kS;rw [hop,H];simp
 have hn4:je {l.n with Op:=4}:=⟨h.n.cond,h.n.kinds,h.n.keys,h.n.aggs,h.n.items,h.n.order,h.n.args,h.n.exprs⟩
 have hk:=h.n.keys
 have K:=h.n.aggs
 obtain⟨ok,R,o,k,g1,g2,g3,g4⟩:=Ab h (n:={l.n with Op:=4}) rfl hn4 rfl rfl []
 -- what the code does
 have hcode: ∃R0,oe l.n.Op l ()=some (ok,{l with result:=R0})/\(ok=true->pO l.n R=some R0/\R0.length=R.length/\ ∀x∈R0,x∈R\/x=4):=by
  rw [hop]
  show∃R0,d8 l=some (ok,{l with result:=R0})/\_
  unfold d8
  rw [g1,bf]
  cases ok with
  |false=>exact⟨R,rfl,fun h=>by cases h⟩
  |true=>
   obtain⟨_,hRl⟩:=g4 rfl
   obtain⟨R',q1,q2,q3,q4⟩:=Ce (l:=l) (n:=l.n) rfl hk l.n.Aggs 0 R (by omega) (by omega)
   refine⟨R',q1,fun _=>⟨?_,q3,q4⟩⟩
   unfold pO
   rw [cD (by simp;omega),bf,mh]
   exact q2
 obtain⟨R0,c1,c2⟩:=hcode
 have hunf:d9 l.nodes nx i l.n out (lu l.n l.a_ l.b)=(dK {l.n with Op:=4} [l.a_]).bind fun r4=>if r4.2 then((pO l.n r4.1).bind fun r5=>dx l.nodes nx i l.n out r4.2 r5)else(dx l.nodes nx i l.n out r4.2 r4.1):=by
  unfold d9
  rw [aQ (by simp [hop]),bh (by simp [hop]),hparts]
 by_cases h4:(4:Int)∈l.a_
 ·refine⟨ok,R0,[],false,c1,?_,by rw [hs];simp [h4],fun h=>by cases h⟩
  rw [hunf]
  unfold dK
  rw [Bb _ h4,bf,aQ (by simp)]
 ·have hop1:dK {l.n with Op:=4} [l.a_]=some (Ha {l.n with Op:=4} l.a_ []):=KB hn4 rfl (by show¬(4:Int)=1;decide) (by show¬((4:Int)=2\/(4:Int)=7);decide) hB ho hKa (hKa.k3 h4)
  have hopK:Ha {l.n with Op:=4} l.a_ []=if 16<k.length then([],false)else(k,o):=by unfold Ha;rw [g2]
  rw [hop1,bf,hopK]at hunf
  cases ok with
  |false=>
   refine⟨false,R0,(if 16<k.length then([],false)else(k,o)).1,false,c1,?_,by simp,fun h=>by cases h⟩
   rw [hunf,<-g3]
   split<;>rfl
  |true=>
   obtain⟨hRk,hRl⟩:=g4 rfl
   obtain⟨c3,c4,c5⟩:=c2 rfl
   rw [<-g3,<-hRk]at hunf
   by_cases hl:16<R.length
   ·rw [bh hl]at hunf
    refine⟨true,R0,[],false,c1,by rw [hunf];rfl,by rw [c4];simp;omega,fun h=>by cases h⟩
   ·rw [aQ hl]at hunf
    refine⟨true,R0,R0,true,c1,?_,by rw [hs,c4];simp [h4];omega,fun _=>⟨rfl,?_⟩⟩
    ·rw [hunf]
     show(pO l.n R).bind _=_
     rw [c3,bf]
    ·have hr:=WP (n:={l.n with Op:=4}) (b:=[]) hn4 rfl (hKa.k3 h4) (fun x V=>by cases V) h.a (by simp) (fun _=>hKa.pos) (by rw [g2,<-g3])
     rw [<-hRk]at hr
     refine⟨by omega,by omega,fun x V=>?_⟩
     rcases c5 x V with V|rfl
     ·have:=hr.1 x V;omega
     ·omega
def S5(h:Lb l)(hop:l.n.Op=11)(hKa:Kd l.a_){e:aa}(hA:gV l.nodes l.n.A=some e):CC l nx i out:=by
 have hparts:lu l.n l.a_ l.b=[l.a_]:=by unfold lu;rw [hop];rfl
 have hs:kS l.n l.a_ l.b=true:=by unfold kS;rw [hop];rfl
 have hk:=h.n.keys
 have K:=h.n.aggs
 have ha:=hKa.le
 have hp:=hKa.pos
 have hunf:d9 l.nodes nx i l.n out (lu l.n l.a_ l.b)=(qp l.n l.a_).bind fun r6=>(if r6.2 then(some (e.Op==(9:Int)))else some false).bind fun t1=>dx l.nodes nx i l.n out t1 r6.1:=by
  unfold d9
  rw [aQ (by simp [hop]),aQ (by simp [hop]),bh (by simp [hop]),hparts,hA]
  rfl
 have hask:oe l.n.Op l ()=dF l:=by rw [hop];rfl
 have hw:IntKind.i64.wrap ((l.n.Keys.length:Int)+(l.n.Aggs.length:Int))=((l.n.Keys.length+l.n.Aggs.length:Nat):Int):=by rw [eM (by omega) (by omega)];omega
 by_cases hc:(l.n.Keys.length<=3/\l.n.Aggs.length<=12)/\l.n.Keys.length+l.n.Aggs.length=l.a_.length
 ·-- what both come to, but for where it comes from
  have hfin:qp l.n l.a_=some (if xi l.a_ l.n.Keys 0&&(l.n.Aggs.zip (l.a_.drop l.n.Keys.length)).all (fun p=>(fk p.1 p.2).2)then(l.a_.take l.n.Keys.length++List.zipWith (fun g k=>(fk g k).1) l.n.Aggs (l.a_.drop l.n.Keys.length),true)else([],false)):=by
   unfold qp
   rw [hw,aQ (by intro hh;simp only [y7,ig,xv,oY,ne_eq]at hh;omega)]
   have:=KR (n:=l.n) (a:=l.a_) (by omega) (by omega) l.n.Keys 0 (vj _)
   rw [List.take_zero]at this
   rw [this]
   cases hkb:xi l.a_ l.n.Keys 0 with
   |false=>rw [aQ (by simp)];rfl
   |true=>rw [bh rfl,OU hk l.n.Aggs 0 _ (l.a_.drop l.n.Keys.length) (by simp;omega) rfl (by simp;omega) (by omega),nN]
  by_cases h9:e.Op=9
  ·have hcode:dF l=some (xi l.a_ l.n.Keys 0&&(l.n.Aggs.zip (l.a_.drop l.n.Keys.length)).all (fun p=>(fk p.1 p.2).2),{l with result:=l.a_.take l.n.Keys.length++List.zipWith (fun g k=>(fk g k).1) l.n.Aggs (l.a_.drop l.n.Keys.length)}):=by
    unfold dF
    have hcond:((((e.Op==(9:Int))&&(decide ((l.n.Keys.length:Int)<=(3:Int))))&&(decide ((l.n.Aggs.length:Int)<=(12:Int))))&&((IntKind.i64.wrap ((l.n.Keys.length:Int)+(l.n.Aggs.length:Int)))==(l.a_.length:Int)))=true:=by
     rw [hw];simp [h9];omega
    rw [hA,bf,hcond,aQ (by simp),td _ (by omega),bf,Ci (by omega) l.a_ l.n.Keys 0 true (vj _),nN]
    have:=Fe (l:=l) hk l.n.Aggs 0 (xi l.a_ l.n.Keys 0) (l.a_.take l.n.Keys.length) (l.a_.drop l.n.Keys.length) (by simp;omega) (by simp;omega) rfl (by simp;omega)
    rw [sL]at this
    exact this
   have hRl:(l.a_.take l.n.Keys.length++List.zipWith (fun g k=>(fk g k).1) l.n.Aggs (l.a_.drop l.n.Keys.length)).length=l.a_.length:=by simp;omega
   refine⟨_,_,(if xi l.a_ l.n.Keys 0&&(l.n.Aggs.zip (l.a_.drop l.n.Keys.length)).all (fun p=>(fk p.1 p.2).2)then(l.a_.take l.n.Keys.length++List.zipWith (fun g k=>(fk g k).1) l.n.Aggs (l.a_.drop l.n.Keys.length),true)else([],false)).1,_,hask.trans hcode,?_,rfl,fun hv=>?_⟩
   ·rw [hunf,hfin,bf,hs,hRl]
    have e16:decide (l.a_.length<=16)=true:=by simpa using ha
    rw [e16]
    cases (xi l.a_ l.n.Keys 0&&(l.n.Aggs.zip (l.a_.drop l.n.Keys.length)).all (fun p=>(fk p.1 p.2).2))with
    |true=>simp [h9]
    |false=>simp
   ·rw [hs,nN,ly]at hv
    rw [bh hv.1]
    refine⟨rfl,by omega,by omega,fun x V=>?_⟩
    rcases ui.1 V with V|V
    ·exact hKa.vals x (List.mem_of_mem_take V)
    ·obtain⟨j,hj,hjx⟩:=List.getElem_of_mem V
     rw [List.getElem_zipWith]at hjx
     have hm:(l.a_.drop l.n.Keys.length)[j]'(by simp at hj ⊢;omega)∈l.a_:=List.mem_of_mem_drop (CL _)
     have:=hKa.vals _ hm
     rw [<-hjx]
     unfold fk
     split
     ·exact this
     ·split
      ·omega
      ·split<;>exact this
  ·refine⟨false,l.result,(if xi l.a_ l.n.Keys 0&&(l.n.Aggs.zip (l.a_.drop l.n.Keys.length)).all (fun p=>(fk p.1 p.2).2)then(l.a_.take l.n.Keys.length++List.zipWith (fun g k=>(fk g k).1) l.n.Aggs (l.a_.drop l.n.Keys.length),true)else([],false)).1,false,hask.trans ?_,?_,by simp,fun h=>by cases h⟩
   ·unfold dF
    rw [hA,bf,bh (by simp [h9])]
   ·rw [hunf,hfin,bf]
    have:(e.Op==9)=false:=by simpa using h9
    rw [this]
    split<;>rfl
 ·refine⟨false,l.result,[],false,hask.trans ?_,?_,by simp,fun h=>by cases h⟩
  ·unfold dF
   have hcond:((((e.Op==(9:Int))&&(decide ((l.n.Keys.length:Int)<=(3:Int))))&&(decide ((l.n.Aggs.length:Int)<=(12:Int))))&&((IntKind.i64.wrap ((l.n.Keys.length:Int)+(l.n.Aggs.length:Int)))==(l.a_.length:Int)))=false:=by
    rw [hw,D4];intro hh;apply hc;simp at hh;omega
   rw [hA,bf,hcond,bh (by simp)]
  ·have:qp l.n l.a_=some ([],false):=by
    unfold qp
    rw [hw,bh (by
     cases H:((((decide ((3:Int)<(l.n.Keys.length:Int)))||(decide ((12:Int)<(l.n.Aggs.length:Int))))||((((l.n.Keys.length+l.n.Aggs.length:Nat):Int)) !=(l.a_.length:Int)))||((l.a_.length:Int)==(0:Int)))with
     |true=>rfl
     |false=>exfalso;apply hc;simp at H;omega)]
   rw [hunf,this]
   rfl
end
end Go.Proofs.YtdohlidddcgfjaaGreat

