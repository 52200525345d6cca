/- cE of this claim: Y14. -/
import Derived.Test.YtdohlidddcgfjaaGreatFcY13
set_option linter.all false
namespace Go.Proofs.YtdohlidddcgfjaaGreat
open Go

def Es(op:Int):vd op=some (prt op):=by
 by_cases X:op=1
 ·subst X;rfl
 by_cases K:op=2
 ·subst K;rfl
 by_cases h3:op=3
 ·subst h3;rfl
 by_cases h4:op=4
 ·subst h4;rfl
 by_cases h5:op=5
 ·subst h5;rfl
 by_cases h6:op=6
 ·subst h6;rfl
 by_cases h7:op=7
 ·subst h7;rfl
 by_cases h8:op=8
 ·subst h8;rfl
 by_cases h9:op=9
 ·subst h9;rfl
 by_cases h10:op=10
 ·subst h10;rfl
 by_cases h11:op=11
 ·subst h11;rfl
 simp [vd,rM,rh,pL,kq,prt,X,K,h3,h4,h5,h6,h7,h8,h9,h10,h11]
def Sz(ns:List tV)(j ac:Nat):Prop:= ∀fu,j+1<fu->gH fu ns (j:Int)=some (ac:Int)
inductive PV(ns:List tV):List Int->Int->Prop
 |nil:PV ns [] (-1)
 |cons {rest:List Int} (j ac:Nat):Sz ns j ac->1<=ac->ac<=j+1->PV ns rest ((j:Int)-(ac:Int))->PV ns ((j:Int)::rest) (j:Int)
def PV.neg{ns:List tV}{st:List Int}{p:Int}(h:PV ns st p)(hp:p<0):st=[]:=by
 cases h with
 |nil=>rfl
 |cons j ac=>omega
def PV.pos{ns:List tV}{st:List Int}{p:Int}(h:PV ns st p)(hp:0<=p): ∃(j ac:Nat) (rest:List Int),p=(j:Int)/\st=(j:Int)::rest/\Sz ns j ac/\1<=ac/\ac<=j+1/\PV ns rest ((j:Int)-(ac:Int)):=by
 cases h with
 |nil=>omega
 |cons j ac X K h3 h4=>exact⟨j,ac,_,rfl,rfl,X,K,h3,h4⟩
def SR(e:tV)(st:List Int):Prop:=(prt e.Op=0/\e.A= -1/\e.B= -1)\/(prt e.Op=1/\e.B= -1/\ ∃rest,st=e.A::rest)\/(prt e.Op=2/\ ∃rest,st=e.B::e.A::rest)
def wh(op:Int):prt op=0\/prt op=1\/prt op=2\/prt op= -1:=by
 unfold prt
 split
 ·exact .inl rfl
 ·split
  ·exact .inr (.inr (.inl rfl))
  ·split
   ·exact .inr (.inl rfl)
   ·exact .inr (.inr (.inr rfl))
def HN{ns:List tV}{fu:Nat}(h:0<fu){p:Int}(hp:p<0):gH fu ns p=some 0:=by
 obtain⟨fu,rfl⟩: ∃k,fu=k+1:=⟨fu-1,by omega⟩
 unfold gH
 rw [bJ (by simp [hp])]
def Jz{ns:List tV}{j:Nat}{n:tV}(hn:ns[j]? =some n)(hl:ns.length<=1000)(fu:Nat):gH (fu+1) ns (j:Int)=
  if prt n.Op=0 then(if n.A= -1/\n.B= -1 then some 1 else some 0)
  else if prt n.Op=1 then(gH fu ns ((j:Int)-1)).bind (fun r1=>if(n.A=(j:Int)-1/\n.B= -1)/\0<r1 then some (IntKind.i64.wrap (r1+(1:Int)))else some (0:Int))
  else if prt n.Op=2 then(gH fu ns ((j:Int)-1)).bind (fun r2=>if(r2=0\/n.B≠(j:Int)-1)\/n.A≠IntKind.i64.wrap ((j:Int)-1-r2)then some 0 else((gH fu ns n.A).bind fun r3=>if(decide ((0:Int)<r3))then(some (IntKind.i64.wrap ((IntKind.i64.wrap (r3+r2))+(1:Int))))else(some (0:Int))))
  else some 0:=by
 have hj:=(tp.1 hn).1
 conv=>lhs;unfold gH
 rw [bk (by simp;omega),eu,hn]
 simp only [bG,Es]
 rw [fg (n:=(j:Int)-1) (by omega) (by omega)]
 by_cases h0:prt n.Op=0
 ·simp only [h0,mG]
  rw [bJ (by decide)]
  by_cases hAB:n.A= -1/\n.B= -1
  ·rw [bJ hAB,bJ (by simp [hAB])]
  ·rw [bk hAB,bk (by simpa using hAB)]
 by_cases X:prt n.Op=1
 ·simp only [X,mG,bk (show¬(1:Int)=0 by decide)]
  rw [bk (by decide),bJ (by decide)]
  congr 1
  funext r1
  by_cases hc:(n.A=(j:Int)-1/\n.B= -1)/\0<r1
  ·rw [bJ hc,bJ (by simp [hc])]
  ·rw [bk hc,bk (by simpa using hc)]
 by_cases K:prt n.Op=2
 ·simp only [K,mG,bk (show¬(2:Int)=0 by decide),bk (show¬(2:Int)=1 by decide)]
  rw [bk (by decide),bk (by decide),bJ (by decide)]
  congr 1
  funext r2
  by_cases hc:(r2=0\/n.B≠(j:Int)-1)\/n.A≠IntKind.i64.wrap ((j:Int)-1-r2)
  ·rw [bJ hc,bJ (by simpa using hc)]
  ·rw [bk hc,bk (by simpa using hc)]
 ·have h3:prt n.Op= -1:=by have:=wh n.Op;omega
  simp only [h3]
  rfl
def OH{ns:List tV}{st:List Int}{i:Nat}{e:tV}(hst:PV ns st ((i:Int)-1))(he:ns[i]? =some e)(hl:ns.length<=100): ∃ac:Nat,Sz ns i ac/\((ac=0/\ ¬SR e st)\/(1<=ac/\ac<=i+1/\SR e st/\PV ns ((i:Int)::st.drop (prt e.Op).toNat) (i:Int))):=by
 have hi:=(tp.1 he).1
 have step:=Jz he (by omega)
 have sz: ∀{ac:Nat},(∀fu,i<fu->gH (fu+1) ns (i:Int)=some (ac:Int))->Sz ns i ac:=fun h fu hf=>by
  obtain⟨fu,rfl⟩: ∃k,fu=k+1:=⟨fu-1,by omega⟩
  exact h fu (by omega)
 rcases wh e.Op with h0|h0|h0|h0
 ·by_cases hAB:e.A= -1/\e.B= -1
  ·have hs:Sz ns i 1:=sz fun fu _=>by rw [step,bJ h0,bJ hAB];rfl
   refine⟨1,hs,.inr ⟨eJ _,by omega,.inl ⟨h0,hAB⟩,?_⟩⟩
   rw [h0]
   exact .cons i 1 hs (eJ _) (by omega) hst
  ·refine⟨0,sz fun fu _=>by rw [step,bJ h0,bk hAB];rfl,.inl ⟨rfl,fun hp=>?_⟩⟩
   rcases hp with h|h|h
   ·exact hAB h.2
   ·omega
   ·omega
 ·by_cases hz:i=0
  ·have:=hst.neg (by omega)
   subst this
   refine⟨0,sz fun fu hf=>by rw [step,bk (by omega),bJ h0,HN (by omega) (by omega),bG,bk (by omega)];rfl,.inl ⟨rfl,fun hp=>?_⟩⟩
   rcases hp with h|⟨_,_,r,h⟩|h
   ·omega
   ·cases h
   ·omega
  ·obtain⟨j,ac,rest,hj,rfl,g1,g2,g3,g4⟩:=hst.pos (by omega)
   by_cases hA:e.A=(i:Int)-1/\e.B= -1
   ·have hs:Sz ns i (ac+1):=sz fun fu hf=>by
     rw [step,bk (by omega),bJ h0,hj,g1 fu (by omega),bG,bJ ⟨by rw [<-hj];exact hA,by omega⟩,fg (by omega) (by omega)];rfl
    refine⟨ac+1,hs,.inr ⟨by omega,by omega,.inr (.inl ⟨h0,hA.2,rest,by rw [hA.1,hj]⟩),?_⟩⟩
    rw [h0]
    refine .cons i (ac+1) hs (by omega) (by omega) ?_
    have:(i:Int)-((ac+1:Nat):Int)=(j:Int)-(ac:Int):=by omega
    rw [this]
    exact g4
   ·refine⟨0,sz fun fu hf=>by
     rw [step,bk (by omega),bJ h0,hj,g1 fu (by omega),bG,bk (fun h=>hA (by rw [hj];exact h.1))];rfl,.inl ⟨rfl,fun hp=>?_⟩⟩
    rcases hp with h|⟨_,hB,r,h⟩|h
    ·omega
    ·injection h with h _
     exact hA ⟨by omega,hB⟩
    ·omega
 ·by_cases hz:i=0
  ·have:=hst.neg (by omega)
   subst this
   refine⟨0,sz fun fu hf=>by rw [step,bk (by omega),bk (by omega),bJ h0,HN (by omega) (by omega),bG,bJ (.inl (.inl rfl))];rfl,.inl ⟨rfl,fun hp=>?_⟩⟩
   rcases hp with h|h|⟨_,r,h⟩
   ·omega
   ·omega
   ·cases h
  ·obtain⟨j,ac,rest,hj,rfl,g1,g2,g3,g4⟩:=hst.pos (by omega)
   by_cases hAB:e.B=(i:Int)-1/\e.A=(j:Int)-(ac:Int)
   ·have hw:IntKind.i64.wrap ((j:Int)-(ac:Int))=(j:Int)-(ac:Int):=fg (by omega) (by omega)
    by_cases hn:(j:Int)-(ac:Int)<0
    ·have:=g4.neg hn
     subst this
     refine⟨0,sz fun fu hf=>by
      rw [step,bk (by omega),bk (by omega),bJ h0,hj,g1 fu (by omega),bG,hw,bk (by omega),HN (by omega) (by omega),bG,bk (by decide)];rfl,.inl ⟨rfl,fun hp=>?_⟩⟩
     rcases hp with h|h|⟨_,r,h⟩
     ·omega
     ·omega
     ·injection h with _ h;cases h
    ·obtain⟨j2,s2,rest2,hj2,rfl,k1,k2,k3,k4⟩:=g4.pos (by omega)
     have hs:Sz ns i (s2+ac+1):=sz fun fu hf=>by
      rw [step,bk (by omega),bk (by omega),bJ h0,hj,g1 fu (by omega),bG,hw,bk (by omega),hAB.2,hj2,k1 fu (by omega),bG,bJ (by simp;omega),fg (n:=(s2:Int)+(ac:Int)) (by omega) (by omega),fg (by omega) (by omega)];rfl
     refine⟨s2+ac+1,hs,.inr ⟨by omega,by omega,.inr (.inr ⟨h0,rest2,by rw [hAB.1,hAB.2,hj,hj2]⟩),?_⟩⟩
     rw [h0]
     refine .cons i (s2+ac+1) hs (by omega) (by omega) ?_
     have:(i:Int)-((s2+ac+1:Nat):Int)=(j2:Int)-(s2:Int):=by omega
     rw [this]
     exact k4
   ·have hw:IntKind.i64.wrap ((j:Int)-(ac:Int))=(j:Int)-(ac:Int):=fg (by omega) (by omega)
    refine⟨0,sz fun fu hf=>by
     rw [step,bk (by omega),bk (by omega),bJ h0,hj,g1 fu (by omega),bG,hw,bJ (by omega)];rfl,.inl ⟨rfl,fun hp=>?_⟩⟩
    rcases hp with h|h|⟨_,r,h⟩
    ·omega
    ·omega
    ·injection h with e1 e2
     by_cases hn:(j:Int)-(ac:Int)<0
     ·have:=g4.neg hn
      subst this
      cases e2
     ·obtain⟨j2,s2,rest2,hj2,rfl,_⟩:=g4.pos (by omega)
      injection e2 with e2 _
      exact hAB ⟨by omega,by omega⟩
 ·refine⟨0,sz fun fu _=>by rw [step,bk (by omega),bk (by omega),bk (by omega)];rfl,.inl ⟨rfl,fun hp=>?_⟩⟩
  rcases hp with h|h|h<;>omega
def K3.nil:K3 []:=fun x V=>by cases V
def y4{op:Int}(h:0<=prt op):F0 op=true\/op=9\/op=10\/op=11:=by
 unfold prt at h
 simp only [F0,pt,mp]
 split at h
 ·omega
 ·split at h
  ·omega
  ·split at h
   ·omega
   ·omega
def Q3{l:aq}(h:Lb l)(hop:F0 l.n.Op=true): ∃ok0 R0,px l.n.Op l ()=some (ok0,{l with result:=R0})/\(GU l.n l.a_ l.b).2=(ok0&&decide (R0.length<=16))/\((GU l.n l.a_ l.b).2=true->(GU l.n l.a_ l.b).1=R0/\cK l.n l.a_ l.b=some (R0,true)/\R0.length<=16):=by
 obtain⟨ok,R,o,k,X,K,h3,h4⟩:=Rh h hop
 refine⟨ok,R,X,?_⟩
 have e:GU l.n l.a_ l.b=if 16<k.length then([],false)else(k,o):=by unfold GU;rw [K]
 rw [e]
 by_cases hl:16<k.length
 ·rw [bJ hl]
  have:decide (k.length<=16)=false:=by simpa using hl
  rw [this,Bool.and_false]at h3
  exact⟨h3.symm,fun h=>by cases h⟩
 ·rw [bk hl]
  have:decide (k.length<=16)=true:=by simp;omega
  rw [this,Bool.and_true]at h3
  refine⟨h3.symm,fun ho=>?_⟩
  have ho:o=true:=ho
  subst ho
  have:=h4 h3
  subst this
  exact⟨rfl,K,by omega⟩
def mg(e:tV)(a b:List Int):List (List Int):=if prt e.Op=0 then []else if prt e.Op=1 then [a]else [a,b]
def lw(e:tV)(a b:List Int):Bool:=(e.Op==11)||(!(decide ((4:Int)∈a))&& !(decide ((4:Int)∈b)))
def O5(n:tV){a b:List Int}(h3:K3 a)(hal:a.length<=16)(h:(4:Int)∈b):dO n [a,b]=some ([],false):=by
 unfold dO cb
 rw [yW,bG,bk (by simpa using h3.four),Bf _ _ _ _ _ _ h3 (by show 0+a.length<=1000;omega)]
 unfold dQ
 show((app ([]:List tV) [lN,kK 0 a]).bind fun l5=>if(((0:Nat):Int)==(0:Int))then(cb [b] 1 {n with A:=IntKind.i64.wrap ((l5.length:Int)-1)} ⟨l5⟩)else(cb [b] 1 {n with B:=IntKind.i64.wrap ((l5.length:Int)-1)} ⟨l5⟩))=_
 rw [cd (by simp),bG,bJ (by rfl)]
 exact Bg _ h _ _ _
section
variable{l:aq}{nx:Nat->(List (List Int))->Option ((List (List Int))×Int)}{i:Nat}{out:List (List Int)}
def CH(l:aq)(nx:Nat->(List (List Int))->Option ((List (List Int))×Int))(i:Nat)(out:List (List Int)):Prop:= ∃ok0 R0 k o,px l.n.Op l ()=some (ok0,{l with result:=R0})/\eC l.nodes nx i l.n out (mg l.n l.a_ l.b)=dr l.nodes nx i l.n out o k/\o=(lw l.n l.a_ l.b&&(ok0&&decide (R0.length<=16)))/\(o=true->k=R0/\Kd R0)
def WY(h:Lb l)(hop:F0 l.n.Op=true)(ho:Cg l.n=true)(h0:prt l.n.Op=0->l.n.A= -1/\l.n.B= -1/\l.a_=[]/\l.b=[])(X:prt l.n.Op=1->l.n.B= -1/\Kd l.a_/\l.b=[])(K:prt l.n.Op=2->Kd l.a_/\Kd l.b):CH l nx i out:=by
 obtain⟨ok0,R0,e1,e2,e3⟩:=Q3 h hop
 have hop' :=oP hop
 have key: ∀(r:List Int×Bool),r=(if lw l.n l.a_ l.b then GU l.n l.a_ l.b else([],false))->eC l.nodes nx i l.n out (mg l.n l.a_ l.b)=dr l.nodes nx i l.n out r.2 r.1->(lw l.n l.a_ l.b=true->K3 l.a_/\K3 l.b/\(l.n.Op≠1->1<=l.a_.length))->CH l nx i out:=by
  intro r hr hk h3
  refine⟨ok0,R0,r.1,r.2,e1,hk,?_,fun ho=>?_⟩
  ·rw [hr]
   cases hs:lw l.n l.a_ l.b with
   |false=>rfl
   |true=>rw [bJ rfl,oX];exact e2
  ·cases hs:lw l.n l.a_ l.b with
   |false=>rw [hr,hs,bk (by simp)]at ho;cases ho
   |true=>
    rw [hs,bJ rfl]at hr
    rw [hr]at ho ⊢
    obtain⟨g1,g2,g3⟩:=e3 ho
    obtain⟨q1,q2,q3⟩:=h3 hs
    have:=Vy h.n hop q1 q2 h.a h.b q3 g2
    exact⟨g1,this.2,g3,fun x V=>by have:=this.1 x V;omega⟩
 have hk3:l.n.Op≠1->eC l.nodes nx i l.n out (mg l.n l.a_ l.b)=(dO l.n (mg l.n l.a_ l.b)).bind fun r8=>dr l.nodes nx i l.n out r8.2 r8.1:=fun hn=>by
  unfold eC
  rw [bk (by simp;omega),bk (by simp;omega),bk (by simp;omega),bk (by simpa using hn)]
 have hs11:(l.n.Op==11)=false:=by simp;omega
 rcases wh l.n.Op with hp|hp|hp|hp
 ·have hop1:l.n.Op=1:=by
   unfold prt at hp
   split at hp
   ·omega
   ·split at hp
    ·omega
    ·split at hp<;>omega
  obtain⟨hA,hB,ha,H⟩:=h0 hp
  have hs:lw l.n l.a_ l.b=true:=by unfold lw;rw [ha,H];simp
  refine key (GU l.n [] []) (by rw [hs,bJ rfl,ha,H]) ?_ (fun _=>⟨by rw [ha];exact K3.nil,by rw [H];exact K3.nil,fun h=>absurd hop1 h⟩)
  unfold eC
  rw [bk (by simp;omega),bk (by simp;omega),bk (by simp;omega),bJ (by simp [hop1]),O4 h.n hop1 hA hB ho]
  rfl
 ·have hop1:l.n.Op≠1:=fun hc=>by rw [hc]at hp;exact absurd hp (by decide)
  have hop27: ¬(l.n.Op=2\/l.n.Op=7):=fun hc=>by rcases hc with hc|hc<;>(rw [hc]at hp;exact absurd hp (by decide))
  obtain⟨hB,hKa,H⟩:=X hp
  have hparts:mg l.n l.a_ l.b=[l.a_]:=by unfold mg;rw [bk (by omega),bJ hp]
  have hs:lw l.n l.a_ l.b= !(decide ((4:Int)∈l.a_)):=by unfold lw;rw [hs11,H];simp
  by_cases h4:(4:Int)∈l.a_
  ·have hs' :lw l.n l.a_ l.b=false:=by rw [hs];simp [h4]
   refine key ([],false) (by rw [hs'];rfl) ?_ (fun h=>by rw [hs']at h;cases h)
   rw [hk3 hop1,hparts]
   unfold dO
   rw [Bg _ h4,bG]
  ·have hs' :lw l.n l.a_ l.b=true:=by rw [hs];simp [h4]
   refine key (GU l.n l.a_ []) (by rw [hs',bJ rfl,H]) ?_ (fun _=>⟨hKa.k3 h4,by rw [H];exact K3.nil,fun _=>hKa.pos⟩)
   rw [hk3 hop1,hparts,JZ h.n hop hop1 hop27 hB ho hKa (hKa.k3 h4),bG]
 ·have hop1:l.n.Op≠1:=fun hc=>by rw [hc]at hp;exact absurd hp (by decide)
  have hop27:l.n.Op=2\/l.n.Op=7:=by
   unfold prt at hp
   split at hp
   ·omega
   ·split at hp
    ·omega
    ·split at hp<;>omega
  obtain⟨hKa,hKb⟩:=K hp
  have hparts:mg l.n l.a_ l.b=[l.a_,l.b]:=by unfold mg;rw [bk (by omega),bk (by omega)]
  have hs:lw l.n l.a_ l.b=(!(decide ((4:Int)∈l.a_))&& !(decide ((4:Int)∈l.b))):=by unfold lw;rw [hs11,vE]
  by_cases h4:(4:Int)∈l.a_
  ·have hs' :lw l.n l.a_ l.b=false:=by rw [hs];simp [h4]
   refine key ([],false) (by rw [hs'];rfl) ?_ (fun h=>by rw [hs']at h;cases h)
   rw [hk3 hop1,hparts]
   unfold dO
   rw [Bg _ h4,bG]
  ·by_cases h4b:(4:Int)∈l.b
   ·have hs' :lw l.n l.a_ l.b=false:=by rw [hs];simp [h4b]
    refine key ([],false) (by rw [hs'];rfl) ?_ (fun h=>by rw [hs']at h;cases h)
    rw [hk3 hop1,hparts,O5 _ (hKa.k3 h4) hKa.le h4b,bG]
   ·have hs' :lw l.n l.a_ l.b=true:=by rw [hs];simp [h4,h4b]
    refine key (GU l.n l.a_ l.b) (by rw [hs',bJ rfl]) ?_ (fun _=>⟨hKa.k3 h4,hKb.k3 h4b,fun _=>hKa.pos⟩)
    rw [hk3 hop1,hparts,QZ h.n hop27 ho hKa (hKa.k3 h4) hKb (hKb.k3 h4b),bG]
 ·exfalso
  unfold prt at hp
  split at hp
  ·omega
  ·split at hp
   ·omega
   ·split at hp<;>omega
def Ro(hop:l.n.Op=9)(ha:l.a_=[])(H:l.b=[]):CH l nx i out:=by
 refine⟨Io l.n,l.n.Kinds,l.n.Kinds,Io l.n,by rw [hop];exact ES l,?_,?_,fun h=>⟨rfl,Rs h⟩⟩
 ·unfold eC
  rw [bJ (by simp [hop]),Pk,bG]
 ·have hs:lw l.n l.a_ l.b=true:=by unfold lw;rw [ha,H];simp
  rw [hs,oX]
  cases h:Io l.n with
  |false=>rfl
  |true=>have:=(Rs h).le;simp [this]
def LR(h:Lb l)(hop:l.n.Op=10)(ho:Cg {l.n with Op:=4}=true)(hB:l.n.B= -1)(hKa:Kd l.a_)(H:l.b=[]):CH l nx i out:=by
 have hparts:mg l.n l.a_ l.b=[l.a_]:=by unfold mg;rw [hop];rfl
 have hs:lw l.n l.a_ l.b= !(decide ((4:Int)∈l.a_)):=by unfold lw;rw [hop,H];simp
 have hn4:jJ {l.n with Op:=4}:=⟨h.n.cond,h.n.kinds,h.n.keys,h.n.aggs,h.n.items,h.n.order,h.n.args,h.n.exprs⟩
 have hk:=h.n.keys
 have Y:=h.n.aggs
 obtain⟨ok,R,o,k,g1,g2,g3,g4⟩:=An h (n:={l.n with Op:=4}) rfl hn4 rfl rfl []
 -- what the code does
 have hcode: ∃R0,px l.n.Op l ()=some (ok,{l with result:=R0})/\(ok=true->oG l.n R=some R0/\R0.length=R.length/\ ∀x∈R0,x∈R\/x=4):=by
  rw [hop]
  show∃R0,eO l=some (ok,{l with result:=R0})/\_
  unfold eO
  rw [g1,bG]
  cases ok with
  |false=>exact⟨R,rfl,fun h=>by cases h⟩
  |true=>
   obtain⟨_,hRl⟩:=g4 rfl
   obtain⟨R',q1,q2,q3,q4⟩:=Cf (l:=l) (n:=l.n) rfl hk l.n.Aggs 0 R (by omega) (by omega)
   refine⟨R',q1,fun _=>⟨?_,q3,q4⟩⟩
   unfold oG
   rw [cd (by simp;omega),bG,oY]
   exact q2
 obtain⟨R0,c1,c2⟩:=hcode
 have hunf:eC l.nodes nx i l.n out (mg l.n l.a_ l.b)=(dO {l.n with Op:=4} [l.a_]).bind fun r4=>if r4.2 then((oG l.n r4.1).bind fun r5=>dr l.nodes nx i l.n out r4.2 r5)else(dr l.nodes nx i l.n out r4.2 r4.1):=by
  unfold eC
  rw [bk (by simp [hop]),bJ (by simp [hop]),hparts]
 by_cases h4:(4:Int)∈l.a_
 ·refine⟨ok,R0,[],false,c1,?_,by rw [hs];simp [h4],fun h=>by cases h⟩
  rw [hunf]
  unfold dO
  rw [Bg _ h4,bG,bk (by simp)]
 ·have hop1:dO {l.n with Op:=4} [l.a_]=some (GU {l.n with Op:=4} l.a_ []):=JZ hn4 rfl (by show¬(4:Int)=1;decide) (by show¬((4:Int)=2\/(4:Int)=7);decide) hB ho hKa (hKa.k3 h4)
  have hopK:GU {l.n with Op:=4} l.a_ []=if 16<k.length then([],false)else(k,o):=by unfold GU;rw [g2]
  rw [hop1,bG,hopK]at hunf
  cases ok with
  |false=>
   refine⟨false,R0,(if 16<k.length then([],false)else(k,o)).1,false,c1,?_,by simp,fun h=>by cases h⟩
   rw [hunf,<-g3]
   split<;>rfl
  |true=>
   obtain⟨hRk,hRl⟩:=g4 rfl
   obtain⟨c3,c4,c5⟩:=c2 rfl
   rw [<-g3,<-hRk]at hunf
   by_cases hl:16<R.length
   ·rw [bJ hl]at hunf
    refine⟨true,R0,[],false,c1,by rw [hunf];rfl,by rw [c4];simp;omega,fun h=>by cases h⟩
   ·rw [bk hl]at hunf
    refine⟨true,R0,R0,true,c1,?_,by rw [hs,c4];simp [h4];omega,fun _=>⟨rfl,?_⟩⟩
    ·rw [hunf]
     show(oG l.n R).bind _=_
     rw [c3,bG]
    ·have hr:=Vy (n:={l.n with Op:=4}) (b:=[]) hn4 rfl (hKa.k3 h4) (fun x V=>by cases V) h.a (by simp) (fun _=>hKa.pos) (by rw [g2,<-g3])
     rw [<-hRk]at hr
     refine⟨by omega,by omega,fun x V=>?_⟩
     rcases c5 x V with V|rfl
     ·have:=hr.1 x V;omega
     ·omega
def Rq(h:Lb l)(hop:l.n.Op=11)(hKa:Kd l.a_){e:tV}(hA:gB l.nodes l.n.A=some e):CH l nx i out:=by
 have hparts:mg l.n l.a_ l.b=[l.a_]:=by unfold mg;rw [hop];rfl
 have hs:lw l.n l.a_ l.b=true:=by unfold lw;rw [hop];rfl
 have hk:=h.n.keys
 have Y:=h.n.aggs
 have ha:=hKa.le
 have hp:=hKa.pos
 have hunf:eC l.nodes nx i l.n out (mg l.n l.a_ l.b)=(pH l.n l.a_).bind fun r6=>(if r6.2 then(some (e.Op==(9:Int)))else some false).bind fun t1=>dr l.nodes nx i l.n out t1 r6.1:=by
  unfold eC
  rw [bk (by simp [hop]),bk (by simp [hop]),bJ (by simp [hop]),hparts,hA]
  rfl
 have hask:px l.n.Op l ()=d7 l:=by rw [hop];rfl
 have hw:IntKind.i64.wrap ((l.n.Keys.length:Int)+(l.n.Aggs.length:Int))=((l.n.Keys.length+l.n.Aggs.length:Nat):Int):=by rw [fg (by omega) (by omega)];omega
 by_cases hc:(l.n.Keys.length<=3/\l.n.Aggs.length<=12)/\l.n.Keys.length+l.n.Aggs.length=l.a_.length
 ·-- what both come to, but for where it comes from
  have hfin:pH l.n l.a_=some (if xE l.a_ l.n.Keys 0&&(l.n.Aggs.zip (l.a_.drop l.n.Keys.length)).all (fun p=>(fk p.1 p.2).2)then(l.a_.take l.n.Keys.length++List.zipWith (fun g k=>(fk g k).1) l.n.Aggs (l.a_.drop l.n.Keys.length),true)else([],false)):=by
   unfold pH
   rw [hw,bk (by intro hh;simp only [AK,mp,xP,vC,ne_eq]at hh;omega)]
   have:=Kc (n:=l.n) (a:=l.a_) (by omega) (by omega) l.n.Keys 0 (uT _)
   rw [List.take_zero]at this
   rw [this]
   cases hkb:xE l.a_ l.n.Keys 0 with
   |false=>rw [bk (by simp)];rfl
   |true=>rw [bJ rfl,Nw hk l.n.Aggs 0 _ (l.a_.drop l.n.Keys.length) (by simp;omega) rfl (by simp;omega) (by omega),oX]
  by_cases h9:e.Op=9
  ·have hcode:d7 l=some (xE l.a_ l.n.Keys 0&&(l.n.Aggs.zip (l.a_.drop l.n.Keys.length)).all (fun p=>(fk p.1 p.2).2),{l with result:=l.a_.take l.n.Keys.length++List.zipWith (fun g k=>(fk g k).1) l.n.Aggs (l.a_.drop l.n.Keys.length)}):=by
    unfold d7
    have hcond:((((e.Op==(9:Int))&&(decide ((l.n.Keys.length:Int)<=(3:Int))))&&(decide ((l.n.Aggs.length:Int)<=(12:Int))))&&((IntKind.i64.wrap ((l.n.Keys.length:Int)+(l.n.Aggs.length:Int)))==(l.a_.length:Int)))=true:=by
     rw [hw];simp [h9];omega
    rw [hA,bG,hcond,bk (by simp),tY _ (by omega),bG,Cj (by omega) l.a_ l.n.Keys 0 true (uT _),oX]
    have:=EY (l:=l) hk l.n.Aggs 0 (xE l.a_ l.n.Keys 0) (l.a_.take l.n.Keys.length) (l.a_.drop l.n.Keys.length) (by simp;omega) (by simp;omega) rfl (by simp;omega)
    rw [ui]at this
    exact this
   have hRl:(l.a_.take l.n.Keys.length++List.zipWith (fun g k=>(fk g k).1) l.n.Aggs (l.a_.drop l.n.Keys.length)).length=l.a_.length:=by simp;omega
   refine⟨_,_,(if xE l.a_ l.n.Keys 0&&(l.n.Aggs.zip (l.a_.drop l.n.Keys.length)).all (fun p=>(fk p.1 p.2).2)then(l.a_.take l.n.Keys.length++List.zipWith (fun g k=>(fk g k).1) l.n.Aggs (l.a_.drop l.n.Keys.length),true)else([],false)).1,_,hask.trans hcode,?_,rfl,fun hv=>?_⟩
   ·rw [hunf,hfin,bG,hs,hRl]
    have e16:decide (l.a_.length<=16)=true:=by simpa using ha
    rw [e16]
    cases (xE l.a_ l.n.Keys 0&&(l.n.Aggs.zip (l.a_.drop l.n.Keys.length)).all (fun p=>(fk p.1 p.2).2))with
    |true=>simp [h9]
    |false=>simp
   ·rw [hs,oX,pt]at hv
    rw [bJ hv.1]
    refine⟨rfl,by omega,by omega,fun x V=>?_⟩
    rcases uW.1 V with V|V
    ·exact hKa.vals x (List.mem_of_mem_take V)
    ·obtain⟨j,hj,hjx⟩:=List.getElem_of_mem V
     rw [List.getElem_zipWith]at hjx
     have hm:(l.a_.drop l.n.Keys.length)[j]'(by simp at hj ⊢;omega)∈l.a_:=List.mem_of_mem_drop (Ge _)
     have:=hKa.vals _ hm
     rw [<-hjx]
     unfold fk
     split
     ·exact this
     ·split
      ·omega
      ·split<;>exact this
  ·refine⟨false,l.result,(if xE l.a_ l.n.Keys 0&&(l.n.Aggs.zip (l.a_.drop l.n.Keys.length)).all (fun p=>(fk p.1 p.2).2)then(l.a_.take l.n.Keys.length++List.zipWith (fun g k=>(fk g k).1) l.n.Aggs (l.a_.drop l.n.Keys.length),true)else([],false)).1,false,hask.trans ?_,?_,by simp,fun h=>by cases h⟩
   ·unfold d7
    rw [hA,bG,bJ (by simp [h9])]
   ·rw [hunf,hfin,bG]
    have:(e.Op==9)=false:=by simpa using h9
    rw [this]
    split<;>rfl
 ·refine⟨false,l.result,[],false,hask.trans ?_,?_,by simp,fun h=>by cases h⟩
  ·unfold d7
   have hcond:((((e.Op==(9:Int))&&(decide ((l.n.Keys.length:Int)<=(3:Int))))&&(decide ((l.n.Aggs.length:Int)<=(12:Int))))&&((IntKind.i64.wrap ((l.n.Keys.length:Int)+(l.n.Aggs.length:Int)))==(l.a_.length:Int)))=false:=by
    rw [hw,AX];intro hh;apply hc;simp at hh;omega
   rw [hA,bG,hcond,bJ (by simp)]
  ·have:pH l.n l.a_=some ([],false):=by
    unfold pH
    rw [hw,bJ (by
     cases H:((((decide ((3:Int)<(l.n.Keys.length:Int)))||(decide ((12:Int)<(l.n.Aggs.length:Int))))||((((l.n.Keys.length+l.n.Aggs.length:Nat):Int)) !=(l.a_.length:Int)))||((l.a_.length:Int)==(0:Int)))with
     |true=>rfl
     |false=>exfalso;apply hc;simp at H;omega)]
   rw [hunf,this]
   rfl
end
end Go.Proofs.YtdohlidddcgfjaaGreat

