/- bO of this claim: Y14. -/
import Derived.Test.YtdohlidddcgfjaaGreatFeY13
set_option linter.all false
namespace Go.Proofs.YtdohlidddcgfjaaGreat
open Go

def CL(op:Int):vX op=some (lB op):=by
 by_cases Y:op=1
 ·subst Y;rfl
 by_cases H:op=2
 ·subst H;rfl
 by_cases s:op=3
 ·subst s;rfl
 by_cases h4:op=4
 ·subst h4;rfl
 by_cases h5:op=5
 ·subst h5;rfl
 by_cases h6:op=6
 ·subst h6;rfl
 by_cases h7:op=7
 ·subst h7;rfl
 by_cases h8:op=8
 ·subst h8;rfl
 by_cases h9:op=9
 ·subst h9;rfl
 by_cases h10:op=10
 ·subst h10;rfl
 by_cases h11:op=11
 ·subst h11;rfl
 simp [vX,sf,qV,pK,km,lB,Y,H,s,h4,h5,h6,h7,h8,h9,h10,h11]
def Sz(ns:List aa)(j h3:Nat):Prop:= ∀fu,j+1<fu->f7 fu ns (j:Int)=some (h3:Int)
inductive Ow(ns:List aa):List Int->Int->Prop
 |nil:Ow ns [] (-1)
 |cons {rest:List Int} (j h3:Nat):Sz ns j h3->1<=h3->h3<=j+1->Ow ns rest ((j:Int)-(h3:Int))->Ow ns ((j:Int)::rest) (j:Int)
def Ow.neg{ns:List aa}{st:List Int}{p:Int}(h:Ow ns st p)(hp:p<0):st=[]:=by
 cases h with
 |nil=>rfl
 |cons j h3=>omega
def Ow.pos{ns:List aa}{st:List Int}{p:Int}(h:Ow ns st p)(hp:0<=p): ∃(j h3:Nat) (rest:List Int),p=(j:Int)/\st=(j:Int)::rest/\Sz ns j h3/\1<=h3/\h3<=j+1/\Ow ns rest ((j:Int)-(h3:Int)):=by
 cases h with
 |nil=>omega
 |cons j h3 Y H s h4=>exact⟨j,h3,_,rfl,rfl,Y,H,s,h4⟩
def VY(e:aa)(st:List Int):Prop:=(lB e.Op=0/\e.A= -1/\e.B= -1)\/(lB e.Op=1/\e.B= -1/\ ∃rest,st=e.A::rest)\/(lB e.Op=2/\ ∃rest,st=e.B::e.A::rest)
def ub(op:Int):lB op=0\/lB op=1\/lB op=2\/lB op= -1:=by
 unfold lB
 split
 ·exact .inl rfl
 ·split
  ·exact .inr (.inr (.inl rfl))
  ·split
   ·exact .inr (.inl rfl)
   ·exact .inr (.inr (.inr rfl))
def F4{ns:List aa}{fu:Nat}(h:0<fu){p:Int}(hp:p<0):f7 fu ns p=some 0:=by
 obtain⟨fu,rfl⟩: ∃k,fu=k+1:=⟨fu-1,by omega⟩
 unfold f7
 rw [bo (by simp [hp])]
def HN{ns:List aa}{j:Nat}{n:aa}(hn:ns[j]? =some n)(hl:ns.length<=1000)(fu:Nat):f7 (fu+1) ns (j:Int)=
  if lB n.Op=0 then(if n.A= -1/\n.B= -1 then some 1 else some 0)
  else if lB n.Op=1 then(f7 fu ns ((j:Int)-1)).bind (fun r1=>if(n.A=(j:Int)-1/\n.B= -1)/\0<r1 then some (IntKind.i64.wrap (r1+(1:Int)))else some (0:Int))
  else if lB n.Op=2 then(f7 fu ns ((j:Int)-1)).bind (fun r2=>if(r2=0\/n.B≠(j:Int)-1)\/n.A≠IntKind.i64.wrap ((j:Int)-1-r2)then some 0 else((f7 fu ns n.A).bind fun r3=>if(decide ((0:Int)<r3))then(some (IntKind.i64.wrap ((IntKind.i64.wrap (r3+r2))+(1:Int))))else(some (0:Int))))
  else some 0:=by
 have hj:=(q8.1 hn).1
 conv=>lhs;unfold f7
 rw [aV (by simp;omega),eK,hn]
 simp only [bg,CL]
 rw [ew (n:=(j:Int)-1) (by omega) (by omega)]
 by_cases h0:lB n.Op=0
 ·simp only [h0,jl]
  rw [bo (by decide)]
  by_cases hAB:n.A= -1/\n.B= -1
  ·rw [bo hAB,bo (by simp [hAB])]
  ·rw [aV hAB,aV (by simpa using hAB)]
 by_cases Y:lB n.Op=1
 ·simp only [Y,jl,aV (show¬(1:Int)=0 by decide)]
  rw [aV (by decide),bo (by decide)]
  congr 1
  funext r1
  by_cases hc:(n.A=(j:Int)-1/\n.B= -1)/\0<r1
  ·rw [bo hc,bo (by simp [hc])]
  ·rw [aV hc,aV (by simpa using hc)]
 by_cases H:lB n.Op=2
 ·simp only [H,jl,aV (show¬(2:Int)=0 by decide),aV (show¬(2:Int)=1 by decide)]
  rw [aV (by decide),aV (by decide),bo (by decide)]
  congr 1
  funext r2
  by_cases hc:(r2=0\/n.B≠(j:Int)-1)\/n.A≠IntKind.i64.wrap ((j:Int)-1-r2)
  ·rw [bo hc,bo (by simpa using hc)]
  ·rw [aV hc,aV (by simpa using hc)]
 ·have s:lB n.Op= -1:=by have:=ub n.Op;omega
  simp only [s]
  rfl
def Na{ns:List aa}{st:List Int}{i:Nat}{e:aa}(hst:Ow ns st ((i:Int)-1))(he:ns[i]? =some e)(hl:ns.length<=100): ∃h3:Nat,Sz ns i h3/\((h3=0/\ ¬VY e st)\/(1<=h3/\h3<=i+1/\VY e st/\Ow ns ((i:Int)::st.drop (lB e.Op).toNat) (i:Int))):=by
 have hi:=(q8.1 he).1
 have step:=HN he (by omega)
 have sz: ∀{h3:Nat},(∀fu,i<fu->f7 (fu+1) ns (i:Int)=some (h3:Int))->Sz ns i h3:=fun h fu hf=>by
  obtain⟨fu,rfl⟩: ∃k,fu=k+1:=⟨fu-1,by omega⟩
  exact h fu (by omega)
 rcases ub e.Op with h0|h0|h0|h0
 ·by_cases hAB:e.A= -1/\e.B= -1
  ·have hs:Sz ns i 1:=sz fun fu _=>by rw [step,bo h0,bo hAB];rfl
   refine⟨1,hs,.inr ⟨dY _,by omega,.inl ⟨h0,hAB⟩,?_⟩⟩
   rw [h0]
   exact .cons i 1 hs (dY _) (by omega) hst
  ·refine⟨0,sz fun fu _=>by rw [step,bo h0,aV hAB];rfl,.inl ⟨rfl,fun hp=>?_⟩⟩
   rcases hp with h|h|h
   ·exact hAB h.2
   ·omega
   ·omega
 ·by_cases hz:i=0
  ·have:=hst.neg (by omega)
   subst this
   refine⟨0,sz fun fu hf=>by rw [step,aV (by omega),bo h0,F4 (by omega) (by omega),bg,aV (by omega)];rfl,.inl ⟨rfl,fun hp=>?_⟩⟩
   rcases hp with h|⟨_,_,r,h⟩|h
   ·omega
   ·cases h
   ·omega
  ·obtain⟨j,h3,rest,hj,rfl,g1,g2,g3,g4⟩:=hst.pos (by omega)
   by_cases hA:e.A=(i:Int)-1/\e.B= -1
   ·have hs:Sz ns i (h3+1):=sz fun fu hf=>by
     rw [step,aV (by omega),bo h0,hj,g1 fu (by omega),bg,bo ⟨by rw [<-hj];exact hA,by omega⟩,ew (by omega) (by omega)];rfl
    refine⟨h3+1,hs,.inr ⟨by omega,by omega,.inr (.inl ⟨h0,hA.2,rest,by rw [hA.1,hj]⟩),?_⟩⟩
    rw [h0]
    refine .cons i (h3+1) hs (by omega) (by omega) ?_
    have:(i:Int)-((h3+1:Nat):Int)=(j:Int)-(h3:Int):=by omega
    rw [this]
    exact g4
   ·refine⟨0,sz fun fu hf=>by
     rw [step,aV (by omega),bo h0,hj,g1 fu (by omega),bg,aV (fun h=>hA (by rw [hj];exact h.1))];rfl,.inl ⟨rfl,fun hp=>?_⟩⟩
    rcases hp with h|⟨_,hB,r,h⟩|h
    ·omega
    ·injection h with h _
     exact hA ⟨by omega,hB⟩
    ·omega
 ·by_cases hz:i=0
  ·have:=hst.neg (by omega)
   subst this
   refine⟨0,sz fun fu hf=>by rw [step,aV (by omega),aV (by omega),bo h0,F4 (by omega) (by omega),bg,bo (.inl (.inl rfl))];rfl,.inl ⟨rfl,fun hp=>?_⟩⟩
   rcases hp with h|h|⟨_,r,h⟩
   ·omega
   ·omega
   ·cases h
  ·obtain⟨j,h3,rest,hj,rfl,g1,g2,g3,g4⟩:=hst.pos (by omega)
   by_cases hAB:e.B=(i:Int)-1/\e.A=(j:Int)-(h3:Int)
   ·have hw:IntKind.i64.wrap ((j:Int)-(h3:Int))=(j:Int)-(h3:Int):=ew (by omega) (by omega)
    by_cases hn:(j:Int)-(h3:Int)<0
    ·have:=g4.neg hn
     subst this
     refine⟨0,sz fun fu hf=>by
      rw [step,aV (by omega),aV (by omega),bo h0,hj,g1 fu (by omega),bg,hw,aV (by omega),F4 (by omega) (by omega),bg,aV (by decide)];rfl,.inl ⟨rfl,fun hp=>?_⟩⟩
     rcases hp with h|h|⟨_,r,h⟩
     ·omega
     ·omega
     ·injection h with _ h;cases h
    ·obtain⟨j2,s2,rest2,hj2,rfl,k1,k2,k3,k4⟩:=g4.pos (by omega)
     have hs:Sz ns i (s2+h3+1):=sz fun fu hf=>by
      rw [step,aV (by omega),aV (by omega),bo h0,hj,g1 fu (by omega),bg,hw,aV (by omega),hAB.2,hj2,k1 fu (by omega),bg,bo (by simp;omega),ew (n:=(s2:Int)+(h3:Int)) (by omega) (by omega),ew (by omega) (by omega)];rfl
     refine⟨s2+h3+1,hs,.inr ⟨by omega,by omega,.inr (.inr ⟨h0,rest2,by rw [hAB.1,hAB.2,hj,hj2]⟩),?_⟩⟩
     rw [h0]
     refine .cons i (s2+h3+1) hs (by omega) (by omega) ?_
     have:(i:Int)-((s2+h3+1:Nat):Int)=(j2:Int)-(s2:Int):=by omega
     rw [this]
     exact k4
   ·have hw:IntKind.i64.wrap ((j:Int)-(h3:Int))=(j:Int)-(h3:Int):=ew (by omega) (by omega)
    refine⟨0,sz fun fu hf=>by
     rw [step,aV (by omega),aV (by omega),bo h0,hj,g1 fu (by omega),bg,hw,bo (by omega)];rfl,.inl ⟨rfl,fun hp=>?_⟩⟩
    rcases hp with h|h|⟨_,r,h⟩
    ·omega
    ·omega
    ·injection h with e1 e2
     by_cases hn:(j:Int)-(h3:Int)<0
     ·have:=g4.neg hn
      subst this
      cases e2
     ·obtain⟨j2,s2,rest2,hj2,rfl,_⟩:=g4.pos (by omega)
      injection e2 with e2 _
      exact hAB ⟨by omega,by omega⟩
 ·refine⟨0,sz fun fu _=>by rw [step,aV (by omega),aV (by omega),aV (by omega)];rfl,.inl ⟨rfl,fun hp=>?_⟩⟩
  rcases hp with h|h|h<;>omega
def K3.nil:K3 []:=fun x X=>by cases X
def ND{op:Int}(h:0<=lB op):E6 op=true\/op=9\/op=10\/op=11:=by
 unfold lB at h
 simp only [E6,nP,mg]
 split at h
 ·omega
 ·split at h
  ·omega
  ·split at h
   ·omega
   ·omega
def Pn{l:al}(h:Lb l)(hop:E6 l.n.Op=true): ∃ok0 R0,oL l.n.Op l ()=some (ok0,{l with result:=R0})/\(E5 l.n l.a_ l.b).2=(ok0&&decide (R0.length<=16))/\((E5 l.n l.a_ l.b).2=true->(E5 l.n l.a_ l.b).1=R0/\cI l.n l.a_ l.b=some (R0,true)/\R0.length<=16):=by
 obtain⟨ok,R,o,k,Y,H,s,h4⟩:=UI h hop
 refine⟨ok,R,Y,?_⟩
 have e:E5 l.n l.a_ l.b=if 16<k.length then([],false)else(k,o):=by unfold E5;rw [H]
 rw [e]
 by_cases hl:16<k.length
 ·rw [bo hl]
  have:decide (k.length<=16)=false:=by simpa using hl
  rw [this,Bool.and_false]at s
  exact⟨s.symm,fun h=>by cases h⟩
 ·rw [aV hl]
  have:decide (k.length<=16)=true:=by simp;omega
  rw [this,Bool.and_true]at s
  refine⟨s.symm,fun ho=>?_⟩
  have ho:o=true:=ho
  subst ho
  have:=h4 s
  subst this
  exact⟨rfl,H,by omega⟩
def kz(e:aa)(a b:List Int):List (List Int):=if lB e.Op=0 then []else if lB e.Op=1 then [a]else [a,b]
def j5(e:aa)(a b:List Int):Bool:=(e.Op==11)||(!(decide ((4:Int)∈a))&& !(decide ((4:Int)∈b)))
def NC(n:aa){a b:List Int}(s:K3 a)(hal:a.length<=16)(h:(4:Int)∈b):dv n [a,b]=some ([],false):=by
 unfold dv bS
 rw [wS,bg,aV (by simpa using s.four),ze _ _ _ _ _ _ s (by show 0+a.length<=1000;omega)]
 unfold dL
 show((jh ([]:List aa) [kg,jz 0 a]).bind fun l5=>if(((0:Nat):Int)==(0:Int))then(bS [b] 1 {n with A:=IntKind.i64.wrap ((l5.length:Int)-1)} ⟨l5⟩)else(bS [b] 1 {n with B:=IntKind.i64.wrap ((l5.length:Int)-1)} ⟨l5⟩))=_
 rw [cE (by simp),bg,bo (by rfl)]
 exact zf _ h _ _ _
section
variable{l:al}{nx:Nat->(List (List Int))->Option ((List (List Int))×Int)}{i:Nat}{out:List (List Int)}
def AR(l:al)(nx:Nat->(List (List Int))->Option ((List (List Int))×Int))(i:Nat)(out:List (List Int)):Prop:= ∃ok0 R0 k o,oL l.n.Op l ()=some (ok0,{l with result:=R0})/\dO l.nodes nx i l.n out (kz l.n l.a_ l.b)=dh l.nodes nx i l.n out o k/\o=(j5 l.n l.a_ l.b&&(ok0&&decide (R0.length<=16)))/\(o=true->k=R0/\Kd R0)
def UN(h:Lb l)(hop:E6 l.n.Op=true)(ho:Ee l.n=true)(h0:lB l.n.Op=0->l.n.A= -1/\l.n.B= -1/\l.a_=[]/\l.b=[])(Y:lB l.n.Op=1->l.n.B= -1/\Kd l.a_/\l.b=[])(H:lB l.n.Op=2->Kd l.a_/\Kd l.b):AR l nx i out:=by
 obtain⟨ok0,R0,e1,e2,e3⟩:=Pn h hop
 have hop' :=qm hop
 have key: ∀(r:List Int×Bool),r=(if j5 l.n l.a_ l.b then E5 l.n l.a_ l.b else([],false))->dO l.nodes nx i l.n out (kz l.n l.a_ l.b)=dh l.nodes nx i l.n out r.2 r.1->(j5 l.n l.a_ l.b=true->K3 l.a_/\K3 l.b/\(l.n.Op≠1->1<=l.a_.length))->AR l nx i out:=by
  intro r hr hk s
  refine⟨ok0,R0,r.1,r.2,e1,hk,?_,fun ho=>?_⟩
  ·rw [hr]
   cases hs:j5 l.n l.a_ l.b with
   |false=>rfl
   |true=>rw [bo rfl,ni];exact e2
  ·cases hs:j5 l.n l.a_ l.b with
   |false=>rw [hr,hs,aV (by simp)]at ho;cases ho
   |true=>
    rw [hs,bo rfl]at hr
    rw [hr]at ho ⊢
    obtain⟨g1,g2,g3⟩:=e3 ho
    obtain⟨q1,q2,q3⟩:=s hs
    have:=Ti h.n hop q1 q2 h.a h.b q3 g2
    exact⟨g1,this.2,g3,fun x X=>by have:=this.1 x X;omega⟩
 have hk3:l.n.Op≠1->dO l.nodes nx i l.n out (kz l.n l.a_ l.b)=(dv l.n (kz l.n l.a_ l.b)).bind fun r8=>dh l.nodes nx i l.n out r8.2 r8.1:=fun hn=>by
  unfold dO
  rw [aV (by simp;omega),aV (by simp;omega),aV (by simp;omega),aV (by simpa using hn)]
 have hs11:(l.n.Op==11)=false:=by simp;omega
 rcases ub l.n.Op with hp|hp|hp|hp
 ·have hop1:l.n.Op=1:=by
   unfold lB at hp
   split at hp
   ·omega
   ·split at hp
    ·omega
    ·split at hp<;>omega
  obtain⟨hA,hB,ha,W⟩:=h0 hp
  have hs:j5 l.n l.a_ l.b=true:=by unfold j5;rw [ha,W];simp
  refine key (E5 l.n [] []) (by rw [hs,bo rfl,ha,W]) ?_ (fun _=>⟨by rw [ha];exact K3.nil,by rw [W];exact K3.nil,fun h=>absurd hop1 h⟩)
  unfold dO
  rw [aV (by simp;omega),aV (by simp;omega),aV (by simp;omega),bo (by simp [hop1]),NB h.n hop1 hA hB ho]
  rfl
 ·have hop1:l.n.Op≠1:=fun hc=>by rw [hc]at hp;exact absurd hp (by decide)
  have hop27: ¬(l.n.Op=2\/l.n.Op=7):=fun hc=>by rcases hc with hc|hc<;>(rw [hc]at hp;exact absurd hp (by decide))
  obtain⟨hB,hKa,W⟩:=Y hp
  have hparts:kz l.n l.a_ l.b=[l.a_]:=by unfold kz;rw [aV (by omega),bo hp]
  have hs:j5 l.n l.a_ l.b= !(decide ((4:Int)∈l.a_)):=by unfold j5;rw [hs11,W];simp
  by_cases h4:(4:Int)∈l.a_
  ·have hs' :j5 l.n l.a_ l.b=false:=by rw [hs];simp [h4]
   refine key ([],false) (by rw [hs'];rfl) ?_ (fun h=>by rw [hs']at h;cases h)
   rw [hk3 hop1,hparts]
   unfold dv
   rw [zf _ h4,bg]
  ·have hs' :j5 l.n l.a_ l.b=true:=by rw [hs];simp [h4]
   refine key (E5 l.n l.a_ []) (by rw [hs',bo rfl,W]) ?_ (fun _=>⟨hKa.k3 h4,by rw [W];exact K3.nil,fun _=>hKa.pos⟩)
   rw [hk3 hop1,hparts,Ii h.n hop hop1 hop27 hB ho hKa (hKa.k3 h4),bg]
 ·have hop1:l.n.Op≠1:=fun hc=>by rw [hc]at hp;exact absurd hp (by decide)
  have hop27:l.n.Op=2\/l.n.Op=7:=by
   unfold lB at hp
   split at hp
   ·omega
   ·split at hp
    ·omega
    ·split at hp<;>omega
  obtain⟨hKa,hKb⟩:=H hp
  have hparts:kz l.n l.a_ l.b=[l.a_,l.b]:=by unfold kz;rw [aV (by omega),aV (by omega)]
  have hs:j5 l.n l.a_ l.b=(!(decide ((4:Int)∈l.a_))&& !(decide ((4:Int)∈l.b))):=by unfold j5;rw [hs11,tu]
  by_cases h4:(4:Int)∈l.a_
  ·have hs' :j5 l.n l.a_ l.b=false:=by rw [hs];simp [h4]
   refine key ([],false) (by rw [hs'];rfl) ?_ (fun h=>by rw [hs']at h;cases h)
   rw [hk3 hop1,hparts]
   unfold dv
   rw [zf _ h4,bg]
  ·by_cases h4b:(4:Int)∈l.b
   ·have hs' :j5 l.n l.a_ l.b=false:=by rw [hs];simp [h4b]
    refine key ([],false) (by rw [hs'];rfl) ?_ (fun h=>by rw [hs']at h;cases h)
    rw [hk3 hop1,hparts,NC _ (hKa.k3 h4) hKa.le h4b,bg]
   ·have hs' :j5 l.n l.a_ l.b=true:=by rw [hs];simp [h4,h4b]
    refine key (E5 l.n l.a_ l.b) (by rw [hs',bo rfl]) ?_ (fun _=>⟨hKa.k3 h4,hKb.k3 h4b,fun _=>hKa.pos⟩)
    rw [hk3 hop1,hparts,Pl h.n hop27 ho hKa (hKa.k3 h4) hKb (hKb.k3 h4b),bg]
 ·exfalso
  unfold lB at hp
  split at hp
  ·omega
  ·split at hp
   ·omega
   ·split at hp<;>omega
def PI(hop:l.n.Op=9)(ha:l.a_=[])(W:l.b=[]):AR l nx i out:=by
 refine⟨IC l.n,l.n.Kinds,l.n.Kinds,IC l.n,by rw [hop];exact Kz l,?_,?_,fun h=>⟨rfl,PL h⟩⟩
 ·unfold dO
  rw [bo (by simp [hop]),NU,bg]
 ·have hs:j5 l.n l.a_ l.b=true:=by unfold j5;rw [ha,W];simp
  rw [hs,ni]
  cases h:IC l.n with
  |false=>rfl
  |true=>have:=(PL h).le;simp [this]
def Kx(h:Lb l)(hop:l.n.Op=10)(ho:Ee {l.n with Op:=4}=true)(hB:l.n.B= -1)(hKa:Kd l.a_)(W:l.b=[]):AR l nx i out:=by
 have hparts:kz l.n l.a_ l.b=[l.a_]:=by unfold kz;rw [hop];rfl
 have hs:j5 l.n l.a_ l.b= !(decide ((4:Int)∈l.a_)):=by unfold j5;rw [hop,W];simp
 have hn4:ju {l.n with Op:=4}:=⟨h.n.cond,h.n.kinds,h.n.keys,h.n.aggs,h.n.items,h.n.order,h.n.args,h.n.exprs⟩
 have hk:=h.n.keys
 have V:=h.n.aggs
 obtain⟨ok,R,o,k,g1,g2,g3,g4⟩:=C1 h (n:={l.n with Op:=4}) rfl hn4 rfl rfl []
 -- what the code does
 have hcode: ∃R0,oL l.n.Op l ()=some (ok,{l with result:=R0})/\(ok=true->oF l.n R=some R0/\R0.length=R.length/\ ∀x∈R0,x∈R\/x=4):=by
  rw [hop]
  show∃R0,eJ l=some (ok,{l with result:=R0})/\_
  unfold eJ
  rw [g1,bg]
  cases ok with
  |false=>exact⟨R,rfl,fun h=>by cases h⟩
  |true=>
   obtain⟨_,hRl⟩:=g4 rfl
   obtain⟨R',q1,q2,q3,q4⟩:=Aq (l:=l) (n:=l.n) rfl hk l.n.Aggs 0 R (by omega) (by omega)
   refine⟨R',q1,fun _=>⟨?_,q3,q4⟩⟩
   unfold oF
   rw [cE (by simp;omega),bg,mo]
   exact q2
 obtain⟨R0,c1,c2⟩:=hcode
 have hunf:dO l.nodes nx i l.n out (kz l.n l.a_ l.b)=(dv {l.n with Op:=4} [l.a_]).bind fun r4=>if r4.2 then((oF l.n r4.1).bind fun r5=>dh l.nodes nx i l.n out r4.2 r5)else(dh l.nodes nx i l.n out r4.2 r4.1):=by
  unfold dO
  rw [aV (by simp [hop]),bo (by simp [hop]),hparts]
 by_cases h4:(4:Int)∈l.a_
 ·refine⟨ok,R0,[],false,c1,?_,by rw [hs];simp [h4],fun h=>by cases h⟩
  rw [hunf]
  unfold dv
  rw [zf _ h4,bg,aV (by simp)]
 ·have hop1:dv {l.n with Op:=4} [l.a_]=some (E5 {l.n with Op:=4} l.a_ []):=Ii hn4 rfl (by show¬(4:Int)=1;decide) (by show¬((4:Int)=2\/(4:Int)=7);decide) hB ho hKa (hKa.k3 h4)
  have hopK:E5 {l.n with Op:=4} l.a_ []=if 16<k.length then([],false)else(k,o):=by unfold E5;rw [g2]
  rw [hop1,bg,hopK]at hunf
  cases ok with
  |false=>
   refine⟨false,R0,(if 16<k.length then([],false)else(k,o)).1,false,c1,?_,by simp,fun h=>by cases h⟩
   rw [hunf,<-g3]
   split<;>rfl
  |true=>
   obtain⟨hRk,hRl⟩:=g4 rfl
   obtain⟨c3,c4,c5⟩:=c2 rfl
   rw [<-g3,<-hRk]at hunf
   by_cases hl:16<R.length
   ·rw [bo hl]at hunf
    refine⟨true,R0,[],false,c1,by rw [hunf];rfl,by rw [c4];simp;omega,fun h=>by cases h⟩
   ·rw [aV hl]at hunf
    refine⟨true,R0,R0,true,c1,?_,by rw [hs,c4];simp [h4];omega,fun _=>⟨rfl,?_⟩⟩
    ·rw [hunf]
     show(oF l.n R).bind _=_
     rw [c3,bg]
    ·have hr:=Ti (n:={l.n with Op:=4}) (b:=[]) hn4 rfl (hKa.k3 h4) (fun x X=>by cases X) h.a (by simp) (fun _=>hKa.pos) (by rw [g2,<-g3])
     rw [<-hRk]at hr
     refine⟨by omega,by omega,fun x X=>?_⟩
     rcases c5 x X with X|rfl
     ·have:=hr.1 x X;omega
     ·omega
def PJ(h:Lb l)(hop:l.n.Op=11)(hKa:Kd l.a_){e:aa}(hA:gG l.nodes l.n.A=some e):AR l nx i out:=by
 have hparts:kz l.n l.a_ l.b=[l.a_]:=by unfold kz;rw [hop];rfl
 have hs:j5 l.n l.a_ l.b=true:=by unfold j5;rw [hop];rfl
 have hk:=h.n.keys
 have V:=h.n.aggs
 have ha:=hKa.le
 have hp:=hKa.pos
 have hunf:dO l.nodes nx i l.n out (kz l.n l.a_ l.b)=(pb l.n l.a_).bind fun r6=>(if r6.2 then(some (e.Op==(9:Int)))else some false).bind fun t1=>dh l.nodes nx i l.n out t1 r6.1:=by
  unfold dO
  rw [aV (by simp [hop]),aV (by simp [hop]),bo (by simp [hop]),hparts,hA]
  rfl
 have hask:oL l.n.Op l ()=d8 l:=by rw [hop];rfl
 have hw:IntKind.i64.wrap ((l.n.Keys.length:Int)+(l.n.Aggs.length:Int))=((l.n.Keys.length+l.n.Aggs.length:Nat):Int):=by rw [ew (by omega) (by omega)];omega
 by_cases hc:(l.n.Keys.length<=3/\l.n.Aggs.length<=12)/\l.n.Keys.length+l.n.Aggs.length=l.a_.length
 ·-- what both come to, but for where it comes from
  have hfin:pb l.n l.a_=some (if yp l.a_ l.n.Keys 0&&(l.n.Aggs.zip (l.a_.drop l.n.Keys.length)).all (fun p=>(fk p.1 p.2).2)then(l.a_.take l.n.Keys.length++List.zipWith (fun g k=>(fk g k).1) l.n.Aggs (l.a_.drop l.n.Keys.length),true)else([],false)):=by
   unfold pb
   rw [hw,aV (by intro hh;simp only [z6,mg,xx,qQ,ne_eq]at hh;omega)]
   have:=Iy (n:=l.n) (a:=l.a_) (by omega) (by omega) l.n.Keys 0 (vw _)
   rw [List.take_zero]at this
   rw [this]
   cases hkb:yp l.a_ l.n.Keys 0 with
   |false=>rw [aV (by simp)];rfl
   |true=>rw [bo rfl,Mk hk l.n.Aggs 0 _ (l.a_.drop l.n.Keys.length) (by simp;omega) rfl (by simp;omega) (by omega),ni]
  by_cases h9:e.Op=9
  ·have hcode:d8 l=some (yp l.a_ l.n.Keys 0&&(l.n.Aggs.zip (l.a_.drop l.n.Keys.length)).all (fun p=>(fk p.1 p.2).2),{l with result:=l.a_.take l.n.Keys.length++List.zipWith (fun g k=>(fk g k).1) l.n.Aggs (l.a_.drop l.n.Keys.length)}):=by
    unfold d8
    have hcond:((((e.Op==(9:Int))&&(decide ((l.n.Keys.length:Int)<=(3:Int))))&&(decide ((l.n.Aggs.length:Int)<=(12:Int))))&&((IntKind.i64.wrap ((l.n.Keys.length:Int)+(l.n.Aggs.length:Int)))==(l.a_.length:Int)))=true:=by
     rw [hw];simp [h9];omega
    rw [hA,bg,hcond,aV (by simp),vk _ (by omega),bg,Fh (by omega) l.a_ l.n.Keys 0 true (vw _),ni]
    have:=IU (l:=l) hk l.n.Aggs 0 (yp l.a_ l.n.Keys 0) (l.a_.take l.n.Keys.length) (l.a_.drop l.n.Keys.length) (by simp;omega) (by simp;omega) rfl (by simp;omega)
    rw [rQ]at this
    exact this
   have hRl:(l.a_.take l.n.Keys.length++List.zipWith (fun g k=>(fk g k).1) l.n.Aggs (l.a_.drop l.n.Keys.length)).length=l.a_.length:=by simp;omega
   refine⟨_,_,(if yp l.a_ l.n.Keys 0&&(l.n.Aggs.zip (l.a_.drop l.n.Keys.length)).all (fun p=>(fk p.1 p.2).2)then(l.a_.take l.n.Keys.length++List.zipWith (fun g k=>(fk g k).1) l.n.Aggs (l.a_.drop l.n.Keys.length),true)else([],false)).1,_,hask.trans hcode,?_,rfl,fun hv=>?_⟩
   ·rw [hunf,hfin,bg,hs,hRl]
    have e16:decide (l.a_.length<=16)=true:=by simpa using ha
    rw [e16]
    cases (yp l.a_ l.n.Keys 0&&(l.n.Aggs.zip (l.a_.drop l.n.Keys.length)).all (fun p=>(fk p.1 p.2).2))with
    |true=>simp [h9]
    |false=>simp
   ·rw [hs,ni,nP]at hv
    rw [bo hv.1]
    refine⟨rfl,by omega,by omega,fun x X=>?_⟩
    rcases xV.1 X with X|X
    ·exact hKa.vals x (List.mem_of_mem_take X)
    ·obtain⟨j,hj,hjx⟩:=List.getElem_of_mem X
     rw [List.getElem_zipWith]at hjx
     have hm:(l.a_.drop l.n.Keys.length)[j]'(by simp at hj ⊢;omega)∈l.a_:=List.mem_of_mem_drop (EA _)
     have:=hKa.vals _ hm
     rw [<-hjx]
     unfold fk
     split
     ·exact this
     ·split
      ·omega
      ·split<;>exact this
  ·refine⟨false,l.result,(if yp l.a_ l.n.Keys 0&&(l.n.Aggs.zip (l.a_.drop l.n.Keys.length)).all (fun p=>(fk p.1 p.2).2)then(l.a_.take l.n.Keys.length++List.zipWith (fun g k=>(fk g k).1) l.n.Aggs (l.a_.drop l.n.Keys.length),true)else([],false)).1,false,hask.trans ?_,?_,by simp,fun h=>by cases h⟩
   ·unfold d8
    rw [hA,bg,bo (by simp [h9])]
   ·rw [hunf,hfin,bg]
    have:(e.Op==9)=false:=by simpa using h9
    rw [this]
    split<;>rfl
 ·refine⟨false,l.result,[],false,hask.trans ?_,?_,by simp,fun h=>by cases h⟩
  ·unfold d8
   have hcond:((((e.Op==(9:Int))&&(decide ((l.n.Keys.length:Int)<=(3:Int))))&&(decide ((l.n.Aggs.length:Int)<=(12:Int))))&&((IntKind.i64.wrap ((l.n.Keys.length:Int)+(l.n.Aggs.length:Int)))==(l.a_.length:Int)))=false:=by
    rw [hw,B8];intro hh;apply hc;simp at hh;omega
   rw [hA,bg,hcond,bo (by simp)]
  ·have:pb l.n l.a_=some ([],false):=by
    unfold pb
    rw [hw,bo (by
     cases W:((((decide ((3:Int)<(l.n.Keys.length:Int)))||(decide ((12:Int)<(l.n.Aggs.length:Int))))||((((l.n.Keys.length+l.n.Aggs.length:Nat):Int)) !=(l.a_.length:Int)))||((l.a_.length:Int)==(0:Int)))with
     |true=>rfl
     |false=>exfalso;apply hc;simp at W;omega)]
   rw [hunf,this]
   rfl
end
end Go.Proofs.YtdohlidddcgfjaaGreat

