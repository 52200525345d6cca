import Derived.Test.YtdohlidddcgfjaaGreatFgY13
set_option linter.all false
namespace Go.Proofs.YtdohlidddcgfjaaGreat
open Go IntKind
def AS(op:Int):vw op=some (prt op):=by
 by_cases H:op=1
 ·subst H;rfl
 by_cases W:op=2
 ·subst W;rfl
 by_cases h3:op=3
 ·subst h3;rfl
 by_cases h4:op=4
 ·subst h4;rfl
 by_cases h5:op=5
 ·subst h5;rfl
 by_cases h6:op=6
 ·subst h6;rfl
 by_cases h7:op=7
 ·subst h7;rfl
 by_cases h8:op=8
 ·subst h8;rfl
 by_cases h9:op=9
 ·subst h9;rfl
 by_cases h10:op=10
 ·subst h10;rfl
 by_cases h11:op=11
 ·subst h11;rfl
 simp [vw,uk,tH,ri,lw,prt,H,W,h3,h4,h5,h6,h7,h8,h9,h10,h11]
def Sz(ns:List al)(j bx:Nat):Prop:= ∀fu,j+1<fu->iv fu ns (j:Int)=some (bx:Int)
inductive UQ(ns:List al):List Int->Int->Prop
 |nil:UQ ns [] (-1)
 |cons {rest:List Int} (j bx:Nat):Sz ns j bx->1<=bx->bx<=j+1->UQ ns rest ((j:Int)-(bx:Int))->UQ ns ((j:Int)::rest) (j:Int)
def UQ.neg{ns:List al}{st:List Int}{p:Int}(h:UQ ns st p)(hp:p<0):st=[]:=by
 cases h with
 |nil=>rfl
 |cons j bx=>omega
def UQ.pos{ns:List al}{st:List Int}{p:Int}(h:UQ ns st p)(hp:0<=p): ∃(j bx:Nat) (rest:List Int),p=(j:Int)/\st=(j:Int)::rest/\Sz ns j bx/\1<=bx/\bx<=j+1/\UQ ns rest ((j:Int)-(bx:Int)):=by
 cases h with
 |nil=>omega
 |cons j bx H W h3 h4=>exact⟨j,bx,_,rfl,rfl,H,W,h3,h4⟩
def PlN(e:al)(st:List Int):Prop:=(prt e.Op=0/\e.A= -1/\e.B= -1)\/(prt e.Op=1/\e.B= -1/\ ∃rest,st=e.A::rest)\/(prt e.Op=2/\ ∃rest,st=e.B::e.A::rest)
def wA(op:Int):prt op=0\/prt op=1\/prt op=2\/prt op= -1:=by
 unfold prt;split
 ·exact .inl rfl
 ·split
  ·exact .inr (.inr (.inl rfl))
  ·split
   ·exact .inr (.inl rfl)
   ·exact .inr (.inr (.inr rfl))
def K7{ns:List al}{fu:Nat}(h:0<fu){p:Int}(hp:p<0):iv fu ns p=some 0:=by
 obtain⟨fu,rfl⟩: ∃k,fu=k+1:=⟨fu-1,by omega⟩;unfold iv;rw [bM (by simp [hp])]
def M9{ns:List al}{j:Nat}{n:al}(hn:ns[j]? =some n)(hl:ns.length<=1000)(fu:Nat):iv (fu+1) ns (j:Int)=
  if prt n.Op=0 then(if n.A= -1/\n.B= -1 then some 1 else some 0)
  else if prt n.Op=1 then(iv fu ns ((j:Int)-1)).bind (fun r1=>if(n.A=(j:Int)-1/\n.B= -1)/\0<r1 then some (i64.wrap (r1+(1:Int)))else some (0:Int))
  else if prt n.Op=2 then(iv fu ns ((j:Int)-1)).bind (fun r2=>if(r2=0\/n.B≠(j:Int)-1)\/n.A≠i64.wrap ((j:Int)-1-r2)then some 0 else((iv fu ns n.A).bind fun r3=>if(decide ((0:Int)<r3))then(some (i64.wrap ((i64.wrap (r3+r2))+(1:Int))))else(some (0:Int))))
  else some 0:=by
 have hj:=(vK.1 hn).1
 conv=>lhs;unfold iv
 rw [bB (by simp;omega),eU,hn];simp only [bz,AS];rw [gg (n:=(j:Int)-1) (by omega) (by omega)];by_cases h0:prt n.Op=0
 ·simp only [h0,gQ];rw [bM (by decide)];by_cases hAB:n.A= -1/\n.B= -1
  ·rw [bM hAB,bM (by simp [hAB])]
  ·rw [bB hAB,bB (by simpa using hAB)]
 by_cases H:prt n.Op=1
 ·simp only [H,gQ,bB (show¬(1:Int)=0 by decide)];rw [bB (by decide),bM (by decide)];congr 1;funext r1;by_cases hc:(n.A=(j:Int)-1/\n.B= -1)/\0<r1
  ·rw [bM hc,bM (by simp [hc])]
  ·rw [bB hc,bB (by simpa using hc)]
 by_cases W:prt n.Op=2
 ·simp only [W,gQ,bB (show¬(2:Int)=0 by decide),bB (show¬(2:Int)=1 by decide)];rw [bB (by decide),bB (by decide),bM (by decide)];congr 1;funext r2;by_cases hc:(r2=0\/n.B≠(j:Int)-1)\/n.A≠i64.wrap ((j:Int)-1-r2)
  ·rw [bM hc,bM (by simpa using hc)]
  ·rw [bB hc,bB (by simpa using hc)]
 ·have h3:prt n.Op= -1:=by have:=wA n.Op;omega
  simp only [h3];rfl
def Tk{ns:List al}{st:List Int}{i:Nat}{e:al}(hst:UQ ns st ((i:Int)-1))(he:ns[i]? =some e)(hl:ns.length<=100): ∃bx:Nat,Sz ns i bx/\((bx=0/\ ¬PlN e st)\/(1<=bx/\bx<=i+1/\PlN e st/\UQ ns ((i:Int)::st.drop (prt e.Op).toNat) (i:Int))):=by
 have hi:=(vK.1 he).1;have step:=M9 he (by omega);have sz: ∀{bx:Nat},(∀fu,i<fu->iv (fu+1) ns (i:Int)=some (bx:Int))->Sz ns i bx:=fun h fu hf=>by
  obtain⟨fu,rfl⟩: ∃k,fu=k+1:=⟨fu-1,by omega⟩;exact h fu (by omega)
 rcases wA e.Op with h0|h0|h0|h0
 ·by_cases hAB:e.A= -1/\e.B= -1
  ·have hs:Sz ns i 1:=sz fun fu _=>by rw [step,bM h0,bM hAB];rfl
   refine⟨1,hs,.inr ⟨kE _,by omega,.inl ⟨h0,hAB⟩,?_⟩⟩;rw [h0];exact .cons i 1 hs (kE _) (by omega) hst
  ·refine⟨0,sz fun fu _=>by rw [step,bM h0,bB hAB];rfl,.inl ⟨rfl,fun hp=>?_⟩⟩;rcases hp with h|h|h
   ·exact hAB h.2
   ·omega
   ·omega
 ·by_cases hz:i=0
  ·have:=hst.neg (by omega);subst this;refine⟨0,sz fun fu hf=>by rw [step,bB (by omega),bM h0,K7 (by omega) (by omega),bz,bB (by omega)];rfl,.inl ⟨rfl,fun hp=>?_⟩⟩;rcases hp with h|⟨_,_,r,h⟩|h
   ·omega
   ·cases h
   ·omega
  ·obtain⟨j,bx,rest,hj,rfl,g1,g2,g3,g4⟩:=hst.pos (by omega);by_cases hA:e.A=(i:Int)-1/\e.B= -1
   ·have hs:Sz ns i (bx+1):=sz fun fu hf=>by
     rw [step,bB (by omega),bM h0,hj,g1 fu (by omega),bz,bM ⟨by rw [<-hj];exact hA,by omega⟩,gg (by omega) (by omega)];rfl
    refine⟨bx+1,hs,.inr ⟨by omega,by omega,.inr (.inl ⟨h0,hA.2,rest,by rw [hA.1,hj]⟩),?_⟩⟩;rw [h0];refine .cons i (bx+1) hs (by omega) (by omega) ?_;have:(i:Int)-((bx+1:Nat):Int)=(j:Int)-(bx:Int):=by omega
    rw [this];exact g4
   ·refine⟨0,sz fun fu hf=>by
     rw [step,bB (by omega),bM h0,hj,g1 fu (by omega),bz,bB (fun h=>hA (by rw [hj];exact h.1))];rfl,.inl ⟨rfl,fun hp=>?_⟩⟩
    rcases hp with h|⟨_,hB,r,h⟩|h
    ·omega
    ·injection h with h _;exact hA ⟨by omega,hB⟩
    ·omega
 ·by_cases hz:i=0
  ·have:=hst.neg (by omega);subst this;refine⟨0,sz fun fu hf=>by rw [step,bB (by omega),bB (by omega),bM h0,K7 (by omega) (by omega),bz,bM (.inl (.inl rfl))];rfl,.inl ⟨rfl,fun hp=>?_⟩⟩;rcases hp with h|h|⟨_,r,h⟩
   ·omega
   ·omega
   ·cases h
  ·obtain⟨j,bx,rest,hj,rfl,g1,g2,g3,g4⟩:=hst.pos (by omega);by_cases hAB:e.B=(i:Int)-1/\e.A=(j:Int)-(bx:Int)
   ·have hw:i64.wrap ((j:Int)-(bx:Int))=(j:Int)-(bx:Int):=gg (by omega) (by omega);by_cases hn:(j:Int)-(bx:Int)<0
    ·have:=g4.neg hn;subst this;refine⟨0,sz fun fu hf=>by
      rw [step,bB (by omega),bB (by omega),bM h0,hj,g1 fu (by omega),bz,hw,bB (by omega),K7 (by omega) (by omega),bz,bB (by decide)];rfl,.inl ⟨rfl,fun hp=>?_⟩⟩
     rcases hp with h|h|⟨_,r,h⟩
     ·omega
     ·omega
     ·injection h with _ h;cases h
    ·obtain⟨j2,s2,rest2,hj2,rfl,k1,k2,k3,k4⟩:=g4.pos (by omega);have hs:Sz ns i (s2+bx+1):=sz fun fu hf=>by
      rw [step,bB (by omega),bB (by omega),bM h0,hj,g1 fu (by omega),bz,hw,bB (by omega),hAB.2,hj2,k1 fu (by omega),bz,bM (by simp;omega),gg (n:=(s2:Int)+(bx:Int)) (by omega) (by omega),gg (by omega) (by omega)];rfl
     refine⟨s2+bx+1,hs,.inr ⟨by omega,by omega,.inr (.inr ⟨h0,rest2,by rw [hAB.1,hAB.2,hj,hj2]⟩),?_⟩⟩;rw [h0];refine .cons i (s2+bx+1) hs (by omega) (by omega) ?_;have:(i:Int)-((s2+bx+1:Nat):Int)=(j2:Int)-(s2:Int):=by omega
     rw [this];exact k4
   ·have hw:i64.wrap ((j:Int)-(bx:Int))=(j:Int)-(bx:Int):=gg (by omega) (by omega);refine⟨0,sz fun fu hf=>by
     rw [step,bB (by omega),bB (by omega),bM h0,hj,g1 fu (by omega),bz,hw,bM (by omega)];rfl,.inl ⟨rfl,fun hp=>?_⟩⟩
    rcases hp with h|h|⟨_,r,h⟩
    ·omega
    ·omega
    ·injection h with e1 e2;by_cases hn:(j:Int)-(bx:Int)<0
     ·have:=g4.neg hn;subst this;cases e2
     ·obtain⟨j2,s2,rest2,hj2,rfl,_⟩:=g4.pos (by omega);injection e2 with e2 _;exact hAB ⟨by omega,by omega⟩
 ·refine⟨0,sz fun fu _=>by rw [step,bB (by omega),bB (by omega),bB (by omega)];rfl,.inl ⟨rfl,fun hp=>?_⟩⟩;rcases hp with h|h|h<;>omega
def K3.nil:K3 []:=fun x K=>by cases K
def J7{op:Int}(h:0<=prt op):Je op=true\/op=9\/op=10\/op=11:=by
 unfold prt at h;simp only [Je,nw,mS];split at h
 ·omega
 ·split at h
  ·omega
  ·split at h
   ·omega
   ·omega
def VH{l:aE}(h:Lb l)(hop:Je l.n.Op=true): ∃ok0 R0,qU l.n.Op l ()=some (ok0,{l with j':=R0})/\(J8 l.n l.a_ l.b).2=(ok0&&decide (R0.length<=16))/\((J8 l.n l.a_ l.b).2=true->(J8 l.n l.a_ l.b).1=R0/\dq l.n l.a_ l.b=some (R0,true)/\R0.length<=16):=by
 obtain⟨ok,R,o,k,H,W,h3,h4⟩:=VX h hop;refine⟨ok,R,H,?_⟩;have e:J8 l.n l.a_ l.b=if 16<k.length then([],false)else(k,o):=by unfold J8;rw [W]
 rw [e];by_cases hl:16<k.length
 ·rw [bM hl];have:decide (k.length<=16)=false:=by simpa using hl
  rw [this,Bool.and_false]at h3;exact⟨h3.symm,fun h=>by cases h⟩
 ·rw [bB hl];have:decide (k.length<=16)=true:=by simp;omega
  rw [this,Bool.and_true]at h3;refine⟨h3.symm,fun ho=>?_⟩;have ho:o=true:=ho;subst ho;have:=h4 h3;subst this;exact⟨rfl,W,by omega⟩
def nl(e:al)(a b:List Int):List (List Int):=if prt e.Op=0 then []else if prt e.Op=1 then [a]else [a,b]
def mE(e:al)(a b:List Int):Bool:=(e.Op==11)||(!(decide ((4:Int)∈a))&& !(decide ((4:Int)∈b)))
def TU(n:al){a b:List Int}(h3:K3 a)(hal:a.length<=16)(h:(4:Int)∈b):eP n [a,b]=some ([],false):=by
 unfold eP cA;rw [Bz,bz,bB (by simpa using h3.four),D4 _ _ _ _ _ _ h3 (by show 0+a.length<=1000;omega)];unfold eT;show((hU ([]:List al) [m4,lL 0 a]).bind fun l5=>if(((0:Nat):Int)==(0:Int))then(cA [b] 1 {n with A:=i64.wrap ((l5.length:Int)-1)} ⟨l5⟩)else(cA [b] 1 {n with B:=i64.wrap ((l5.length:Int)-1)} ⟨l5⟩))=_;rw [bZ (by simp),bz,bM (by rfl)];exact D5 _ h _ _ _
section
variable{l:aE}{nx:Nat->(List (List Int))->Option ((List (List Int))×Int)}{i:Nat}{out:List (List Int)}
def Fs(l:aE)(nx:Nat->(List (List Int))->Option ((List (List Int))×Int))(i:Nat)(out:List (List Int)):Prop:= ∃ok0 R0 k o,qU l.n.Op l ()=some (ok0,{l with j':=R0})/\fJ l.nodes nx i l.n out (nl l.n l.a_ l.b)=ez l.nodes nx i l.n out o k/\o=(mE l.n l.a_ l.b&&(ok0&&decide (R0.length<=16)))/\(o=true->k=R0/\Kd R0)
def abx(h:Lb l)(hop:Je l.n.Op=true)(ho:E5 l.n=true)(h0:prt l.n.Op=0->l.n.A= -1/\l.n.B= -1/\l.a_=[]/\l.b=[])(H:prt l.n.Op=1->l.n.B= -1/\Kd l.a_/\l.b=[])(W:prt l.n.Op=2->Kd l.a_/\Kd l.b):Fs l nx i out:=by
 obtain⟨ok0,R0,e1,e2,e3⟩:=VH h hop;have hop' :=tK hop;have key: ∀(r:List Int×Bool),r=(if mE l.n l.a_ l.b then J8 l.n l.a_ l.b else([],false))->fJ l.nodes nx i l.n out (nl l.n l.a_ l.b)=ez l.nodes nx i l.n out r.2 r.1->(mE l.n l.a_ l.b=true->K3 l.a_/\K3 l.b/\(l.n.Op≠1->1<=l.a_.length))->Fs l nx i out:=by
  intro r hr hk h3;refine⟨ok0,R0,r.1,r.2,e1,hk,?_,fun ho=>?_⟩
  ·rw [hr]
   cases hs:mE l.n l.a_ l.b with
   |false=>rfl
   |true=>rw [bM rfl,o4];exact e2
  ·cases hs:mE l.n l.a_ l.b with
   |false=>rw [hr,hs,bB (by simp)]at ho;cases ho
   |true=>
    rw [hs,bM rfl]at hr;rw [hr]at ho ⊢;obtain⟨g1,g2,g3⟩:=e3 ho;obtain⟨q1,q2,q3⟩:=h3 hs;have:=aam h.n hop q1 q2 h.a h.b q3 g2;exact⟨g1,this.2,g3,fun x K=>by have:=this.1 x K;omega⟩
 have hk3:l.n.Op≠1->fJ l.nodes nx i l.n out (nl l.n l.a_ l.b)=(eP l.n (nl l.n l.a_ l.b)).bind fun r8=>ez l.nodes nx i l.n out r8.2 r8.1:=fun hn=>by
  unfold fJ;rw [bB (by simp;omega),bB (by simp;omega),bB (by simp;omega),bB (by simpa using hn)]
 have hs11:(l.n.Op==11)=false:=by simp;omega
 rcases wA l.n.Op with hp|hp|hp|hp
 ·have hop1:l.n.Op=1:=by
   unfold prt at hp;split at hp
   ·omega
   ·split at hp
    ·omega
    ·split at hp<;>omega
  obtain⟨hA,hB,ha,V⟩:=h0 hp;have hs:mE l.n l.a_ l.b=true:=by unfold mE;rw [ha,V];simp
  refine key (J8 l.n [] []) (by rw [hs,bM rfl,ha,V]) ?_ (fun _=>⟨by rw [ha];exact K3.nil,by rw [V];exact K3.nil,fun h=>absurd hop1 h⟩);unfold fJ;rw [bB (by simp;omega),bB (by simp;omega),bB (by simp;omega),bM (by simp [hop1]),TT h.n hop1 hA hB ho];rfl
 ·have hop1:l.n.Op≠1:=fun hc=>by rw [hc]at hp;exact absurd hp (by decide)
  have hop27: ¬(l.n.Op=2\/l.n.Op=7):=fun hc=>by rcases hc with hc|hc<;>(rw [hc]at hp;exact absurd hp (by decide))
  obtain⟨hB,hKa,V⟩:=H hp;have hparts:nl l.n l.a_ l.b=[l.a_]:=by unfold nl;rw [bB (by omega),bM hp]
  have hs:mE l.n l.a_ l.b= !(decide ((4:Int)∈l.a_)):=by unfold mE;rw [hs11,V];simp
  by_cases h4:(4:Int)∈l.a_
  ·have hs' :mE l.n l.a_ l.b=false:=by rw [hs];simp [h4]
   refine key ([],false) (by rw [hs'];rfl) ?_ (fun h=>by rw [hs']at h;cases h);rw [hk3 hop1,hparts];unfold eP;rw [D5 _ h4,bz]
  ·have hs' :mE l.n l.a_ l.b=true:=by rw [hs];simp [h4]
   refine key (J8 l.n l.a_ []) (by rw [hs',bM rfl,V]) ?_ (fun _=>⟨hKa.k3 h4,by rw [V];exact K3.nil,fun _=>hKa.pos⟩);rw [hk3 hop1,hparts,NP h.n hop hop1 hop27 hB ho hKa (hKa.k3 h4),bz]
 ·have hop1:l.n.Op≠1:=fun hc=>by rw [hc]at hp;exact absurd hp (by decide)
  have hop27:l.n.Op=2\/l.n.Op=7:=by
   unfold prt at hp;split at hp
   ·omega
   ·split at hp
    ·omega
    ·split at hp<;>omega
  obtain⟨hKa,hKb⟩:=W hp;have hparts:nl l.n l.a_ l.b=[l.a_,l.b]:=by unfold nl;rw [bB (by omega),bB (by omega)]
  have hs:mE l.n l.a_ l.b=(!(decide ((4:Int)∈l.a_))&& !(decide ((4:Int)∈l.b))):=by unfold mE;rw [hs11,ta]
  by_cases h4:(4:Int)∈l.a_
  ·have hs' :mE l.n l.a_ l.b=false:=by rw [hs];simp [h4]
   refine key ([],false) (by rw [hs'];rfl) ?_ (fun h=>by rw [hs']at h;cases h);rw [hk3 hop1,hparts];unfold eP;rw [D5 _ h4,bz]
  ·by_cases h4b:(4:Int)∈l.b
   ·have hs' :mE l.n l.a_ l.b=false:=by rw [hs];simp [h4b]
    refine key ([],false) (by rw [hs'];rfl) ?_ (fun h=>by rw [hs']at h;cases h);rw [hk3 hop1,hparts,TU _ (hKa.k3 h4) hKa.le h4b,bz]
   ·have hs' :mE l.n l.a_ l.b=true:=by rw [hs];simp [h4,h4b]
    refine key (J8 l.n l.a_ l.b) (by rw [hs',bM rfl]) ?_ (fun _=>⟨hKa.k3 h4,hKb.k3 h4b,fun _=>hKa.pos⟩);rw [hk3 hop1,hparts,VF h.n hop27 ho hKa (hKa.k3 h4) hKb (hKb.k3 h4b),bz]
 ·exfalso;unfold prt at hp;split at hp
  ·omega
  ·split at hp
   ·omega
   ·split at hp<;>omega
def V6(hop:l.n.Op=9)(ha:l.a_=[])(V:l.b=[]):Fs l nx i out:=by
 refine⟨LI l.n,l.n.A',l.n.A',LI l.n,by rw [hop];exact HS l,?_,?_,fun h=>⟨rfl,V9 h⟩⟩
 ·unfold fJ;rw [bM (by simp [hop]),Uf,bz]
 ·have hs:mE l.n l.a_ l.b=true:=by unfold mE;rw [ha,V];simp
  rw [hs,o4]
  cases h:LI l.n with
  |false=>rfl
  |true=>have:=(V9 h).le;simp [this]
def Qk(h:Lb l)(hop:l.n.Op=10)(ho:E5 {l.n with Op:=4}=true)(hB:l.n.B= -1)(hKa:Kd l.a_)(V:l.b=[]):Fs l nx i out:=by
 have hparts:nl l.n l.a_ l.b=[l.a_]:=by unfold nl;rw [hop];rfl
 have hs:mE l.n l.a_ l.b= !(decide ((4:Int)∈l.a_)):=by unfold mE;rw [hop,V];simp
 have hn4:kq {l.n with Op:=4}:=⟨h.n.cond,h.n.g',h.n.keys,h.n.aggs,h.n.items,h.n.order,h.n.args,h.n.exprs⟩;have hk:=h.n.keys;have Y:=h.n.aggs;obtain⟨ok,R,o,k,g1,g2,g3,g4⟩:=C7 h (n:={l.n with Op:=4}) rfl hn4 rfl rfl [];have hcode: ∃R0,qU l.n.Op l ()=some (ok,{l with j':=R0})/\(ok=true->qd l.n R=some R0/\R0.length=R.length/\ ∀x∈R0,x∈R\/x=4):=by
  rw [hop];show∃R0,fW l=some (ok,{l with j':=R0})/\_;unfold fW;rw [g1,bz]
  cases ok with
  |false=>exact⟨R,rfl,fun h=>by cases h⟩
  |true=>
   obtain⟨_,hRl⟩:=g4 rfl;obtain⟨R',q1,q2,q3,q4⟩:=E4 (l:=l) (n:=l.n) rfl hk l.n.u' 0 R (by omega) (by omega);refine⟨R',q1,fun _=>⟨?_,q3,q4⟩⟩;unfold qd;rw [bZ (by simp;omega),bz,pM];exact q2
 obtain⟨R0,c1,c2⟩:=hcode;have hunf:fJ l.nodes nx i l.n out (nl l.n l.a_ l.b)=(eP {l.n with Op:=4} [l.a_]).bind fun r4=>if r4.2 then((qd l.n r4.1).bind fun r5=>ez l.nodes nx i l.n out r4.2 r5)else(ez l.nodes nx i l.n out r4.2 r4.1):=by
  unfold fJ;rw [bB (by simp [hop]),bM (by simp [hop]),hparts]
 by_cases h4:(4:Int)∈l.a_
 ·refine⟨ok,R0,[],false,c1,?_,by rw [hs];simp [h4],fun h=>by cases h⟩;rw [hunf];unfold eP;rw [D5 _ h4,bz,bB (by simp)]
 ·have hop1:eP {l.n with Op:=4} [l.a_]=some (J8 {l.n with Op:=4} l.a_ []):=NP hn4 rfl (by show¬(4:Int)=1;decide) (by show¬((4:Int)=2\/(4:Int)=7);decide) hB ho hKa (hKa.k3 h4);have hopK:J8 {l.n with Op:=4} l.a_ []=if 16<k.length then([],false)else(k,o):=by unfold J8;rw [g2]
  rw [hop1,bz,hopK]at hunf
  cases ok with
  |false=>
   refine⟨false,R0,(if 16<k.length then([],false)else(k,o)).1,false,c1,?_,by simp,fun h=>by cases h⟩;rw [hunf,<-g3];split<;>rfl
  |true=>
   obtain⟨hRk,hRl⟩:=g4 rfl;obtain⟨c3,c4,c5⟩:=c2 rfl;rw [<-g3,<-hRk]at hunf;by_cases hl:16<R.length
   ·rw [bM hl]at hunf;refine⟨true,R0,[],false,c1,by rw [hunf];rfl,by rw [c4];simp;omega,fun h=>by cases h⟩
   ·rw [bB hl]at hunf;refine⟨true,R0,R0,true,c1,?_,by rw [hs,c4];simp [h4];omega,fun _=>⟨rfl,?_⟩⟩
    ·rw [hunf];show(qd l.n R).bind _=_;rw [c3,bz]
    ·have hr:=aam (n:={l.n with Op:=4}) (b:=[]) hn4 rfl (hKa.k3 h4) (fun x K=>by cases K) h.a (by simp) (fun _=>hKa.pos) (by rw [g2,<-g3]);rw [<-hRk]at hr;refine⟨by omega,by omega,fun x K=>?_⟩;rcases c5 x K with K|rfl
     ·have:=hr.1 x K;omega
     ·omega
def V7(h:Lb l)(hop:l.n.Op=11)(hKa:Kd l.a_){e:al}(hA:gw l.nodes l.n.A=some e):Fs l nx i out:=by
 have hparts:nl l.n l.a_ l.b=[l.a_]:=by unfold nl;rw [hop];rfl
 have hs:mE l.n l.a_ l.b=true:=by unfold mE;rw [hop];rfl
 have hk:=h.n.keys;have Y:=h.n.aggs;have ha:=hKa.le;have hp:=hKa.pos;have hunf:fJ l.nodes nx i l.n out (nl l.n l.a_ l.b)=(re l.n l.a_).bind fun r6=>(if r6.2 then(some (e.Op==(9:Int)))else some false).bind fun t1=>ez l.nodes nx i l.n out t1 r6.1:=by
  unfold fJ;rw [bB (by simp [hop]),bB (by simp [hop]),bM (by simp [hop]),hparts,hA];rfl
 have hask:qU l.n.Op l ()=ff l:=by rw [hop];rfl
 have hw:i64.wrap ((l.n.v'.length:Int)+(l.n.u'.length:Int))=((l.n.v'.length+l.n.u'.length:Nat):Int):=by rw [gg (by omega) (by omega)];omega
 by_cases hc:(l.n.v'.length<=3/\l.n.u'.length<=12)/\l.n.v'.length+l.n.u'.length=l.a_.length
 ·-- what both come to, but for where it comes from
  have hfin:re l.n l.a_=some (if Ar l.a_ l.n.v' 0&&(l.n.u'.zip (l.a_.drop l.n.v'.length)).all (fun p=>(fk p.1 p.2).2)then(l.a_.take l.n.v'.length++List.zipWith (fun g k=>(fk g k).1) l.n.u' (l.a_.drop l.n.v'.length),true)else([],false)):=by
   unfold re;rw [hw,bB (by intro hh;simp only [CK,mS,Ay,oJ,ne_eq]at hh;omega)];have:=N4 (n:=l.n) (a:=l.a_) (by omega) (by omega) l.n.v' 0 (yA _);rw [List.take_zero]at this;rw [this]
   cases hkb:Ar l.a_ l.n.v' 0 with
   |false=>rw [bB (by simp)];rfl
   |true=>rw [bM rfl,R8 hk l.n.u' 0 _ (l.a_.drop l.n.v'.length) (by simp;omega) rfl (by simp;omega) (by omega),o4]
  by_cases h9:e.Op=9
  ·have hcode:ff l=some (Ar l.a_ l.n.v' 0&&(l.n.u'.zip (l.a_.drop l.n.v'.length)).all (fun p=>(fk p.1 p.2).2),{l with j':=l.a_.take l.n.v'.length++List.zipWith (fun g k=>(fk g k).1) l.n.u' (l.a_.drop l.n.v'.length)}):=by
    unfold ff;have hcond:((((e.Op==(9:Int))&&(decide ((l.n.v'.length:Int)<=(3:Int))))&&(decide ((l.n.u'.length:Int)<=(12:Int))))&&((i64.wrap ((l.n.v'.length:Int)+(l.n.u'.length:Int)))==(l.a_.length:Int)))=true:=by
     rw [hw];simp [h9];omega
    rw [hA,bz,hcond,bB (by simp),wx _ (by omega),bz,E8 (by omega) l.a_ l.n.v' 0 true (yA _),o4];have:=Ia (l:=l) hk l.n.u' 0 (Ar l.a_ l.n.v' 0) (l.a_.take l.n.v'.length) (l.a_.drop l.n.v'.length) (by simp;omega) (by simp;omega) rfl (by simp;omega);rw [vX]at this;exact this
   have hRl:(l.a_.take l.n.v'.length++List.zipWith (fun g k=>(fk g k).1) l.n.u' (l.a_.drop l.n.v'.length)).length=l.a_.length:=by simp;omega
   refine⟨_,_,(if Ar l.a_ l.n.v' 0&&(l.n.u'.zip (l.a_.drop l.n.v'.length)).all (fun p=>(fk p.1 p.2).2)then(l.a_.take l.n.v'.length++List.zipWith (fun g k=>(fk g k).1) l.n.u' (l.a_.drop l.n.v'.length),true)else([],false)).1,_,hask.trans hcode,?_,rfl,fun hv=>?_⟩
   ·rw [hunf,hfin,bz,hs,hRl];have e16:decide (l.a_.length<=16)=true:=by simpa using ha
    rw [e16]
    cases (Ar l.a_ l.n.v' 0&&(l.n.u'.zip (l.a_.drop l.n.v'.length)).all (fun p=>(fk p.1 p.2).2))with
    |true=>simp [h9]
    |false=>simp
   ·rw [hs,o4,nw]at hv;rw [bM hv.1];refine⟨rfl,by omega,by omega,fun x K=>?_⟩;rcases An.1 K with K|K
    ·exact hKa.vals x (List.mem_of_mem_take K)
    ·obtain⟨j,hj,hjx⟩:=List.getElem_of_mem K;rw [List.getElem_zipWith]at hjx;have hm:(l.a_.drop l.n.v'.length)[j]'(by simp at hj ⊢;omega)∈l.a_:=List.mem_of_mem_drop (Jy _);have:=hKa.vals _ hm;rw [<-hjx];unfold fk;split
     ·exact this
     ·split
      ·omega
      ·split<;>exact this
  ·refine⟨false,l.j',(if Ar l.a_ l.n.v' 0&&(l.n.u'.zip (l.a_.drop l.n.v'.length)).all (fun p=>(fk p.1 p.2).2)then(l.a_.take l.n.v'.length++List.zipWith (fun g k=>(fk g k).1) l.n.u' (l.a_.drop l.n.v'.length),true)else([],false)).1,false,hask.trans ?_,?_,by simp,fun h=>by cases h⟩
   ·unfold ff;rw [hA,bz,bM (by simp [h9])]
   ·rw [hunf,hfin,bz];have:(e.Op==9)=false:=by simpa using h9
    rw [this];split<;>rfl
 ·refine⟨false,l.j',[],false,hask.trans ?_,?_,by simp,fun h=>by cases h⟩
  ·unfold ff;have hcond:((((e.Op==(9:Int))&&(decide ((l.n.v'.length:Int)<=(3:Int))))&&(decide ((l.n.u'.length:Int)<=(12:Int))))&&((i64.wrap ((l.n.v'.length:Int)+(l.n.u'.length:Int)))==(l.a_.length:Int)))=false:=by
    rw [hw,IU];intro hh;apply hc;simp at hh;omega
   rw [hA,bz,hcond,bM (by simp)]
  ·have:re l.n l.a_=some ([],false):=by
    unfold re;rw [hw,bM (by
     cases V:((((decide ((3:Int)<(l.n.v'.length:Int)))||(decide ((12:Int)<(l.n.u'.length:Int))))||((((l.n.v'.length+l.n.u'.length:Nat):Int)) !=(l.a_.length:Int)))||((l.a_.length:Int)==(0:Int)))with
     |true=>rfl
     |false=>exfalso;apply hc;simp at V;omega)]
   rw [hunf,this];rfl
end
