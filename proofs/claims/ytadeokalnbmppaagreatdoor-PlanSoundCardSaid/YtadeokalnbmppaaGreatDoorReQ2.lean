import Derived.Test.YtadeokalnbmppaaGreatDoorReQ1
set_option linter.all false
namespace Go.Proofs.YtadeokalnbmppaaGreatDoor
open Go IntKind
def nb(r:Nat):Nat:=if r%2=1 then(r/2)^^^2197175160 else r/2
def nb8(r:Nat):Nat:=nb (nb (nb (nb (nb (nb (nb (nb r)))))))
def Q7:List Int:=(List.range 256).map fun i=>(nb8 i:Int)
variable{i:Nat}{l:cQ}
def yD{f:Int->Option Bool}{g:Int->Bool}(Q: ∀v,f v=some (g v)): ∀(l:List Int) (i:Nat),∃j:Int,iD f l i=some j/\decide (0<=j)=l.any g
 |[],i=>⟨-1,rfl,rfl⟩
 |e::l,i=>by
  unfold iD;rw [Q,bh]
  cases h:g e with
  |true=>exact⟨(i:Int),by simp,by simp [h]⟩
  |false=>
   obtain⟨j,D,V⟩:=yD Q l (i+1);exact⟨j,by simpa using D,by rw [V];simp [h]⟩
def iv{f:Int->Option Bool}{g:Int->Bool}(Q: ∀v,f v=some (g v))(l:List Int):dr l f=some (l.any g):=by
 unfold dr oG;obtain⟨j,D,V⟩:=yD Q l 0;rw [D,bh,V]
variable{n:ac}
def nO{n:Nat}(h:n<=1000000):n<=ko:=by unfold ko;omega
def kC(ns:List bw):Bool:=(qF ns).isSome
def Fq{ns:List bw}{st:List Tr}(h:rC ns []=some st):cS st=ns.length:=by
 have:=(wx h (fun t Y=>by cases Y)).1;rw [<-JH,this];simp [yo]
def uP(e:bD)(h:e.u'.length<=100000):sv e=some (if kC e.u' then 0 else 200):=by
 unfold sv ve kC qF;have:=JL e.u' [] (by simpa [cS] using h);simp only [cS,NC,o8]at this;rw [this]
 cases hp:rC e.u' []with
 |none=>rfl
 |some st=>
  have k_:=Fq hp
  match st,k_ with
  |[],_=>rfl
  |[t],k_=>
   simp only [bh,k_];by_cases hl:e.u'.length<=1000<;>simp [hl]
  |t::t2::st,_=>simp
def Xi(t:Tr):t.wf-> ∀(P R N:List bw) (fu:Nat),N=P++t.flat P.length++R->t.size<=fu->N.length<=100000->lL fu ⟨N⟩ (((P.length+t.size:Nat):Int)-1)=some (t.size:Int):=by
 induction t with
 |lf n=>
  intro⟨D,V,Z,h4⟩ P R N fu hN Q hl;have hNl:=congrArg List.length hN;simp only [jY,Tr.X']at hNl;simp only [Tr.size]at Q hNl ⊢;obtain⟨fu,rfl⟩: ∃k,fu=k+1:=⟨fu-1,by omega⟩;unfold lL;have I:N[P.length]? =some (kS n (-1) (-1)):=by
   rw [hN,gJ,sE (eX _),pX];rfl
  rw [aZ (by simp;omega),me P.length (by omega),I];have e1:(kS n (-1) (-1)).Tag=n.Tag:=rfl;simp only [bh];rw [e1,tq];have e:KI n.Tag=0:=by unfold KI;rw [D];rfl
  simp only [e,bh,mI];have e2:LL (kS n (-1) (-1))=true:=V;rw [e2];simp [kS]
 |un n a ih=>
  intro⟨⟨D,V,Z,h4⟩,ha⟩ P R N fu hN Q hl;obtain⟨m,hm⟩: ∃m,m=kS n (((P.length+a.size:Nat):Int)-1) (-1):=⟨_,rfl⟩;have hNl:=congrArg List.length hN;simp only [jY,Tr.X']at hNl;simp only [Tr.size]at Q hNl ⊢;simp only [Tr.flat,<-hm]at hN;obtain⟨fu,rfl⟩: ∃k,fu=k+1:=⟨fu-1,by omega⟩;have hpos:=a.size_pos;have hi:=ih ha P ([m]++R) N fu (by rw [hN];simp only [gJ]) (by omega) hl;unfold lL;have I:N[P.length+a.size]? =some m:=by
   rw [hN,gJ,gJ,<-gJ P,sE (by simp [a.X'])];simp [a.X']
  rw [aZ (by simp;omega),me (P.length+a.size) (by omega),I];simp only [bh];have e1:m.Tag=n.Tag:=by rw [hm];rfl
  rw [e1,tq];have e:KI n.Tag=1:=by unfold KI;rw [D];rfl
  simp only [e,bh,mI];have e2:LL m=true:=by rw [hm];exact V
  have eL:m.L=((P.length+a.size:Nat):Int)-1:=by rw [hm];rfl
  have eR:m.R= -1:=by rw [hm];rfl
  rw [cJ (n:=((P.length+(a.size+1):Nat):Int)-1-1) (by omega) (by omega),show(((P.length+(a.size+1):Nat):Int)-1-1)=(((P.length+a.size:Nat):Int)-1)from by omega];rw [hi];simp only [bh];rw [cJ (n:=(a.size:Int)+1) (by omega) (by omega)];have n1: ¬a.size=0:=by omega
  simp [e2,eL,eR,n1]
 |bi n a b iha ihb=>
  intro⟨⟨D,V,Z,h4⟩,ha,K⟩ P R N fu hN Q hl;obtain⟨m,hm⟩: ∃m,m=kS n (((P.length+a.size:Nat):Int)-1) (((P.length+a.size+b.size:Nat):Int)-1):=⟨_,rfl⟩;have hNl:=congrArg List.length hN;simp only [jY,Tr.X']at hNl;simp only [Tr.size]at Q hNl ⊢;simp only [Tr.flat,<-hm]at hN;obtain⟨fu,rfl⟩: ∃k,fu=k+1:=⟨fu-1,by omega⟩;have hap:=a.size_pos;have hbp:=b.size_pos;have hi1:=iha ha P (b.flat (P.length+a.size)++[m]++R) N fu (by rw [hN];simp only [gJ]) (by omega) hl;have hi2:=ihb K (P++a.flat P.length) ([m]++R) N fu (by rw [hN];simp only [gJ,jY,a.X']) (by omega) hl;rw [jY,a.X']at hi2;unfold lL;have I:N[P.length+a.size+b.size]? =some m:=by
   rw [hN,gJ,gJ,<-gJ P,sE (by simp [a.X',b.X'];omega)];have:P.length+a.size+b.size-(P++(a.flat P.length++b.flat (P.length+a.size))).length=0:=by simp [a.X',b.X'];omega
   rw [this];rfl
  rw [aZ (by simp;omega),me (P.length+a.size+b.size) (by omega),I];simp only [bh];have e1:m.Tag=n.Tag:=by rw [hm];rfl
  rw [e1,tq];have e:KI n.Tag=2:=by unfold KI;rw [D];rfl
  simp only [e,bh,mI];have e2:LL m=true:=by rw [hm];exact V
  have eL:m.L=((P.length+a.size:Nat):Int)-1:=by rw [hm];rfl
  have eR:m.R=((P.length+a.size+b.size:Nat):Int)-1:=by rw [hm];rfl
  rw [cJ (n:=((P.length+(a.size+b.size+1):Nat):Int)-1-1) (by omega) (by omega),show(((P.length+(a.size+b.size+1):Nat):Int)-1-1)=(((P.length+a.size+b.size:Nat):Int)-1)from by omega];rw [hi2];simp only [bh];rw [cJ (n:=((P.length+a.size+b.size:Nat):Int)-1-(b.size:Int)) (by omega) (by omega),show((P.length+a.size+b.size:Nat):Int)-1-(b.size:Int)=((P.length+a.size:Nat):Int)-1 from by omega];rw [hi1];simp only [bh];rw [cJ (n:=(a.size:Int)+(b.size:Int)) (by omega) (by omega),cJ (n:=(a.size:Int)+(b.size:Int)+1) (by omega) (by omega)];have n1: ¬a.size=0:=by omega
  have n2: ¬b.size=0:=by omega
  have e5:(P.length:Int)+(a.size:Int)+(b.size:Int)-1-(b.size:Int)=(P.length:Int)+(a.size:Int)-1:=by omega
  simp [e2,eL,eR,n1,n2,e5]
def Xj(N:List bw)(hN:N.length<=100000): ∀(fu q:Nat),q<=N.length->q<fu-> ∃k:Nat,lL fu ⟨N⟩ ((q:Int)-1)=some (k:Int)/\(k=0\/ ∃(t:Tr) (P R:List bw),t.wf/\t.size=k/\N=P++t.flat P.length++R/\P.length+k=q):=by
 intro fu
 induction fu with
 |zero=>intro q _ h;omega
 |succ fu ih=>
  intro q hq Q;unfold lL;by_cases h0:q=0
  ·subst h0;exact⟨0,by rw [bq (by simp)];rfl,.inl rfl⟩
  rw [aZ (by simp;omega),me (q-1) (by omega)];have o_:q-1<N.length:=by omega
  rw [qV o_];obtain⟨n,hn⟩: ∃n,n=N[q-1]:=⟨_,rfl⟩;rw [<-hn];have hd:N=N.take (q-1)++([n]++N.drop q):=by
   have D:=vn (q-1) N;rw [yK o_,<-hn,show q-1+1=q from by omega]at D;exact D.symm
  simp only [bh,tq,mI]
  cases hk:pk n.Tag with
  |none=>
   have e:KI n.Tag= -1:=by unfold KI;rw [hk]
   exact⟨0,by simp [e],.inl rfl⟩
  |some k=>
   have e:KI n.Tag=(k:Int):=by unfold KI;rw [hk]
   have hk3:k=0\/k=1\/k=2:=by
    unfold pk at hk;repeat' split at hk
    all_goals simp at hk
    all_goals omega
   cases hc:LL n with
   |false=>exact⟨0,by simp [e,hc],.inl rfl⟩
   |true=>
    rcases hk3 with rfl|rfl|rfl
    ·rw [e];by_cases hL:n.L= -1/\n.R= -1
     ·refine⟨1,by simp [hL],.inr ⟨.lf (kS n (-1) (-1)),N.take (q-1),N.drop q,⟨hk,hc,rfl,rfl⟩,rfl,?_,by simp;omega⟩⟩;simp only [Tr.flat];rw [A6 hL.1 hL.2,gJ];exact hd
     ·refine⟨0,?_,.inl rfl⟩;have:(n.L != -1||n.R != -1)=true:=by
       rw [zR,w7,w7];by_cases hl:n.L= -1
       ·exact .inr fun h=>hL ⟨hl,h⟩
       ·exact .inl hl
      simp [this]
    ·rw [e,cJ (by omega) (by omega)];have e9:(((q-1:Nat):Int)-1)=(q:Int)-1-1:=by omega
     obtain⟨r2,V,h2'⟩:=ih (q-1) (by omega) (by omega);rw [e9]at V;rw [V];rcases h2' with rfl|⟨t,P,R,hw,hs,hN2,hl⟩
     ·exact⟨0,by simp,.inl rfl⟩
     ·have hp:=t.size_pos;by_cases hL:n.L=(q:Int)-1-1/\n.R= -1
      ·refine⟨r2+1,?_,.inr ⟨.un (kS n (-1) (-1)) t,P,N.drop q,⟨⟨hk,hc,rfl,rfl⟩,hw⟩,by simp only [Tr.size];omega,?_,by omega⟩⟩
       ·simp only [bh];rw [cJ (n:=(r2:Int)+1) (by omega) (by omega)];have: ¬(r2=0):=by omega
        simp [hL,this]
       ·simp only [Tr.flat];rw [A6 (by rw [hL.1];omega) hL.2];have Y:N.take (q-1)=P++t.flat P.length:=by
         rw [hN2,Bu (by simp [t.X'];omega),s8 (by simp [t.X'];omega)]
        rw [Y]at hd;simpa only [gJ] using hd
      ·refine⟨0,?_,.inl rfl⟩;have:(n.L !=(q:Int)-1-1||n.R != -1)=true:=by
        rw [zR,w7,w7];by_cases hl:n.L=(q:Int)-1-1
        ·exact .inr fun h=>hL ⟨hl,h⟩
        ·exact .inl hl
       simp [this]
    ·rw [e,cJ (n:=(q:Int)-1-1) (by omega) (by omega)];have e9:(((q-1:Nat):Int)-1)=(q:Int)-1-1:=by omega
     obtain⟨r2,V,h2'⟩:=ih (q-1) (by omega) (by omega);rw [e9]at V;rw [V];rcases h2' with rfl|⟨t,P,R,hw,hs,hN2,hl⟩
     ·exact⟨0,by simp,.inl rfl⟩
     ·have hp:=t.size_pos;simp only [bh];rw [cJ (n:=(q:Int)-1-1-(r2:Int)) (by omega) (by omega)];have e8:(((q-1-r2:Nat):Int)-1)=(q:Int)-1-1-(r2:Int):=by omega
      have n2: ¬(r2=0):=by omega
      obtain⟨r3,Z,h3'⟩:=ih (q-1-r2) (by omega) (by omega);rw [e8]at Z;rw [Z];rcases h3' with rfl|⟨t3,P3,R3,hw3,hs3,hN3,hl3⟩
      ·exact⟨0,by simp,.inl rfl⟩
      ·have hp3:=t3.size_pos;have n3: ¬(r3=0):=by omega
       by_cases hL:n.R=(q:Int)-1-1/\n.L=(q:Int)-1-1-(r2:Int)
       ·refine⟨r3+r2+1,?_,.inr ⟨.bi (kS n (-1) (-1)) t3 t,P3,N.drop q,⟨⟨hk,hc,rfl,rfl⟩,hw3,hw⟩,by simp only [Tr.size];omega,?_,by omega⟩⟩
        ·simp only [bh];rw [cJ (n:=(r3:Int)+(r2:Int)) (by omega) (by omega),cJ (n:=(r3:Int)+(r2:Int)+1) (by omega) (by omega)];simp [hL,n2,n3]
        ·simp only [Tr.flat];rw [A6 (by rw [hL.2];omega) (by rw [hL.1];omega)];have Y:N.take (q-1)=P++t.flat P.length:=by
          rw [hN2,Bu (by simp [t.X'];omega),s8 (by simp [t.X'];omega)]
         have hP:P=N.take P.length:=by
          conv=>rhs;rw [hN2,gJ,Bu (eX _),s8 (eX _)]
         have hP3:P=P3++t3.flat P3.length:=by
          rw [hP];have:P.length=P3.length+t3.size:=by omega
          conv=>lhs;rw [this,hN3]
          rw [Bu (by simp [t3.X']),s8 (by simp [t3.X'])]
         have hPl:P.length=P3.length+t3.size:=by omega
         rw [Y,hPl]at hd;rw [hP3]at hd;simpa only [gJ] using hd
       ·clear ih hN2 hN3;refine⟨0,?_,.inl rfl⟩;have:(n.R !=(q:Int)-1-1||n.L !=(q:Int)-1-1-(r2:Int))=true:=by
         rw [zR,w7,w7];by_cases hl:n.R=(q:Int)-1-1
         ·exact .inr fun h=>hL ⟨hl,h⟩
         ·exact .inl hl
        have h' :=this;rw [zR,w7,w7]at h';simp [n2,n3];intro D V;exact absurd V (by rcases h' with h' |h';exact absurd D h';exact h')
def Hi(e:bD):Ak e=some (kC e.u'):=by
 unfold Ak kC;by_cases h:1<=e.u'.length/\e.u'.length<=1000
 ·rw [bq (by simp;omega),cJ (by omega) (by omega)];unfold Hh;obtain⟨k,D,V⟩:=Xj e.u' (by omega) ko e.u'.length (eX _) (wg (zS _) (nO (by omega)));have h1' :lL ko e ((e.u'.length:Int)-1)=some (k:Int):=D;rw [h1'];simp only [bh];congr 1;rw [uQ];constructor
  ·intro hk;have hk' :k=e.u'.length:=by have:=eq_of_beq hk;omega
   rcases V with rfl|⟨t,P,R,hw,hs,hN,hl⟩
   ·omega
   ·have hP:P=[]:=uS (by omega);subst hP;have hR:R=[]:=by
     have:=congrArg List.length hN;simp [t.X']at this;exact uS (by omega)
    subst hR;have hN' :e.u'=t.flat 0:=by simpa using hN
    rw [hN',Fb hw (by omega)];rfl
  ·intro hi
   cases Y:qF e.u' with
   |none=>rw [Y]at hi;cases hi
   |some t=>
    obtain⟨hw,hN,hs⟩:=qE Y;have hlen:e.u'.length=t.size:=by rw [hN,t.X']
    have Z:=Xi t hw [] [] e.u' ko (by simpa using hN) (nO (by omega)) (by omega);simp only [tZ,oZ]at Z;rw [<-hlen]at Z;have h4:some (k:Int)=some (e.u'.length:Int):=D.symm.trans Z;simpa using h4
 ·rw [aZ (by simp;omega)];simp only [bh];congr 1
  symm
  rw [BJ];intro hi
  cases Y:qF e.u' with
  |none=>rw [Y]at hi;cases hi
  |some t=>
   obtain⟨hw,hN,hs⟩:=qE Y;have hlen:e.u'.length=t.size:=by rw [hN,t.X']
   have:=t.size_pos;omega
def Cl{ns:List bw}(h:kC ns=true):1<=ns.length/\ns.length<=1000:=by
 unfold kC at h
 cases Y:qF ns with
 |none=>rw [Y]at h;cases h
 |some t=>
  obtain⟨hw,hN,hs⟩:=qE Y;have hlen:ns.length=t.size:=by rw [hN,t.X']
  have:=t.size_pos;omega
def Qq(p:List Int)(hp:p.length<=8000)(i:Nat)(y:List Int)(hy:i+y.length=p.length): ∀(k i1:Nat) (x:List Int) (x1:Nat),i1+k=y.length->0<i1->x.length=p.length->x1+1<=i+i1->x.drop (i+i1-1)=p.drop (i+i1-1)->
  fG i y k i1 x (x1:Int)=some (x.take x1++AM ((p[i+i1-1]?).getD 0) (p.drop (i+i1))):=by
 intro k
 induction k with
 |zero=>
  intro i1 x x1 D h0 I V Z;simp only [fG];have m_:x1<=x.length:=by omega
  rw [AX m_ (eX _)];simp only [bh,BH,yJ];rw [show((0:Int))=((0:Nat):Int)from rfl,AX (kY _) (by simp;omega)];simp only [bh,vj];have hn:p.drop (i+i1)=[]:=FX (by omega);rw [hn,NU,yH,Bu (by simp;omega),B5,Nat.min_self]
 |succ k ih=>
  intro i1 x x1 D h0 I V Z;have e1:x[i+i1]? =p[i+i1]? :=by
   have:=congrArg (fun l:List Int=>l[1]?) Z;simp only [xT]at this
   rwa [show i+i1-1+1=i+i1 from by omega]at this
  have e0:x[i+i1-1]? =p[i+i1-1]? :=by
   have:=congrArg (fun l:List Int=>l[0]?) Z;simpa only [xT,wV] using this
  have o_:i+i1<p.length:=by omega
  have g1:IC x (i:Int) y.length (i1:Int)=some p[i+i1]:=by
   unfold IC;rw [bq (by omega),show(i:Int)+(i1:Int)=((i+i1:Nat):Int)from by omega,bR,e1,qV o_]
  have g0:IC x (i:Int) y.length (i64.wrap ((i1:Int)-1))=some p[i+i1-1]:=by
   rw [cJ (by omega) (by omega)];unfold IC;rw [bq (by omega),show(i:Int)+((i1:Int)-1)=((i+i1-1:Nat):Int)from by omega,bR,e0,qV (by omega)]
  have hd:p.drop (i+i1)=p[i+i1]::p.drop (i+i1+1):=yK o_;have hp1:(p[i+i1-1]?).getD 0=p[i+i1-1]:=by rw [qV (by omega)];rfl
  simp only [fG,g1,g0,bh];rw [hd,hp1];by_cases hx2:p[i+i1]=p[i+i1-1]
  ·rw [aZ (by simp [hx2])];have h3' :x.drop (i+(i1+1)-1)=p.drop (i+(i1+1)-1):=by
    have:=congrArg (List.drop 1) Z
    rwa [vE,vE,show i+i1-1+1=i+(i1+1)-1 from by omega]at this
   rw [ih (i1+1) x x1 (by omega) (by omega) I (by omega) h3'];rw [JS hx2,show i+(i1+1)-1=i+i1 from by omega,qV o_,show i+(i1+1)=i+i1+1 from by omega];rfl
  ·rw [bq (by simp [hx2]),bR,qV (by omega)];simp only [bh,yJ];rw [cJ (by omega) (by omega),show((x1:Int)+1)=((x1+1:Nat):Int)from by omega];have h3' :(x.set x1 p[i+i1]).drop (i+(i1+1)-1)=p.drop (i+(i1+1)-1):=by
    rw [List.drop_set_of_lt (by omega)];have:=congrArg (List.drop 1) Z
    rwa [vE,vE,show i+i1-1+1=i+(i1+1)-1 from by omega]at this
   rw [ih (i1+1) _ (x1+1) (by omega) (by omega) (by simpa using I) (by omega) h3'];rw [RX hx2,show i+(i1+1)-1=i+i1 from by omega,qV o_,show i+(i1+1)=i+i1+1 from by omega];have Y:(x.set x1 p[i+i1]).take (x1+1)=x.take x1++[p[i+i1]]:=by
    rw [QV (by simp;omega),List.take_set_of_le (by omega)];simp
   rw [Y];simp
def Qr(p:List Int)(hp:p.length<=8000):mV p=some (RW p):=by
 unfold mV;by_cases V:p.length<2
 ·rw [bq (by simp;omega)]
  match p,V with
  |[],_=>rfl
  |[x],_=>rfl
 ·rw [aZ (by simp;omega)];have key: ∀(l:List Int) (i:Nat),p.drop i=l->0<i->i<=p.length->RW p=p.take i++AM ((p[i-1]?).getD 0) (p.drop i)->gN p l i=some (RW p):=by
   intro l
   induction l with
   |nil=>
    intro i D h0 hle Z;have:=GI.1 D;simp only [gN];rw [Z,D,s8 (by omega),NU,yH]
   |cons x t ih=>
    intro i D h0 hle Z;have hi:i<p.length:=by
     rcases mN i p.length with h|h
     ·exact h
     ·rw [FX h]at D;cases D
    have I:x=p[i]:=by rw [yK hi]at D;exact(List.cons.inj D).1.symm
    have Y:p.drop (i+1)=t:=by rw [<-vE,D];rfl
    have hp1:(p[i-1]?).getD 0=p[i-1]:=by rw [qV (by omega)];rfl
    simp only [gN];rw [cJ (by omega) (by omega),show(i:Int)-1=((i-1:Nat):Int)from by omega,bR,qV (by omega)];simp only [bh];by_cases he:x=p[i-1]
    ·rw [bq (by simp [he])];rw [AX hle (eX _)];simp only [bh,BH];rw [Qq p hp i (p.drop i) (by simp;omega) _ 1 p i (by simp;omega) (by omega) rfl (by omega) (by simp)];rw [Z,D,hp1,JS he,<-Y,I];rw [show i+1-1=i from by omega,qV hi];rfl
    ·rw [aZ (by simp [he])];refine ih (i+1) Y (by omega) (by omega) ?_;rw [Z,D,hp1,RX he,QV hi,<-Y,I,show i+1-1=i from by omega,qV hi];rw [gJ];rfl
  have hpc:p=p[0]::p.drop 1:=by
   have:=yK (l:=p) (i:=0) (by omega);simpa using this
  refine key (p.drop 1) 1 rfl (by omega) (by omega) ?_;have e:(p[1-1]?).getD 0=p[0]:=by simp [qV (show 0<p.length by omega)]
  rw [e]
  conv=>lhs;rw [hpc]
  have e2:p.take 1=[p[0]]:=by
   conv=>lhs;rw [hpc]
   rfl
  rw [e2];rfl
def Tn(l:List Int)(z:Int):z∈sortI l↔z∈l:=by unfold sortI;simp
def CF: ∀(ns:List bw) (out:List Int),out.length+ns.length<=8000-> ∃cs,pU ns out=some cs/\ ∀c,c∈cs↔c∈out\/ ∃n∈ns,n.Tag=2/\n.y_=c
 |[],out,h=>by
  unfold pU;rw [I4];rw [bq (by simp at h;omega)];simp only [bh];rw [Qr _ (by rw [Ek];simpa using h)];exact⟨_,rfl,fun c=>by rw [Tp,Tn];simp⟩
 |n::ns,out,h=>by
  simp only [jr]at h;unfold pU;by_cases Y:n.Tag=2
  ·rw [bq (by simp [Y]),cK (by simp;omega)];simp only [bh];obtain⟨cs,D,V⟩:=CF ns (out++[n.y_]) (by simp;omega);exact⟨cs,D,fun c=>by rw [V];simp [Y,or_assoc,eq_comm]⟩
  ·rw [aZ (by simp [Y])];obtain⟨cs,D,V⟩:=CF ns out (by omega);exact⟨cs,D,fun c=>by rw [V];simp [Y]⟩
def Lq(e:bD)(h:kC e.u'=true): ∃cs,yp e=some cs/\ ∀c,c∈cs↔ ∃n∈e.u',n.Tag=2/\n.y_=c:=by
 have hl:=Cl h;unfold yp;rw [uP e (by omega),h];obtain⟨cs,D,V⟩:=CF e.u' [] (by simp;omega);exact⟨cs,by simpa using D,fun c=>by rw [V];simp⟩
def kn(tag l r:Int):Int×Bool:=(wq tag l r).getD (0,false)
variable{tag:Int}
def BO(tag l r:Int):wq tag l r=some (kn tag l r):=by
 unfold kn wq ui;simp only [bh];repeat' split
 all_goals simp
def k4(k:Int):Prop:=k=0\/k=1\/k=2\/k=3
def Zo(tag l r:Int):k4 (kn tag l r).1:=by
 unfold kn wq ui;simp only [bh];repeat' split
 all_goals simp [k4]
def QJ(j':List Int)(n:bw)(x:Int)(I:k4 x)(hk:pk n.Tag=some 1):mh j' n [x]=some (if(kn n.Tag x 0).2 then((kn n.Tag x 0).1,0)else(0,201)):=by
 obtain⟨tag,L,R,col,v⟩:=n;have Y:tag=4\/tag=5\/tag=6\/tag=7:=by
  unfold pk at hk;repeat' split at hk
  all_goals simp at hk
  rename_i h;have h:4<=tag/\tag<=7:=h;omega
 rcases Y with rfl|rfl|rfl|rfl<;>rcases I with rfl|rfl|rfl|rfl<;>rfl
def QI(j':List Int)(n:bw)(x y:Int)(I:k4 x)(hy:k4 y)(hk:pk n.Tag=some 2):mh j' n [x,y]=some (if(kn n.Tag x y).2 then((kn n.Tag x y).1,0)else(0,201)):=by
 obtain⟨tag,L,R,col,v⟩:=n;have Y:tag=12\/tag=13\/tag=14\/tag=15\/tag=16\/tag=17\/tag=18\/tag=19\/tag=20\/tag=21\/tag=22\/tag=23:=by
  unfold pk at hk;repeat' split at hk
  all_goals simp at hk
  rename_i h;have h:12<=tag/\tag<=23:=h;omega
 rcases Y with rfl|rfl|rfl|rfl|rfl|rfl|rfl|rfl|rfl|rfl|rfl|rfl<;>rcases I with rfl|rfl|rfl|rfl<;>rcases hy with rfl|rfl|rfl|rfl<;>rfl
def kd(j':List Int):Tr->Option Int
 | .lf n=>if n.Tag=1 then some n.Value.Kind else some ((j'[n.y_.toNat]?).getD 0)
 | .un n a=>(kd j' a).bind fun x=>if(kn n.Tag x 0).2 then some (kn n.Tag x 0).1 else none
 | .bi n a b=>(kd j' a).bind fun x=>(kd j' b).bind fun y=>if(kn n.Tag x y).2 then some (kn n.Tag x y).1 else none
def Vw(j':List Int)(n:bw)(a:Tr):kd j' (.un n a)=(kd j' a).bind fun x=>if(kn n.Tag x 0).2 then some (kn n.Tag x 0).1 else none:=rfl
def RB(j':List Int)(n:bw)(a b:Tr):kd j' (.bi n a b)=(kd j' a).bind fun x=>(kd j' b).bind fun y=>if(kn n.Tag x y).2 then some (kn n.Tag x y).1 else none:=rfl
def BZ(m:Nat):Tr->Prop
 | .lf n=>n.Tag=2->n.y_<m
 | .un _ a=>BZ m a
 | .bi _ a b=>BZ m a/\BZ m b
def pk0(h:pk tag=some 0):tag=1\/tag=2:=by
 unfold pk at h;repeat' split at h
 all_goals simp at h
 assumption
def pk2{k:Nat}(h:pk tag=some k)(Y:tag=2):k=0:=by subst Y;simp [pk]at h;exact h.symm
def ae9{n:bw}(h:LL n=true)(Y:n.Tag=1):Cq n.Value=true:=by
 have V:=mI n;rw [h]at V;unfold pL at V;rw [bq (by simp [Y]),wt]at V;simp at V;exact V.1
def ab8{n:bw}(h:LL n=true)(Y:n.Tag=2):0<=n.y_/\n.y_<16:=by
 have V:=mI n;rw [h]at V;unfold pL at V;rw [aZ (by simp [Y]),bq (by simp [Y])]at V;simp at V;exact⟨V.1.2,V.2⟩
def RA{j':List Int}(hk: ∀k∈j',k4 k): ∀(t:Tr),t.wf-> ∀{k},kd j' t=some k->k4 k
 | .lf n,⟨D,V,_,_⟩,k,h=>by
  unfold kd at h;split at h
  ·rename_i Y;have:=MG (ae9 V Y);cases h;unfold k4;omega
  ·injection h with h;subst h
   cases hc:j'[n.y_.toNat]? with
   |none=>exact .inl rfl
   |some z=>exact hk z (ud hc)
 | .un n a,_,k,h=>by
  unfold kd at h
  cases ha:kd j' a with
  |none=>rw [ha]at h;cases h
  |some x=>
   rw [ha,bh]at h;split at h
   ·cases h;exact Zo ..
   ·cases h
 | .bi n a b,_,k,h=>by
  unfold kd at h
  cases ha:kd j' a with
  |none=>rw [ha]at h;cases h
  |some x=>
   cases K:kd j' b with
   |none=>rw [ha,K]at h;cases h
   |some y=>
    rw [ha,K]at h;simp only [bh]at h;split at h
    ·cases h;exact Zo ..
    ·cases h
def Py(stack l:List Int)(h:stack.length+l.length<=100000):rZ (stack++l) (l.length:Int)=some (l,stack):=by
 unfold rZ bU;have e:i64.wrap (((stack++l).length:Int)-(l.length:Int))=(stack.length:Int):=by
  rw [jY,cJ (by omega) (by omega)];omega
 rw [e,mo stack.length (stack++l).length rfl rfl (by simp) (eX _)];simp only [bh,BH,LM (eX _),List.drop_length,lz];rw [cK (by simp;omega)];simp only [bh,lz];rw [mo (i:=0) 0 stack.length rfl rfl (kY _) (by simp)];simp
def MK(stack:List Int){b:Int}(h:b≠0):po b stack=some (0,b):=by
 unfold po;rw [bq (by simpa using h)]
def xP{k:Nat}(h:pk tag=some k):uv tag=some (k:Int):=by
 rw [BX];unfold KI;rw [h]
def Tc(j':List Int)(hk: ∀k∈j',k4 k)(t:Tr):t.wf->BZ j'.length t-> ∀(s:Nat) (rest:List bw) (stack:List Int),stack.length+t.size<=50000->
  kj (mh j') (t.flat s++rest) 0 stack=match kd j' t with
   |some k=>kj (mh j') rest 0 (stack++[k])
   |none=>some (0,201):=by
 induction t with
 |lf n=>
  intro⟨D,V,Z,h4⟩ hc s rest stack hl;simp only [Tr.flat,Tr.size,FR,lz]at hl ⊢;rw [kj];have e1:(kS n (-1) (-1)).Tag=n.Tag:=rfl;rw [e1,xP D];have h0:=Py stack [] (by simp;omega);simp only [yH,tZ]at h0;simp only [bh];rw [h0];simp only [bh];have hv:mh j' (kS n (-1) (-1)) []=(kd j' (.lf n)).map (fun k=>(k,(0:Int))):=by
   unfold mh pq kd;simp only [e1];rcases pk0 D with Y|Y
   ·rw [bq (by simp [Y]),bq Y];rfl
   ·rw [aZ (by simp [Y]),bq (by simp [Y]),aZ (by simp [Y])];have K:=ab8 V Y;have hm:n.y_<j'.length:=hc Y;have e2:(kS n (-1) (-1)).y_=n.y_:=rfl;rw [e2,me n.y_.toNat (by omega),qV (by omega)];rfl
  rw [hv];have: ∃k,kd j' (.lf n)=some k:=by unfold kd;split<;>exact⟨_,rfl⟩
  obtain⟨k,hk1⟩:=this;rw [hk1];simp only [GG,bh];rw [aZ (by simp),cK (by simp;omega)];rfl
 |un n a ih=>
  intro⟨⟨D,V,Z,h4⟩,ha⟩ hc s rest stack hl;simp only [Tr.flat,Tr.size,gJ]at hl ⊢;rw [Vw,ih ha hc s _ stack (by omega)]
  cases I:kd j' a with
  |none=>rfl
  |some x=>
   have hx4:=RA hk a ha I;simp only [bh,FR,lz];rw [kj];have e1:(kS n (((s+a.size:Nat):Int)-1) (-1)).Tag=n.Tag:=rfl;rw [e1,xP D];have h0:=Py stack [x] (by simp;omega);simp only [bh];have e0:(([x]:List Int).length:Int)=((1:Nat):Int):=rfl;rw [<-e0,h0];simp only [bh];rw [QJ j' _ x hx4 (by rw [e1];exact D),e1]
   cases K:(kn n.Tag x 0).2 with
   |true=>
    simp only [mF,bh];rw [aZ (by simp),cK (by simp;omega)];rfl
   |false=>
    simp only [qD,lS,bh];rw [bq (by decide),MK _ (by decide)]
 |bi n a b iha ihb=>
  intro⟨⟨D,V,Z,h4⟩,ha,K⟩ ⟨hca,hcb⟩ s rest stack hl;simp only [Tr.flat,Tr.size,gJ]at hl ⊢;rw [RB,iha ha hca s _ stack (by omega)]
  cases I:kd j' a with
  |none=>rfl
  |some x=>
   have hx4:=RA hk a ha I;simp only [bh];rw [ihb K hcb (s+a.size) _ (stack++[x]) (by have:=a.size_pos;simp;omega)]
   cases hy:kd j' b with
   |none=>rfl
   |some y=>
    have hy4:=RA hk b K hy;have hap:=a.size_pos;simp only [bh,FR,lz];rw [kj];have e1:(kS n (((s+a.size:Nat):Int)-1) (((s+a.size+b.size:Nat):Int)-1)).Tag=n.Tag:=rfl;rw [e1,xP D];have h0:=Py stack [x,y] (by simp;omega);simp only [bh];have e0:(([x,y]:List Int).length:Int)=((2:Nat):Int):=rfl;have e9:stack++[x]++[y]=stack++[x,y]:=by simp
    rw [<-e0,e9,h0];simp only [bh];rw [QI j' _ x y hx4 hy4 (by rw [e1];exact D),e1]
    cases K:(kn n.Tag x y).2 with
    |true=>
     simp only [mF,bh];rw [aZ (by simp),cK (by simp;omega)];rfl
    |false=>
     simp only [qD,lS,bh];rw [bq (by decide),MK _ (by decide)]
def UY(j':List Int)(hk: ∀k∈j',k4 k)(t:Tr):t.wf->BZ j'.length t-> ∀(rest:List bw) (own:List Int),own.length+t.size<=50000->
  (kd j' t=none/\eF j' (t.flat own.length++rest) own=some (0,201))\/
  (∃k w,kd j' t=some k/\w.length+1=t.size/\eF j' (t.flat own.length++rest) own=eF j' rest (own++w++[k])):=by
 induction t with
 |lf n=>
  intro⟨D,V,Z,h4⟩ hc rest own hl;simp only [Tr.flat,Tr.size,FR,lz]at hl ⊢;refine .inr ?_;have e1:(kS n (-1) (-1)).Tag=n.Tag:=rfl;unfold kd;rcases pk0 D with Y|Y
  ·refine⟨_,[],bq Y,rfl,?_⟩;rw [eF];rw [e1,bq (by simp [Y]),cK (by simp;omega)];simp only [bh,yH];rfl
  ·refine⟨_,[],aZ (by simp [Y]),rfl,?_⟩;have K:=ab8 V Y;have hm:n.y_<j'.length:=hc Y;have e2:(kS n (-1) (-1)).y_=n.y_:=rfl;rw [eF];rw [e1,aZ (by simp [Y]),bq (by simp [Y]),e2,me n.y_.toNat (by omega),qV (by omega)];simp only [bh,yH,Option.getD_some];rw [cK (by simp;omega)];rfl
 |un n a ih=>
  intro⟨⟨D,V,Z,h4⟩,ha⟩ hc rest own hl;have hap:=a.size_pos;simp only [Tr.flat,Tr.size,gJ]at hl ⊢;rcases ih ha hc ([kS n (((own.length+a.size:Nat):Int)-1) (-1)]++rest) own (by omega)with⟨I,he⟩|⟨x,w,I,hw,he⟩
  ·exact .inl ⟨by rw [Vw,I];rfl,by rw [he]⟩
  ·rw [he];rw [Vw,I];simp only [bh,FR,lz];have e1:(kS n (((own.length+a.size:Nat):Int)-1) (-1)).Tag=n.Tag:=rfl;have n1:n.Tag≠1:=fun h=>by rw [h]at D;simp [pk]at D
   have n2:n.Tag≠2:=fun h=>by rw [h]at D;simp [pk]at D
   have hstep:eF j' (kS n (((own.length+a.size:Nat):Int)-1) (-1)::rest) (own++w++[x])=if(kn n.Tag x 0).2 then eF j' rest (own++w++[x]++[(kn n.Tag x 0).1])else some (0,201):=by
    rw [eF];rw [e1,aZ (by simpa using n1),aZ (by simpa using n2)];have eL:(kS n (((own.length+a.size:Nat):Int)-1) (-1)).L=((own.length+a.size:Nat):Int)-1:=rfl;have eR:(kS n (((own.length+a.size:Nat):Int)-1) (-1)).R= -1:=rfl;rw [eL,eR,me (own++w).length (by simp;omega),sE (eX _),pX];simp only [J9,bh];rw [aZ (by decide)];unfold uF;rw [e1,BO];simp only [bh]
    cases K:(kn n.Tag x 0).2 with
    |true=>
     simp only [s6,qD,lS,mF];rw [cK (by simp;omega)];rfl
    |false=>rfl
   rw [hstep]
   cases K:(kn n.Tag x 0).2 with
   |true=>exact .inr ⟨(kn n.Tag x 0).1,w++[x],by simp,by simp;omega,by simp⟩
   |false=>exact .inl ⟨by simp,by simp⟩
 |bi n a b iha ihb=>
  intro⟨⟨D,V,Z,h4⟩,ha,K⟩ ⟨hca,hcb⟩ rest own hl;have hap:=a.size_pos;have hbp:=b.size_pos;simp only [Tr.flat,Tr.size,gJ]at hl ⊢;obtain⟨m,hm⟩: ∃m,m=kS n (((own.length+a.size:Nat):Int)-1) (((own.length+a.size+b.size:Nat):Int)-1):=⟨_,rfl⟩;rw [<-hm];rcases iha ha hca (b.flat (own.length+a.size)++([m]++rest)) own (by omega)with⟨I,he⟩|⟨x,w,I,hw,he⟩
  ·exact .inl ⟨by rw [RB,I];rfl,by rw [he]⟩
  ·rw [he];have hl2:(own++w++[x]).length=own.length+a.size:=by simp;omega
   rw [<-hl2];rcases ihb K hcb ([m]++rest) (own++w++[x]) (by rw [hl2];omega)with⟨hy,he2⟩|⟨y,w2,hy,hw2,he2⟩
   ·exact .inl ⟨by rw [RB,I,hy];rfl,by rw [he2]⟩
   ·rw [he2];rw [RB,I,hy];simp only [bh,FR,lz];have e1:m.Tag=n.Tag:=by rw [hm];rfl
    have eL:m.L=((own.length+a.size:Nat):Int)-1:=by rw [hm];rfl
    have eR:m.R=((own.length+a.size+b.size:Nat):Int)-1:=by rw [hm];rfl
    have n1:n.Tag≠1:=fun h=>by rw [h]at D;simp [pk]at D
    have n2:n.Tag≠2:=fun h=>by rw [h]at D;simp [pk]at D
    have hstep:eF j' (m::rest) (own++w++[x]++w2++[y])=if(kn n.Tag x y).2 then eF j' rest (own++w++[x]++w2++[y]++[(kn n.Tag x y).1])else some (0,201):=by
     rw [eF];rw [e1,aZ (by simpa using n1),aZ (by simpa using n2)];rw [eL,eR,me (own++w).length (by simp;omega)];have g1:(own++w++[x]++w2++[y])[(own++w).length]? =some x:=by
      rw [gJ,gJ,sE (eX _),pX];rfl
     rw [g1];simp only [bh];rw [bq (by rw [vk];omega),me (own++w++[x]++w2).length (by simp;omega)];have g2:(own++w++[x]++w2++[y])[(own++w++[x]++w2).length]? =some y:=by
      rw [sE (eX _),pX];rfl
     rw [g2];simp only [bh];unfold uF;rw [e1,BO];simp only [bh]
     cases K:(kn n.Tag x y).2 with
     |true=>
      simp only [s6,qD,lS,mF];rw [cK (by simp;omega)];rfl
     |false=>rfl
    rw [hstep]
    cases K:(kn n.Tag x y).2 with
    |true=>exact .inr ⟨(kn n.Tag x y).1,w++[x]++w2++[y],by simp,by simp;omega,by simp⟩
    |false=>exact .inl ⟨by simp,by simp⟩
def tR(m:Nat)(ns:List bw):Bool:=ns.all fun n=> !((n.Tag==2)&&decide ((m:Int)<=n.y_))
def NV(m:Nat)(n:bw)(ns:List bw):tR m (n::ns)=(!((n.Tag==2)&&decide ((m:Int)<=n.y_))&&tR m ns):=rfl
def AO(m:Nat)(t:Tr):t.wf-> ∀s,tR m (t.flat s)=true->BZ m t:=by
 induction t with
 |lf n=>
  intro _ s h Y;simp only [tR,Tr.flat,yF,List.all_nil,IM]at h;have e1:(kS n (-1) (-1)).Tag=n.Tag:=rfl;have e2:(kS n (-1) (-1)).y_=n.y_:=rfl;simp [e1,e2,Y]at h;exact h
 |un n a ih=>
  intro⟨_,ha⟩ s h;simp only [tR,Tr.flat,List.all_append,jJ]at h;exact ih ha s h.1
 |bi n a b iha ihb=>
  intro⟨_,ha,K⟩ s h;simp only [tR,Tr.flat,List.all_append,jJ]at h;exact⟨iha ha s h.1.1,ihb K _ h.1.2⟩
def Vx(j':List Int):Bool:=j'.all fun k=>decide (0<=k)&&decide (k<=3)
def No(k:Int)(ks:List Int):Vx (k::ks)=((decide (0<=k)&&decide (k<=3))&&Vx ks):=rfl
def Gu{j':List Int}(h:Vx j'=true){k:Int}(hk:k∈j'):k4 k:=by
 have:=o0.1 h k hk;simp at this;unfold k4;omega
def fT(e:bD)(j':List Int):Int×Int:=
 if kC e.u' then if Vx j' then if tR j'.length e.u' then match (qF e.u').bind (kd j')with
  |some k=>(k,0)
  |none=>(0,201)else(0,2)else(0,2)else(0,200)
def H9(e:bD)(j':List Int): ∀cs:List Int,pT e j' cs=if cs.all (fun c=>decide (c<(j'.length:Int)))then rL e (mh j')else some (0,2)
 |[]=>by
  unfold pT;cases rL e (mh j')<;>rfl
 |c::cs=>by
  unfold pT;rw [H9 e j' cs];by_cases h:(j'.length:Int)<=c
  ·rw [bq (by simpa using h),aZ (by simp;omega)]
  ·rw [aZ (by simpa using h)];have:c<(j'.length:Int):=by omega
   simp [this]
def mW(e:bD)(j':List Int)(hl:e.u'.length<=50000):nm e j'=some (fT e j'):=by
 unfold nm fT;rw [uP e (by omega)]
 cases hr:kC e.u' with
 |false=>rfl
 |true=>
  simp only [mF,bh];rw [aZ (by decide)];have key: ∀ks:List Int,tN e j' ks=if Vx ks then(yp e).bind (pT e j')else some (0,2):=by
   intro ks
   induction ks with
   |nil=>rfl
   |cons k ks ih=>
    unfold tN;rw [ih];by_cases h:k<0\/3<k
    ·rw [bq (by simpa using h),aZ (by simp [Vx];omega)]
    ·rw [aZ (by simpa using h)];have D:(decide (0<=k)&&decide (k<=3))=true:=by simp;omega
     rw [No,D,sX]
  rw [key]
  cases hk:Vx j' with
  |false=>rfl
  |true=>
   simp only [mF];obtain⟨cs,D,V⟩:=Lq e hr;rw [D,bh,H9];have hci:cs.all (fun c=>decide (c<(j'.length:Int)))=tR j'.length e.u':=by
    rw [uQ];simp only [o0,vk,tR,FS,Bool.and_eq_false_iff,LR,GK];constructor
    ·intro h n hn;by_cases Y:n.Tag=2
     ·exact .inr (by have:=h _ ((V n.y_).2 ⟨n,hn,Y,rfl⟩);omega)
     ·exact .inl Y
    ·intro h c hc;obtain⟨n,hn,Y,rfl⟩:=(V c).1 hc;rcases h n hn with h|h
     ·exact absurd Y h
     ·omega
   rw [hci]
   cases hc:tR j'.length e.u' with
   |false=>rfl
   |true=>
    simp only [mF]
    cases Y:qF e.u' with
    |none=>unfold kC at hr;rw [Y]at hr;cases hr
    |some t=>
     obtain⟨hw,hN,hs⟩:=qE Y;have hct:=AO j'.length t hw 0 (by rw [<-hN];exact hc);have:=Tc j' (fun k=>Gu hk) t hw hct 0 [] [] (by simp;omega);rw [yH,<-hN]at this;unfold rL;rw [this];simp only [bh]
     cases kd j' t with
     |none=>rfl
     |some k=>rfl
def oH(e:bD)(j':List Int):wr e j'=some (fT e j'):=by
 unfold wr fT;rw [Hi e]
 cases hr:kC e.u' with
 |false=>rfl
 |true=>
  simp only [mF,bh,s6,qD,lS];have zf: ∀ns:List bw,ry e j' ns=if tR j'.length ns then eF j' e.u' []else some (0,2):=by
   intro ns
   induction ns with
   |nil=>rfl
   |cons n ns ih=>
    unfold ry;rw [ih,NV];cases ((n.Tag==2)&&decide ((j'.length:Int)<=n.y_))<;>simp
  have key: ∀ks:List Int,uE e j' ks=if Vx ks then ry e j' e.u' else some (0,2):=by
   intro ks
   induction ks with
   |nil=>rfl
   |cons k ks ih=>
    unfold uE;rw [ih];by_cases h:k<0\/3<k
    ·rw [bq (by simpa using h),aZ (by simp [Vx];omega)]
    ·rw [aZ (by simpa using h)];have D:(decide (0<=k)&&decide (k<=3))=true:=by simp;omega
     rw [No,D,sX]
  rw [key,zf]
  cases hk:Vx j' with
  |false=>rfl
  |true=>
   cases hc:tR j'.length e.u' with
   |false=>rfl
   |true=>
    simp only [mF]
    cases Y:qF e.u' with
    |none=>unfold kC at hr;rw [Y]at hr;cases hr
    |some t=>
     obtain⟨hw,hN,hs⟩:=qE Y;have hct:=AO j'.length t hw 0 (by rw [<-hN];exact hc);have:=UY j' (fun k=>Gu hk) t hw hct [] [] (by simp;omega);rw [yH,tZ,<-hN]at this;simp only [bh];rcases this with⟨D,V⟩|⟨k,w,D,V,Z⟩
     ·rw [D,V]
     ·rw [D,Z];unfold eF;have hls:t.size<=1000:=hs;rw [lz,me w.length (by rw [cJ (by simp<;>omega) (by simp<;>omega)];simp),sE (eX _),pX];rfl
def Ut(n:bw):Bool:=n.Tag==4||decide (12<=n.Tag)&&decide (n.Tag<=15)
variable{α:Type}{xs:List α}
def im{tl:List α}{y:α}(h:xs.drop i=y::tl):dm xs (i:Int)=some y/\i<xs.length/\xs.drop (i+1)=tl:=by
 have hi:i<xs.length:=by
  rcases mN i xs.length with D|D
  ·exact D
  ·rw [FX D]at h;cases h
 rw [yK hi]at h;injection h with D V;exact⟨by rw [bR,qV hi,D],hi,V⟩
def yr(h:xs.drop i=[]):xs.length<=i:=GI.1 h
def yC{f:px->Option Bool}{g:px->Bool}(Q: ∀v,f v=some (g v)): ∀(l:List px) (i:Nat),∃j:Int,eY f l i=some j/\decide (0<=j)=l.any g
 |[],i=>⟨-1,rfl,rfl⟩
 |e::l,i=>by
  unfold eY;rw [Q,bh]
  cases h:g e with
  |true=>exact⟨(i:Int),by simp,by simp [h]⟩
  |false=>
   obtain⟨j,D,V⟩:=yC Q l (i+1);exact⟨j,by simpa using D,by rw [V];simp [h]⟩
def rr{f:px->Option Bool}{g:px->Bool}(Q: ∀v,f v=some (g v))(l:List px):eZ l f=some (l.any g):=by
 unfold eZ kx;obtain⟨j,D,V⟩:=yC Q l 0;rw [D,bh,V]
def oA(l:List Int)(h:l.length<=68719476736):bU l=some l:=by
 unfold bU;rw [cK (by simpa using h)];rfl
def Zd(n:Int)(h0:0<=n)(h:n<=68719476736):oW n=some []:=by
 unfold oW pK;rw [aZ (by simp;omega)];have e:i64.wrap (n-i64.wrap ((0:Int)-0))=n:=by
  rw [cJ (n:=(0:Int)-0) (by omega) (by omega),cJ (by omega) (by omega)];omega
 rw [e];by_cases hp:0<n
 ·rw [bq (by simpa using hp)];unfold gt0 yN;rw [bq hp];simp only [bh];rw [bq ⟨h0,h⟩];simp only [bh];rw [show fz (List.replicate n.toNat (0:Int)) 0 0=some []from by unfold fz;rw [bq (by simp;omega)];simp];rfl
 ·rw [aZ (by simpa using hp)];rfl
def CE(a b:List Int)(ha:a.length<=8000)(K:b.length<=8000):jE [a,b]=some (a++b):=by
 unfold jE;simp only [lK];rw [cJ (n:=(0:Int)+(a.length:Int)) (by omega) (by omega),aZ (by simp),cJ (by omega) (by omega),aZ (by simp;omega),Zd _ (by omega) (by omega)];simp only [bh,lJ];rw [cK (by simp;omega)];simp only [bh,lz];rw [cK (by omega)];rfl
structure d9(n:ac):Prop where
 cond:n.f_.u'.length<=30000
 j':n.U'.length<=5000
 keys:n.I'.length<=5000
 z_:n.L'.length<=5000
 items:n.N'.length<=5000
 order:n.Y'.length<=5000
 args: ∀g∈n.L',g.N_.u'.length<=30000
 exprs: ∀e∈n.N',e.u'.length<=30000
def Ef(e:bD)(j':List Int):Bool:=(fT e j').2==0&&((fT e j').1==1||(fT e j').1==0)
def Aw(e:bD)(j':List Int)(h:e.u'.length<=30000):va e j'=some (Ef e j'):=by
 unfold va;rw [mW e j' (by omega)];rfl
def o9(e:bD)(j':List Int):xh e j'=some (Ef e j'):=by
 unfold xh Ef;rw [oH e j'];simp only [bh,Bool.or_comm]
def T8(a:fh)(j':List Int):Int×Bool:=
 if a.Tag=1 then(2,a.N_.u'.length==0)else if a.Tag=2 then(2,(fT a.N_ j').2==0)else if a.Tag=3 then(2,(fT a.N_ j').2==0&&((fT a.N_ j').1==2||(fT a.N_ j').1==0))else if a.Tag=4\/a.Tag=5 then((fT a.N_ j').1,(fT a.N_ j').2==0)else(0,false)
def Rv(n:Nat):((n:Int)==0)=(n==0):=by rw [uQ];simp
def KU(a:fh)(j':List Int)(h:a.N_.u'.length<=30000):Bc a j'=some (T8 a j'):=by
 unfold Bc T8 vS;by_cases D:a.Tag=1
 ·rw [bq (by simp [D]),bq D,Rv]
 rw [aZ (by simpa using D),aZ D,mW _ _ (by omega)];simp only [bh];by_cases V:a.Tag=2
 ·rw [bq (by simp [V]),bq V]
 rw [aZ (by simpa using V),aZ V];by_cases Z:a.Tag=3
 ·rw [bq (by simp [Z]),bq Z]
 rw [aZ (by simpa using Z),aZ Z];by_cases h4:a.Tag=4
 ·rw [bq (by simp [h4]),bq (by simp [h4]),bq (.inl h4)]
 rw [aZ (by simpa using h4)];by_cases h5:a.Tag=5
 ·rw [bq (by simp [h5]),bq (.inr h5)]
 rw [aZ (by simpa using h5),aZ (by omega)]
def zx(a:fh)(j':List Int):Int×Bool:=(nW a j').getD (0,false)
def si(a:fh)(j':List Int):nW a j'=some (zx a j'):=by
 unfold zx nW;rw [oH];simp only [bh];repeat' split
 all_goals rfl
def Lz(a:fh)(j':List Int):(T8 a j').2=(zx a j').2/\((T8 a j').2=true->(T8 a j').1=(zx a j').1):=by
 unfold zx nW T8;rw [oH];simp only [bh];by_cases D:a.Tag=1
 ·simp [D,Rv]
 by_cases V:a.Tag=2
 ·by_cases he:(fT a.N_ j').2=0<;>simp [V,he]
 by_cases Z:a.Tag=3
 ·by_cases he:(fT a.N_ j').2=0
  ·by_cases h0:(fT a.N_ j').1=0
   ·simp [Z,he,h0]
   ·by_cases h02:(fT a.N_ j').1=2<;>simp [Z,he,h0,h02]
  ·simp [Z,he]
 by_cases h4:a.Tag=4
 ·by_cases he:(fT a.N_ j').2=0<;>simp [h4,he]
 by_cases h5:a.Tag=5
 ·by_cases he:(fT a.N_ j').2=0<;>simp [h5,he]
 have:a.Tag<1\/5<a.Tag:=by omega
 simp [D,V,Z,h4,h5,this]
def DV(p:Option (List Int×Bool))(q:Option (List Int×Bool))(last:Bool):Prop:=
 ∃k o k',p=some (k,o&&last)/\q=some (k',o)/\(o=true->k=k')
def Jg(c:aF)(n:ac)(a b:List Int)(hn:d9 n)(p_:n.Op=1):DV (iZ c n) (ba n a b) true:=by
 have h:=hn.j';have key: ∀(tl:List Int) (i:Nat) (fu:Nat) (ok:Bool),n.U'.drop i=tl->tl.length<fu->ep n fu ok (i:Int)=some (n.U',((((ok&&tl.all fun k=>decide (1<=k)&&decide (k<=3))&&(decide ((0:Int)<=n.M')))&&(decide (n.M'<=(3:Int))))&&(decide ((1:Int)<=(n.U'.length:Int))))&&(decide ((n.U'.length:Int)<=(4:Int)))):=by
  intro tl
  induction tl with
  |nil=>
   intro i fu ok hd Q;obtain⟨fu,rfl⟩: ∃k,fu=k+1:=⟨fu-1,by omega⟩;have:=yr hd;rw [ep,aZ (by simp;omega)];simp
  |cons x tl ih=>
   intro i fu ok hd Q;simp only [jr]at Q;obtain⟨fu,rfl⟩: ∃k,fu=k+1:=⟨fu-1,by omega⟩;obtain⟨D,V,Z⟩:=im hd;rw [ep,bq (by simp;omega),D,cJ (by omega) (by omega)];simp only [bh];have e:((i:Int)+1)=((i+1:Nat):Int):=by omega
   rw [e];have e2:((if ok=true then some (decide ((1:Int)<=x))else some false).bind fun t=>(if t=true then some (decide (x<=(3:Int)))else some false).bind fun t1=>ep n fu t1 ((i+1:Nat):Int))=ep n fu (ok&&(decide (1<=x)&&decide (x<=3))) ((i+1:Nat):Int):=by
    cases ok<;>by_cases I:(1:Int)<=x<;>simp [I]
   rw [e2,ih (i+1) fu _ Z (by omega)];simp only [yF,wW]
 have hr:ba n a b=ep n ko true (0:Int):=by unfold ba;rw [bq (by simp [p_])]
 rw [hr,show((0:Int))=((0:Nat):Int)from rfl,key n.U' 0 ko true rfl (wg (zS _) (nO (by omega)))];unfold iZ;have hc:dr n.U' oq=some (n.U'.any fun k=> !(((k==(1:Int))||(k==(2:Int)))||(k==(3:Int)))):=iv (fun v=>rfl) _;rw [hc];simp only [bh];have e3:(!(n.U'.any fun k=> !(((k==(1:Int))||(k==(2:Int)))||(k==(3:Int)))))=n.U'.all fun k=>decide (1<=k)&&decide (k<=3):=by
  rw [LU];congr 1;funext k;rw [Bool.not_not,uQ];simp;omega
 rw [e3];refine⟨n.U',_,n.U',?_,rfl,fun _=>rfl⟩;cases h4:(n.U'.all fun k=>decide (1<=k)&&decide (k<=3))<;>by_cases t1:0<=n.M'<;>by_cases t2:n.M'<4<;>by_cases l1:(1:Int)<=(n.U'.length:Int)<;>by_cases l2:(n.U'.length:Int)<=4<;>simp [t1,t2,l1,l2]<;>omega
def Ts(c:aF)(n:ac)(a b:List Int)(hn:d9 n)(p_:n.Op=2)(ha:dm c.j' n.A=some a)(K:dm c.j' n.B=some b)(hal:a.length<=16)(hbl:b.length<=16):DV (j7 c n) (ba n a b) true:=by
 unfold j7 ba;rw [ha,K,aZ (by simp [p_]),bq (by simp [p_])];simp only [bh];rw [CE _ _ (by omega) (by omega),cK (by simp;omega)];simp only [bh,lz];rw [cK (by omega)];simp only [bh];rw [Aw _ _ hn.cond,o9];exact⟨_,Ef n.f_ (a++b),_,by simp,rfl,fun _=>rfl⟩
def NK(c:aF)(n:ac)(a b:List Int)(hn:d9 n)(p_:n.Op=3)(ha:dm c.j' n.A=some a):DV (ja c n) (ba n a b) true:=by
 unfold ja ba;rw [ha,aZ (by simp [p_]),aZ (by simp [p_]),bq (by simp [p_])];simp only [bh];rw [Aw _ _ hn.cond,o9];exact⟨_,Ef n.f_ a,_,by simp,rfl,fun _=>rfl⟩
def IG(c:aF)(n:ac)(a b:List Int)(p_:n.Op=6)(ha:dm c.j' n.A=some a):DV (gX c n) (ba n a b) true:=by
 unfold gX ba;rw [ha,aZ (by simp [p_]),aZ (by simp [p_]),aZ (by simp [p_]),aZ (by simp [p_]),aZ (by simp [p_]),bq (by simp [p_])];exact⟨_,true,_,rfl,rfl,fun _=>rfl⟩
def KD(c:aF)(n:ac)(a b:List Int)(hn:d9 n)(p_:n.Op=5)(ha:dm c.j' n.A=some a):DV (iA c n) (ba n a b) true:=by
 have h:=hn.items;have hr:ba n a b=eM n a ko [] true (0:Int):=by unfold ba;rw [aZ (by simp [p_]),aZ (by simp [p_]),aZ (by simp [p_]),aZ (by simp [p_]),bq (by simp [p_])]
 have key: ∀(tl:List bD) (i:Nat) (fu:Nat) (out:List Int) (ok:Bool),n.N'.drop i=tl->i+tl.length=n.N'.length->tl.length<fu->out.length=i->eM n a fu out ok (i:Int)=some (out++tl.map (fun e=>(fT e a).1),((ok&&tl.all fun e=>(fT e a).2==0)&&(decide ((1:Int)<=(n.N'.length:Int))))&&(decide ((n.N'.length:Int)<=(16:Int)))):=by
  intro tl
  induction tl with
  |nil=>
   intro i fu out ok hd hi Q ho;obtain⟨fu,rfl⟩: ∃k,fu=k+1:=⟨fu-1,by omega⟩;simp only [tZ,wV]at hi;rw [eM,aZ (by simp;omega)];simp [ho,hi]
  |cons x tl ih=>
   intro i fu out ok hd hi Q ho;simp only [jr]at Q hi;obtain⟨fu,rfl⟩: ∃k,fu=k+1:=⟨fu-1,by omega⟩;obtain⟨D,V,Z⟩:=im hd;rw [eM,bq (by simp;omega),D];simp only [bh];rw [oH];simp only [bh];rw [cK (by simp;omega),cJ (by omega) (by omega)];simp only [bh];have e:((i:Int)+1)=((i+1:Nat):Int):=by omega
   rw [e,ih (i+1) fu _ _ Z (by omega) (by omega) (by simp [ho])];simp [wW]
 rw [hr,show((0:Int))=((0:Nat):Int)from rfl,key n.N' 0 ko [] true rfl (by simp) (wg (zS _) (nO (by omega))) rfl];unfold iA;have zf: ∀(tl:List bD) (out:List Int) (ok:Bool),(∀e∈tl,e.u'.length<=30000)->out.length+tl.length<=5000->io c n tl out ok=some (out++tl.map (fun e=>(fT e a).1),ok&&tl.all fun e=>(fT e a).2==0):=by
  intro tl
  induction tl with
  |nil=>intro out ok _ _;simp [io]
  |cons x tl ih=>
   intro out ok he hl;simp only [jr]at hl;rw [io,ha];simp only [bh];rw [mW _ _ (by have:=he x (pz ..);omega)];simp only [bh];rw [cK (by simp;omega)];simp only [bh];rw [ih _ _ (fun e h=>he e (pA _ h)) (by simp;omega)];simp [wW]
 rw [zf n.N' [] _ hn.exprs (by simp;omega)];refine⟨_,_,_,?_,rfl,fun _=>rfl⟩;simp only [IM,sX];congr 2;cases (n.N'.all fun e=>(fT e a).2==0)<;>simp
def Gv(a:List Int)(e:Int):Int:=(a[e.toNat]?).getD 0
def u7(a:List Int)(e:Int):Bool:=decide (e<0)||decide ((a.length:Int)<=e)
def HF{a:List Int}{e:Int}(h:u7 a e=false):dm a e=some (Gv a e):=by
 simp [u7]at h;rw [me e.toNat (by omega),qV (by omega)];unfold Gv;rw [qV (by omega)];rfl
def PR(c:aF)(n:ac)(a b:List Int)(hn:d9 n)(p_:n.Op=4)(ha:dm c.j' n.A=some a):DV (jw c n) (ba n a b) true:=by
 have hK:=hn.keys;have hA:=hn.z_;have hr:ba n a b=eN n a ko [] (0:Int):=by unfold ba;rw [aZ (by simp [p_]),aZ (by simp [p_]),aZ (by simp [p_]),bq (by simp [p_])]
 have XF: ∀(tl:List fh) (i:Nat) (fu:Nat) (out:List Int) (ok:Bool),n.L'.drop i=tl->i+tl.length=n.L'.length->tl.length<fu->out.length<=5000+i->eo n a fu out ok (i:Int)=some (out++tl.map (fun e=>(zx e a).1),(((ok&&tl.all fun e=>(zx e a).2)&&(decide ((n.I'.length:Int)<=(3:Int))))&&(decide ((n.L'.length:Int)<=(12:Int))))&&(decide ((0:Int)<((out.length+tl.length:Nat):Int)))):=by
  intro tl
  induction tl with
  |nil=>
   intro i fu out ok hd hi Q ho;obtain⟨fu,rfl⟩: ∃k,fu=k+1:=⟨fu-1,by omega⟩;simp only [tZ,wV]at hi;rw [eo,aZ (by simp;omega)];simp
  |cons x tl ih=>
   intro i fu out ok hd hi Q ho;simp only [jr]at Q hi;obtain⟨fu,rfl⟩: ∃k,fu=k+1:=⟨fu-1,by omega⟩;obtain⟨D,V,Z⟩:=im hd;rw [eo,bq (by simp;omega),D];simp only [bh];rw [si];simp only [bh];rw [cK (by simp;omega),cJ (by omega) (by omega)];simp only [bh];have e:((i:Int)+1)=((i+1:Nat):Int):=by omega
   rw [e,ih (i+1) fu _ _ Z (by omega) (by omega) (by simp;omega)];simp only [vi,yF,wW,gJ,jY,jr,tZ,FR,lz];rw [show out.length+(0+1)+tl.length=out.length+(tl.length+1)from by omega]
 have zf: ∀(tl:List Int) (i:Nat) (fu:Nat) (out:List Int),n.I'.drop i=tl->i+tl.length=n.I'.length->tl.length<fu->out.length=i->eN n a fu out (i:Int)=if tl.any (u7 a)then some ([],false)else eo n a ko (out++tl.map (Gv a)) true 0:=by
  intro tl
  induction tl with
  |nil=>
   intro i fu out hd hi Q ho;obtain⟨fu,rfl⟩: ∃k,fu=k+1:=⟨fu-1,by omega⟩;simp only [tZ,wV]at hi;rw [eN,aZ (by simp;omega)];simp
  |cons x tl ih=>
   intro i fu out hd hi Q ho;simp only [jr]at Q hi;obtain⟨fu,rfl⟩: ∃k,fu=k+1:=⟨fu-1,by omega⟩;obtain⟨D,V,Z⟩:=im hd;rw [eN,bq (by simp;omega),D];simp only [bh]
   cases I:u7 a x with
   |true=>
    have hx' :(decide (x<0)||decide ((a.length:Int)<=x))=true:=I;rw [bq hx',bq (by simp [I])]
   |false=>
    have hx' : ¬(decide (x<0)||decide ((a.length:Int)<=x))=true:=by rw [show(decide (x<0)||decide ((a.length:Int)<=x))=u7 a x from rfl,I];decide
    rw [aZ hx',HF I];simp only [bh];rw [cK (by simp;omega),cJ (by omega) (by omega)];simp only [bh];have e:((i:Int)+1)=((i+1:Nat):Int):=by omega
    rw [e,ih (i+1) fu _ Z (by omega) (by omega) (by simp [ho])];simp [I]
 rw [hr,show((0:Int))=((0:Nat):Int)from rfl,zf n.I' 0 ko [] rfl (by simp) (wg (zS _) (nO (by omega))) rfl];rw [show((0:Int))=((0:Nat):Int)from rfl,XF n.L' 0 ko _ true rfl (by simp) (wg (zS _) (nO (by omega))) (by simp;omega)];unfold jw;rw [ha,cJ (by omega) (by omega)];simp only [bh];have hp:vQ n.I' a=some (!(n.I'.any (u7 a))):=by
  unfold vQ;rw [iv (f:=tE a) (g:=u7 a) (fun v=>rfl)];rfl
 rw [hp];simp only [bh,lz,BG];have kl: ∀(tl:List fh) (out:List Int) (ok:Bool),(∀e∈tl,e.N_.u'.length<=30000)->out.length+tl.length<=10000->gW a tl out ok=some (out++tl.map (fun e=>(T8 e a).1),ok&&tl.all fun e=>(T8 e a).2):=by
  intro tl
  induction tl with
  |nil=>intro out ok _ _;simp [gW]
  |cons x tl ih=>
   intro out ok he hl;simp only [jr]at hl;rw [gW,KU _ _ (he x (pz ..))];simp only [bh];rw [cK (by simp;omega)];simp only [bh];rw [ih _ _ (fun e h=>he e (pA _ h)) (by simp;omega)];simp [wW]
 have kl1: ∀(t:Bool) (tl out:List Int),tl.any (u7 a)=false->out.length+tl.length<=5000->jl n a t tl out=gW a n.L' (out++tl.map (Gv a)) t:=by
  intro t tl
  induction tl with
  |nil=>intro out _ _;simp [jl]
  |cons x tl ih=>
   intro out ho hl;simp only [jr]at hl;simp only [zD,QN]at ho;rw [jl,HF ho.1];simp only [bh];rw [cK (by simp;omega)];simp only [bh];rw [ih _ ho.2 (by simp;omega)];simp
 have K_:(n.L'.all fun e=>(T8 e a).2)=n.L'.all fun e=>(zx e a).2:=by
  congr 1;funext e;exact(Lz e a).1
 have hmap:(n.L'.all fun e=>(T8 e a).2)=true->n.L'.map (fun e=>(T8 e a).1)=n.L'.map fun e=>(zx e a).1:=by
  intro h;exact E3 fun e he=>(Lz e a).2 (o0.1 h e he)
 cases hany:n.I'.any (u7 a)with
 |true=>exact⟨[],false,[],by simp,by simp,fun _=>rfl⟩
 |false=>
  by_cases K:((n.I'.length<=3/\n.L'.length<=12)/\0<n.I'.length+n.L'.length)
  ·have hb' :(((decide ((n.I'.length:Int)<=(3:Int)))&&(decide ((n.L'.length:Int)<=(12:Int))))&&(decide ((0:Int)<(n.I'.length:Int)+(n.L'.length:Int))))=true:=by simp;omega
   simp only [hb',mF,xV,s6,qD,lS,bh];rw [kl1 true n.I' [] hany (by simp;omega),kl n.L' _ true hn.args (by simp;omega)];refine⟨n.I'.map (Gv a)++n.L'.map (fun e=>(T8 e a).1),n.L'.all fun e=>(zx e a).2,n.I'.map (Gv a)++n.L'.map (fun e=>(zx e a).1),by simp [K_],?_,fun h=>?_⟩
   ·have D:(decide ((n.I'.length:Int)<=(3:Int)))=true:=by simp;omega
    have V:(decide ((n.L'.length:Int)<=(12:Int)))=true:=by simp;omega
    have Z:(decide ((0:Int)<((n.I'.length+n.L'.length:Nat):Int)))=true:=by simp;omega
    simp only [D,V,Z,IM,sX]
   ·rw [hmap (by rw [K_];exact h)]
  ·have hb' :(((decide ((n.I'.length:Int)<=(3:Int)))&&(decide ((n.L'.length:Int)<=(12:Int))))&&(decide ((0:Int)<(n.I'.length:Int)+(n.L'.length:Int))))=false:=by rw [BJ];simp;omega
   simp only [hb',mF,xV,qD,lS,bh];refine⟨[],false,n.I'.map (Gv a)++n.L'.map (fun e=>(zx e a).1),by simp,?_,by simp⟩;have:((((true&&n.L'.all fun e=>(zx e a).2)&&(decide ((n.I'.length:Int)<=(3:Int))))&&(decide ((n.L'.length:Int)<=(12:Int))))&&(decide ((0:Int)<((n.I'.length+n.L'.length:Nat):Int))))=false:=by rw [BJ];simp;omega
   rw [this]
def CW(x y:Int):Int:=if x=0 then y else x
def xX(p:Int×Int):Bool:=(p.2==CW p.1 p.2)||p.2==0
def OQ(c:aF)(n:ac)(a b:List Int)(p_:n.Op=7)(ha:dm c.j' n.A=some a)(K:dm c.j' n.B=some b)(hal:a.length<=16):DV (ju c n) (ba n a b) true:=by
 unfold ju ba;rw [ha,K,aZ (by simp [p_]),aZ (by simp [p_]),aZ (by simp [p_]),aZ (by simp [p_]),aZ (by simp [p_]),aZ (by simp [p_]),bq (by simp [p_])];simp only [bh];by_cases hl:a.length=b.length
 ·rw [aZ (by simp;omega),aZ (by simp;omega),oA _ (by omega)];simp only [bh];have kc: ∀(tl pre suf:List Int) (ok:Bool),suf.length=tl.length->eU tl pre.length (pre++suf) ok=some (pre++List.zipWith CW suf tl,ok&&(suf.zip tl).all xX):=by
   intro tl
   induction tl with
   |nil=>
    intro pre suf ok h;have:suf=[]:=uS h;subst this;simp [eU]
   |cons y tl ih=>
    intro pre suf ok h
    cases suf with
    |nil=>simp at h
    |cons x suf=>
     simp only [jr,LW]at h;rw [eU,bR,sE (eX _),pX];simp only [J9,bh];have step: ∀(z:Int),kF (eU tl) pre.length y ok (pre++z::suf)=some (pre++z::List.zipWith CW suf tl,ok&&((z==y||y==0)&&(suf.zip tl).all xX)):=by
      intro z;unfold kF;rw [bR,sE (eX _),pX];simp only [J9,bh];have e1:pre++z::suf=(pre++[z])++suf:=by simp
      have e2:pre.length+1=(pre++[z]).length:=by simp
      cases ok with
      |true=>
       simp only [mF,bh,sX];rw [e1,e2,ih (pre++[z]) suf _ h];simp
      |false=>
       simp only [qD,lS,bh,E0];rw [e1,e2,ih (pre++[z]) suf _ h];simp
     by_cases I:x=0
     ·subst I;rw [bq (by simp)];have e3:(pre++(0:Int)::suf).set ((pre.length:Int)).toNat y=pre++y::suf:=by
       rw [yJ,IU _ _ (eX _),pX];rfl
      rw [e3];refine(step y).trans ?_;simp [xX,CW]
     ·rw [aZ (by simpa using I),step x];have:CW x y=x:=by unfold CW;rw [aZ I]
      simp only [List.zipWith_cons_cons,LQ,yF,xX,this];have e4:(y==x)=(x==y):=by rw [uQ,vD,vD];exact eq_comm
      rw [e4]
  have kr: ∀(tl tb:List Int) (i:Nat) (out:List Int) (ok:Bool),b.drop i=tb->tl.length=tb.length->out.length+tl.length<=1000->iT b tl i out ok=some (out++List.zipWith CW tl tb,ok&&(tl.zip tb).all xX):=by
   intro tl
   induction tl with
   |nil=>
    intro tb i out ok hd h _;have:tb=[]:=uS h.symm;subst this;simp [iT]
   |cons x tl ih=>
    intro tb i out ok hd h hm
    cases tb with
    |nil=>simp at h
    |cons y tb=>
     simp only [jr,LW]at h hm;obtain⟨D,V,Z⟩:=im hd;rw [iT,D];simp only [bh];have step: ∀z:Int,pc b (iT b tl) i out ok z=some (out++z::List.zipWith CW tl tb,ok&&((y==z||y==0)&&(tl.zip tb).all xX)):=by
      intro z;unfold pc;rw [cK (by simp;omega),D];simp only [bh]
      cases ok with
      |true=>
       simp only [mF,bh,sX]
       cases hyz:y==z with
       |true=>
        simp only [s6,qD,lS,bh];rw [ih tb (i+1) _ _ Z h (by simp;omega)];simp
       |false=>
        simp only [xV,mF,bh];rw [ih tb (i+1) _ _ Z h (by simp;omega)];simp
      |false=>
       simp only [qD,lS,bh,E0];rw [ih tb (i+1) _ _ Z h (by simp;omega)];simp
     by_cases I:x=0
     ·subst I;rw [bq (by simp),step y];simp [xX,CW]
     ·rw [aZ (by simpa using I),step x];have:CW x y=x:=by unfold CW;rw [aZ I]
      simp only [List.zipWith_cons_cons,LQ,yF,xX,this]
  have D:=kc b [] a true hl;rw [tZ,lz]at D;rw [D,kr a b 0 [] true rfl hl (by simp;omega)];exact⟨_,_,_,by rw [IM],rfl,fun _=>rfl⟩
 ·rw [bq (by simp;omega),bq (by simp;omega)];exact⟨[],false,[],rfl,rfl,fun _=>rfl⟩
def PB(c:aF)(n:ac)(a b:List Int)(hn:d9 n)(p_:n.Op=8)(ha:dm c.j' n.A=some a):DV (jv c n) (ba n a b) ((c.j'.length:Int)==i64.wrap ((c.T_.u'.length:Int)-(1:Int))):=by
 have h:=hn.order;have hr:ba n a b=ek n a ko true (0:Int):=by unfold ba;rw [aZ (by simp [p_]),aZ (by simp [p_]),aZ (by simp [p_]),aZ (by simp [p_]),aZ (by simp [p_]),aZ (by simp [p_]),aZ (by simp [p_])]
 have key: ∀(tl:List px) (i:Nat) (fu:Nat) (ok:Bool),n.Y'.drop i=tl->i+tl.length=n.Y'.length->tl.length<fu->ek n a fu ok (i:Int)=some (a,((((ok&&tl.all fun e=>decide (0<=e.y_)&&decide (e.y_<(a.length:Int)))&&(decide ((n.Y'.length:Int)<=(3:Int))))&&(decide ((-1:Int)<=n.Z')))&&(decide (n.Z'<=(2147483647:Int))))):=by
  intro tl
  induction tl with
  |nil=>
   intro i fu ok hd hi Q;obtain⟨fu,rfl⟩: ∃k,fu=k+1:=⟨fu-1,by omega⟩;simp only [tZ,wV]at hi;rw [ek,aZ (by simp;omega)];simp
  |cons x tl ih=>
   intro i fu ok hd hi Q;simp only [jr]at Q hi;obtain⟨fu,rfl⟩: ∃k,fu=k+1:=⟨fu-1,by omega⟩;obtain⟨D,V,Z⟩:=im hd;rw [ek,bq (by simp;omega),D,cJ (by omega) (by omega)];simp only [bh];have e:((i:Int)+1)=((i+1:Nat):Int):=by omega
   rw [e];have e2:((if ok=true then some (decide ((0:Int)<=x.y_))else some false).bind fun t=>(if t=true then some (decide (x.y_<(a.length:Int)))else some false).bind fun t1=>ek n a fu t1 ((i+1:Nat):Int))=ek n a fu (ok&&(decide (0<=x.y_)&&decide (x.y_<(a.length:Int)))) ((i+1:Nat):Int):=by
    cases ok<;>by_cases I:(0:Int)<=x.y_<;>simp [I]
   rw [e2,ih (i+1) fu _ Z (by omega) (by omega)];simp only [yF,wW]
 rw [hr,show((0:Int))=((0:Nat):Int)from rfl,key n.Y' 0 ko true rfl (by simp) (wg (zS _) (nO (by omega)))];unfold jv;rw [ha];simp only [bh];rw [rr (f:=nN a) (g:=fun o=>(decide (o.y_<(0:Int)))||(decide ((a.length:Int)<=o.y_))) (fun v=>rfl)];simp only [bh];have e3:(!(n.Y'.any fun o=>(decide (o.y_<(0:Int)))||(decide ((a.length:Int)<=o.y_))))=n.Y'.all fun e=>decide (0<=e.y_)&&decide (e.y_<(a.length:Int)):=by
  rw [LU];congr 1;funext k;rw [uQ];simp
 rw [e3];refine⟨a,_,a,?_,rfl,fun _=>rfl⟩;cases h4:(n.Y'.all fun e=>decide (0<=e.y_)&&decide (e.y_<(a.length:Int)))<;>by_cases l1:(n.Y'.length:Int)<=3<;>simp [l1]
def F7(op:Int):Bool:=decide (1<=op)&&decide (op<=8)
def lE{op:Int}(h:F7 op=true):op=1\/op=2\/op=3\/op=4\/op=5\/op=6\/op=7\/op=8:=by
 simp [F7]at h;omega
def ye(n:ac):Bool:=(qg n).getD false
def oh(n:ac):qg n=some (ye n):=by
 unfold ye qg;repeat' split
 all_goals rfl
def XD(l:List α):((l.length:Int)==0)=l.isEmpty:=by cases l<;>simp<;>omega
def Vm(l:List α):decide ((0:Int)<(l.length:Int))= !l.isEmpty:=by cases l<;>simp<;>omega
def U8(n:ac)(h:F7 n.Op=true):((wC n).bind fun r=>(wB r).bind fun r1=>some r1)=some (ye n):=by
 obtain⟨op,A,B,Q7,j',left,cond,keys,z_,items,order,limit⟩:=n;unfold ye qg wC wB;simp only [XD,Vm];rcases lE h with h|h|h|h|h|h|h|h<;>simp only at h<;>subst h<;>simp<;>(try (by_cases t:Q7=0<;>simp [t]))<;>(try (by_cases lm:limit=0<;>simp [lm]))<;>(try (cases left<;>simp))<;>(try (by_cases e1:j'=[]<;>simp [e1]))<;>(try (by_cases e2:cond.u'=[]<;>simp [e2]))<;>(try (by_cases e3:keys=[]<;>simp [e3]))<;>(try (by_cases e4:z_=[]<;>simp [e4]))<;>(try (by_cases e5:items=[]<;>simp [e5]))<;>(try (by_cases e6:order=[]<;>simp [e6]))
def Zn{β:Type}(f1 f2 f3 f4 f5 f6 f7 f8:β)(k:Int):jC (dC (dC (dC (dC (dC (dC (dC (dC ([]:List (Int×β)) 1 f1) 2 f2) 3 f3) 4 f4) 5 f5) 6 f6) 7 f7) 8 f8) k=
  if k=1 then some f1 else if k=2 then some f2 else if k=3 then some f3 else if k=4 then some f4 else if k=5 then some f5 else if k=6 then some f6 else if k=7 then some f7 else if k=8 then some f8 else none:=by
 have e:dC (dC (dC (dC (dC (dC (dC (dC ([]:List (Int×β)) 1 f1) 2 f2) 3 f3) 4 f4) 5 f5) 6 f6) 7 f7) 8 f8=[(1,f1),(2,f2),(3,f3),(4,f4),(5,f5),(6,f6),(7,f7),(8,f8)]:=rfl;rw [e];simp only [jC,eq_comm (b:=k)]
def HD(op:Int):xn op=some (if op=1 then 0 else if op=2\/op=7 then 2 else 1):=by
 unfold xn tF;by_cases D:op=1
 ·simp [D]
 by_cases V:op=2
 ·simp [V]
 by_cases h7:op=7
 ·simp [h7]
 simp [D,V,h7]
def pf(op:Int):xi op=some (if op=1 then 0 else if op=2\/op=7 then 2 else if F7 op then 1 else -1):=by
 unfold xi wp pe;by_cases h:F7 op=true
 ·rcases lE h with rfl|rfl|rfl|rfl|rfl|rfl|rfl|rfl<;>rfl
 ·have h' : ¬(1<=op/\op<=8):=fun hh=>h (by simp [F7];omega);have D: ¬op=1:=by omega
  have V: ¬op=2:=by omega
  have Z: ¬op=3:=by omega
  have h4: ¬op=4:=by omega
  have h5: ¬op=5:=by omega
  have h6: ¬op=6:=by omega
  have h7: ¬op=7:=by omega
  have h8: ¬op=8:=by omega
  simp [D,V,Z,h4,h5,h6,h7,h8,h]
structure QG(l:cQ)(j:Nat)(f:Int)(ks:List Int)(s:Nat):Prop where
 pos:1<=s
 le:s<=j+1
 fst:f=(j:Int)+1-(s:Int)
 size: ∀fu,j+1<fu->cU fu l (j:Int)=some (s:Int)
 len:ks.length<=16
 j': ∀fu,j+1<fu->du fu l (j:Int)=some (ks,true)
structure OD(l:cQ)(i:Nat)(first:List Int)(j':List (List Int)):Prop where
 fl:first.length=i
 kl:j'.length=i
 node: ∀j,j<i-> ∃f ks s,first[j]? =some f/\j'[j]? =some ks/\QG l j f ks s
variable{first:List Int}
def OD.push{j':List (List Int)}(h:OD l i first j'){f:Int}{ks:List Int}{s:Nat}(hn:QG l i f ks s):OD l (i+1) (first++[f]) (j'++[ks]):=by
 refine⟨by simp [h.fl],by simp [h.kl],fun j hj=>?_⟩;by_cases hji:j=i
 ·subst hji;refine⟨f,ks,s,?_,?_,hn⟩
  ·rw [sE (by rw [h.fl];exact eX _),h.fl,pX];rfl
  ·rw [sE (by rw [h.kl];exact eX _),h.kl,pX];rfl
 ·obtain⟨f',ks',s',D,V,Z⟩:=h.node j (by omega);exact⟨f',ks',s',by rw [lT (by rw [h.fl];omega)];exact D,by rw [lT (by rw [h.kl];omega)];exact V,Z⟩
def Sb(n:ac)(i:Nat):Prop:=
 (n.Op=1->n.A= -1/\n.B= -1)/\(n.Op≠1->0<i/\0<=n.A/\n.A<i)/\(n.Op=2\/n.Op=7->n.B=(i:Int)-1)/\(n.Op≠1->n.Op≠2->n.Op≠7->n.B= -1)
def ya(l:cQ){fu:Nat}(Q:0<fu){p:Int}(h:p<0):cU fu l p=some 0:=by
 obtain⟨fu,rfl⟩: ∃k,fu=k+1:=⟨fu-1,by omega⟩;unfold cU;rw [bq (by simp [h])]
def Qy{j':List (List Int)}(hI:OD l i first j')(hn:dm l.u' (i:Int)=some n)(hi:i<l.u'.length)(hl:l.u'.length<=1000)(p_:F7 n.Op=true):
  ∃f ok,mQ ⟨l,j',first⟩ (i:Int)=some (f,ok)/\((ok=true/\ ∃s:Nat,1<=s/\s<=i+1/\f=(i:Int)+1-(s:Int)/\(∀fu,i+1<fu->cU fu l (i:Int)=some (s:Int))/\Sb n i)\/(ok=false/\ ∀fu,i+1<fu->cU fu l (i:Int)=some 0)):=by
 have hstep: ∀fu,i+1<fu-> ∃fu',fu=fu' +1/\i<fu' :=fun fu h=>⟨fu-1,by omega,by omega⟩;unfold mQ;simp only [hn,bh,HD];by_cases D:n.Op=1
 ·-- nothing below
  simp only [D,mF];rw [bq (by decide)];refine⟨_,_,rfl,?_⟩;by_cases hAB:n.A= -1/\n.B= -1
  ·refine .inl ⟨by simp [hAB],1,eX _,by omega,by omega,fun fu Q=>?_,⟨fun _=>hAB,fun h=>absurd D h,fun h=>by omega,fun h=>absurd D h⟩⟩;obtain⟨fu',rfl,_⟩:=hstep fu Q;unfold cU;rw [aZ (by simp;omega),hn];simp only [bh,pf,D,mF];rw [bq (by decide),bq (by simp [hAB])];rfl
  ·have K:(n.A== -1&&n.B== -1)=false:=by rw [BJ];intro h;apply hAB;simpa using h
   refine .inr ⟨K,fun fu Q=>?_⟩;obtain⟨fu',rfl,_⟩:=hstep fu Q;unfold cU;rw [aZ (by simp;omega),hn];simp only [bh,pf,D,mF];rw [bq (by decide),aZ (by rw [K];decide)]
 ·by_cases h27:n.Op=2\/n.Op=7
  ·-- two below
   simp only [D,h27,mF,lS];rw [aZ (by decide),aZ (by decide)];have k_: ∀fu,i<fu->cU (fu+1) l (i:Int)=if n.B=(i:Int)-1 then((cU fu) l n.B).bind (fun r2=>if((decide ((0:Int)<r2))&&(n.A==(i64.wrap (n.B-r2))))then(((cU fu) l n.A).bind fun r3=>if(decide ((0:Int)<r3))then(some (i64.wrap ((i64.wrap (r3+r2))+(1:Int))))else(some (0:Int)))else(some (0:Int)))else some 0:=by
    intro fu hfu
    conv=>lhs;unfold cU
    rw [aZ (by simp;omega),hn];simp only [bh,pf,D,h27,mF,lS];rw [aZ (by decide),aZ (by decide),bq (by decide),cJ (n:=(i:Int)-1) (by omega) (by omega)];by_cases hB:n.B=(i:Int)-1
    ·rw [bq (by simp [hB]),bq hB]
    ·rw [aZ (by simpa using hB),aZ hB]
   by_cases hB:n.B=(i:Int)-1/\0<i
   ·have hcond:(!((n.B !=i64.wrap ((i:Int)-1))||((i:Int)==0)))=true:=by
     rw [cJ (by omega) (by omega)];have: ¬((i:Int)=0):=by omega
     simp [hB.1,this];omega
    rw [bq hcond];obtain⟨fB,kB,sB,g1,g2,g3⟩:=hI.node (i-1) (by omega);have hBi:n.B=((i-1:Nat):Int):=by omega
    have hidx:dm first n.B=some fB:=by rw [hBi,bR];exact g1
    rw [hidx];have hfB:=g3.fst;have hsB:=g3.pos;have hsB2:=g3.le;simp only [bh];rw [cJ (n:=fB-1) (by omega) (by omega)];by_cases hA:n.A=fB-1/\0<=n.A
    ·rw [aZ (by simp [hA.1];omega)];obtain⟨fA,kA,sA,q1,q2,q3⟩:=hI.node n.A.toNat (by omega);have hidA:dm first n.A=some fA:=by
      rw [show n.A=((n.A.toNat:Nat):Int)from by omega,bR];exact q1
     rw [hidA];have hfA:=q3.fst;have hsA:=q3.pos;have hsA2:=q3.le;refine⟨fA,true,rfl,.inl ⟨rfl,sA+sB+1,by omega,by omega,by omega,fun fu Q=>?_,⟨fun h=>absurd h D,fun _=>⟨hB.2,hA.2,by omega⟩,fun _=>hB.1,fun _ V h7=>by rcases h27 with h|h;exact absurd h V;exact absurd h h7⟩⟩⟩;obtain⟨fu',rfl,hf'⟩:=hstep fu Q;rw [k_ fu' hf',bq hB.1];have e1:=g3.size fu' (by omega);rw [<-hBi]at e1;rw [e1];simp only [bh];rw [cJ (n:=n.B-(sB:Int)) (by omega) (by omega),bq (by simp;omega)];have e2:=q3.size fu' (by omega);rw [show((n.A.toNat:Nat):Int)=n.A from by omega]at e2;rw [e2];simp only [bh];rw [bq (by simp;omega),cJ (n:=(sA:Int)+(sB:Int)) (by omega) (by omega),cJ (by omega) (by omega)];congr 1
    ·have K:(n.A !=fB-1||decide (n.A<0))=true:=by
      simp only [zR,w7,vk];by_cases h:n.A=fB-1
      ·exact .inr (by omega)
      ·exact .inl h
     rw [bq K];refine⟨0,false,rfl,.inr ⟨rfl,fun fu Q=>?_⟩⟩;obtain⟨fu',rfl,hf'⟩:=hstep fu Q;rw [k_ fu' hf',bq hB.1];have e1:=g3.size fu' (by omega);rw [<-hBi]at e1;rw [e1];simp only [bh];rw [cJ (n:=n.B-(sB:Int)) (by omega) (by omega)];by_cases h:n.A=fB-1
     ·rw [bq (by simp;omega),ya l (by omega) (by omega)];rfl
     ·rw [aZ (by simp;omega)]
   ·have hcond:(!((n.B !=i64.wrap ((i:Int)-1))||((i:Int)==0)))=false:=by
     rw [cJ (by omega) (by omega)];by_cases h:n.B=(i:Int)-1
     ·have:i=0:=by omega
      simp [this]
     ·simp [h]
    rw [hcond];simp only [qD,lS,bh,Bool.true_or,mF];refine⟨0,false,rfl,.inr ⟨rfl,fun fu Q=>?_⟩⟩;obtain⟨fu',rfl,hf'⟩:=hstep fu Q;rw [k_ fu' hf'];by_cases h:n.B=(i:Int)-1
    ·rw [bq h];rw [ya l (by omega) (by omega)];rfl
    ·rw [aZ h]
  ·-- one below
   simp only [D,h27,lS];rw [aZ (by decide),bq (by decide)];have k_: ∀fu,i<fu->cU (fu+1) l (i:Int)=if n.A=(i:Int)-1/\n.B= -1 then((cU fu) l n.A).bind (fun r1=>if(decide ((0:Int)<r1))then(some (i64.wrap (r1+(1:Int))))else(some (0:Int)))else some 0:=by
    intro fu hfu
    conv=>lhs;unfold cU
    rw [aZ (by simp;omega),hn];simp only [bh,pf,D,h27,p_,mF,lS];rw [aZ (by decide),bq (by decide),cJ (n:=(i:Int)-1) (by omega) (by omega)];by_cases hB:n.A=(i:Int)-1/\n.B= -1
    ·rw [bq (by simp [hB]),bq hB]
    ·rw [aZ (by simpa using hB),aZ hB]
   rw [cJ (by omega) (by omega)];by_cases hA:(n.A=(i:Int)-1/\n.B= -1)/\0<i
   ·rw [aZ (by simp [hA.1];omega)];obtain⟨fA,kA,sA,g1,g2,g3⟩:=hI.node (i-1) (by omega);have hAi:n.A=((i-1:Nat):Int):=by omega
    have hidx:dm first n.A=some fA:=by rw [hAi,bR];exact g1
    rw [hidx];have hfA:=g3.fst;have hsA:=g3.pos;have hsA2:=g3.le;refine⟨fA,true,rfl,.inl ⟨rfl,sA+1,by omega,by omega,by omega,fun fu Q=>?_,⟨fun h=>absurd h D,fun _=>⟨hA.2,by omega,by omega⟩,fun h=>absurd h h27,fun _ _ _=>hA.1.2⟩⟩⟩;obtain⟨fu',rfl,hf'⟩:=hstep fu Q;rw [k_ fu' hf',bq hA.1];have e1:=g3.size fu' (by omega);rw [<-hAi]at e1;rw [e1];simp only [bh];rw [bq (by simp;omega),cJ (by omega) (by omega)];rfl
   ·have K:(n.A !=(i:Int)-1||n.B != -1||(i:Int)==0)=true:=by
     simp only [zR,w7,vD];by_cases h:n.A=(i:Int)-1
     ·by_cases h' :n.B= -1
      ·exact .inr (by omega)
      ·exact .inl (.inr h')
     ·exact .inl (.inl h)
    rw [bq K];refine⟨0,false,rfl,.inr ⟨rfl,fun fu Q=>?_⟩⟩;obtain⟨fu',rfl,hf'⟩:=hstep fu Q;rw [k_ fu' hf'];by_cases h:n.A=(i:Int)-1/\n.B= -1
    ·rw [bq h,ya l (by omega) (by omega)];rfl
    ·rw [aZ h]
def PI{j':List (List Int)}(hI:OD l i first j')(hn:dm l.u' (i:Int)=some n)(hl:l.u'.length<=1000)(hi:i<l.u'.length){s:Nat}(hs:1<=s)(k_: ∀fu,i+1<fu->cU fu l (i:Int)=some (s:Int))(hp:Sb n i)(ho:ye n=true)(p_:F7 n.Op=true):
  ∃a b,(n.Op≠1->dm j' n.A=some a)/\(n.Op=2\/n.Op=7->dm j' n.B=some b)/\a.length<=16/\b.length<=16/\ ∀fu,i+1<fu->du fu l (i:Int)=jQ l (i:Int) n a b:=by
 obtain⟨p1,p2,p3,p4⟩:=hp;have hsz0:nz l (i:Int)=some (s:Int):=k_ ko (wg (zS _) (nO (by omega)));have hu: ∀fu,du (fu+1) l (i:Int)=if(decide ((0:Int)<=n.A))then(((du fu) l n.A).bind fun r4=>if(!r4.2)then(some ([],false))else(gy (du fu) l (i:Int) n r4.1))else(gy (du fu) l (i:Int) n ([])):=by
  intro fu
  conv=>lhs;unfold du
  rw [hsz0,hn];simp only [bh,oh,ho];have: ¬(s=0):=by omega
  simp [this]
 by_cases D:n.Op=1
 ·obtain⟨hA,hB⟩:=p1 D;refine⟨[],[],fun h=>absurd D h,fun h=>by omega,by simp,by simp,fun fu Q=>?_⟩;obtain⟨fu,rfl⟩: ∃k,fu=k+1:=⟨fu-1,by omega⟩;rw [hu,aZ (by simp [hA])];unfold gy;rw [aZ (by simp [hB])]
 ·obtain⟨hi0,hA0,hAi⟩:=p2 D;obtain⟨fA,kA,sA,g1,g2,g3⟩:=hI.node n.A.toNat (by omega);have eA:((n.A.toNat:Nat):Int)=n.A:=by omega
  have hkA:dm j' n.A=some kA:=by rw [<-eA,bR];exact g2
  by_cases h27:n.Op=2\/n.Op=7
  ·have hB:=p3 h27;obtain⟨fB,kB,sB,q1,q2,q3⟩:=hI.node (i-1) (by omega);have eB:((i-1:Nat):Int)=n.B:=by omega
   have hkB:dm j' n.B=some kB:=by rw [<-eB,bR];exact q2
   refine⟨kA,kB,fun _=>hkA,fun _=>hkB,g3.len,q3.len,fun fu Q=>?_⟩;obtain⟨fu,rfl⟩: ∃k,fu=k+1:=⟨fu-1,by omega⟩;rw [hu,bq (by simpa using hA0)];have e1:=g3.j' fu (by omega);rw [eA]at e1;rw [e1];simp only [bh,s6,qD,lS];unfold gy;rw [bq (by simp;omega)];have e2:=q3.j' fu (by omega);rw [eB]at e2;rw [e2];simp only [bh,s6,qD,lS]
  ·have hB:=p4 D (fun h=>h27 (.inl h)) (fun h=>h27 (.inr h));refine⟨kA,[],fun _=>hkA,fun h=>absurd h h27,g3.len,by simp,fun fu Q=>?_⟩;obtain⟨fu,rfl⟩: ∃k,fu=k+1:=⟨fu-1,by omega⟩;rw [hu,bq (by simpa using hA0)];have e1:=g3.j' fu (by omega);rw [eA]at e1;rw [e1];simp only [bh,s6,qD,lS];unfold gy;rw [aZ (by simp [hB])]
def HE(hn:dm l.u' (i:Int)=some n)(hl:i<1000)(h:(∀fu,i+1<fu->cU fu l (i:Int)=some 0)\/((∃s:Int,∀fu,i+1<fu->cU fu l (i:Int)=some s)/\ye n=false)):u0 l (i:Int)=some ([],false):=by
 have hF:i+1<ko:=wg (zS _) (nO (by omega));have e:ko=(ko-1)+1:=by omega
 unfold u0;rw [e];unfold du nz;rcases h with h|⟨⟨s,h⟩,ho⟩
 ·rw [h _ hF];simp
 ·rw [h _ hF,hn];simp only [bh,oh,ho];by_cases hs:s=0<;>simp [hs]
def sC(l:cQ):Prop:= ∀n∈l.u',d9 n
abbrev aeN:=aF->ac->Option (((List Int)×Bool)×aF)
def Ft:List (Int×aeN):=(dC (dC (dC (dC (dC (dC (dC (dC ([]:List (Int×(aF->ac->Option (((List Int)×Bool)×aF)))) (1:Int) (fun(mc:aF) (mx:ac)=>(iZ mc mx).map fun mr=>(mr,mc))) (2:Int) (fun(mc:aF) (mx:ac)=>(j7 mc mx).map fun mr=>(mr,mc))) (3:Int) (fun(mc:aF) (mx:ac)=>(ja mc mx).map fun mr=>(mr,mc))) (4:Int) (fun(mc:aF) (mx:ac)=>(jw mc mx).map fun mr=>(mr,mc))) (5:Int) (fun(mc:aF) (mx:ac)=>(iA mc mx).map fun mr=>(mr,mc))) (6:Int) (fun(mc:aF) (mx:ac)=>(gX mc mx).map fun mr=>(mr,mc))) (7:Int) (fun(mc:aF) (mx:ac)=>(ju mc mx).map fun mr=>(mr,mc))) (8:Int) (fun(mc:aF) (mx:ac)=>(jv mc mx).map fun mr=>(mr,mc)))
def Vk(op:Int):(jC Ft op).isSome=F7 op:=by
 unfold Ft;rw [Zn];by_cases h:F7 op=true
 ·rw [h];rcases lE h with rfl|rfl|rfl|rfl|rfl|rfl|rfl|rfl<;>rfl
 ·rw [BJ.2 h];have h' : ¬(1<=op/\op<=8):=fun hh=>h (by simp [F7];omega);have D: ¬op=1:=by omega
  have V: ¬op=2:=by omega
  have Z: ¬op=3:=by omega
  have h4: ¬op=4:=by omega
  have h5: ¬op=5:=by omega
  have h6: ¬op=6:=by omega
  have h7: ¬op=7:=by omega
  have h8: ¬op=8:=by omega
  simp [D,V,Z,h4,h5,h6,h7,h8]
def Tm(c:aF)(n:ac)(a b:List Int)(hn:d9 n)(p_:F7 n.Op=true)(ha:n.Op≠1->dm c.j' n.A=some a)(K:n.Op=2\/n.Op=7->dm c.j' n.B=some b)(hal:a.length<=16)(hbl:b.length<=16):
  ∃k o k',((jC Ft n.Op).getD (fun _ _=>none)) c n=some ((k,o&&(if n.Op=8 then(c.j'.length:Int)==i64.wrap ((c.T_.u'.length:Int)-(1:Int))else true)),c)/\ba n a b=some (k',o)/\(o=true->k=k'):=by
 have go: ∀(m:Option (List Int×Bool)) (last:Bool),DV m (ba n a b) last->((jC Ft n.Op).getD (fun _ _=>none)) c n=m.map (fun mr=>(mr,c))->(if n.Op=8 then(c.j'.length:Int)==i64.wrap ((c.T_.u'.length:Int)-(1:Int))else true)=last-> ∃k o k',((jC Ft n.Op).getD (fun _ _=>none)) c n=some ((k,o&&(if n.Op=8 then(c.j'.length:Int)==i64.wrap ((c.T_.u'.length:Int)-(1:Int))else true)),c)/\ba n a b=some (k',o)/\(o=true->k=k'):=by
  intro m last ⟨k,o,k',D,V,Z⟩ he hl;exact⟨k,o,k',by rw [he,D,hl];rfl,V,Z⟩
 unfold Ft at go ⊢;rw [Zn]at go ⊢;rcases lE p_ with h|h|h|h|h|h|h|h
 ·exact go _ _ (Jg c n a b hn h) (by simp [h]) (by simp [h])
 ·exact go _ _ (Ts c n a b hn h (ha (by omega)) (K (.inl h)) hal hbl) (by simp [h]) (by simp [h])
 ·exact go _ _ (NK c n a b hn h (ha (by omega))) (by simp [h]) (by simp [h])
 ·exact go _ _ (PR c n a b hn h (ha (by omega))) (by simp [h]) (by simp [h])
 ·exact go _ _ (KD c n a b hn h (ha (by omega))) (by simp [h]) (by simp [h])
 ·exact go _ _ (IG c n a b h (ha (by omega))) (by simp [h]) (by simp [h])
 ·exact go _ _ (OQ c n a b h (ha (by omega)) (K (.inr h)) hal) (by simp [h]) (by simp [h])
 ·exact go _ _ (PB c n a b hn h (ha (by omega))) (by simp [h]) (by simp [h])
def Tj{Sg:Type}(D_:(Int×Bool)->Sg->Option (Bool×Sg)){j':List (List Int)}(hI:OD l i first j'){tl:List ac}(hd:l.u'.drop i=n::tl)(hS:sC l)(hl:l.u'.length<=60)(st:Sg):
  ∃first' kinds' ok,bZ D_ (n::tl) i st ⟨l,j',first⟩=((D_ ((i:Int),ok) st).bind fun r2=>if((!r2.1)||(!ok))then some (r2.2,⟨l,kinds',first'⟩)else bZ D_ tl (i+1) r2.2 ⟨l,kinds',first'⟩)/\(∃x,u0 l (i:Int)=some (x,ok))/\(ok=true->OD l (i+1) first' kinds'):=by
 obtain⟨hn,hi,_⟩:=im hd;have hfl:=hI.fl;have hkl:=hI.kl;have hSn:d9 n:=hS n (by
  rw [bR]at hn;exact ud hn)
 have hF:i+1<ko:=wg (zS _) (nO (by omega));have hu:bZ D_ (n::tl) i st ⟨l,j',first⟩=(if(jC Ft n.Op).isSome then((wC n).bind fun r=>(wB r).bind fun r1=>some r1)else some false).bind fun t=>if t then((mQ ⟨l,j',first⟩ (i:Int)).bind fun r4=>(nH first ([r4.1])).bind fun l7=>fS D_ (bZ D_ tl) i n st r4.2 ⟨l,j',l7⟩)else(fS D_ (bZ D_ tl) i n st t ⟨l,j',first⟩):=rfl;rw [hu,Vk];have hk2: ∀(ok1:Bool) (k:List Int) (f' :List Int),jm D_ (bZ D_ tl) i st ok1 k ⟨l,j',f'⟩=((D_ ((i:Int),ok1&&decide (k.length<=16)) st).bind fun r2=>if((!r2.1)||(!(ok1&&decide (k.length<=16))))then some (r2.2,⟨l,j'++[k],f'⟩)else bZ D_ tl (i+1) r2.2 ⟨l,j'++[k],f'⟩):=by
  intro ok1 k f';unfold jm;rw [cK (by simp;omega)];have:decide ((k.length:Int)<=16)=decide (k.length<=16):=by rw [uQ];simp;omega
  simp only [bh,this]
 have hk1: ∀(f' :List Int),fS D_ (bZ D_ tl) i n st false ⟨l,j',f'⟩=((D_ ((i:Int),false) st).bind fun r2=>if((!r2.1)||(!false))then some (r2.2,⟨l,j'++[[]],f'⟩)else bZ D_ tl (i+1) r2.2 ⟨l,j'++[[]],f'⟩):=by
  intro f';unfold fS;rw [aZ (by decide),hk2];rfl
 by_cases p_:F7 n.Op=true
 ·rw [bq p_,U8 n p_];simp only [bh];obtain⟨f,ok,hb1,hb2⟩:=Qy hI hn hi (by omega) p_
  cases ho:ye n with
  |false=>
   simp only [qD,lS];rw [hk1];refine⟨first,j'++[[]],false,rfl,⟨[],HE hn (by omega) (.inr ⟨?_,ho⟩)⟩,by simp⟩;rcases hb2 with⟨_,s,_,_,_,h,_⟩|⟨_,h⟩
   ·exact⟨s,h⟩
   ·exact⟨0,h⟩
  |true=>
   simp only [mF];rw [hb1];simp only [bh];rw [cK (by simp;omega)];simp only [bh];rcases hb2 with⟨hok,s,hs,hs2,Q,k_,hp⟩|⟨hok,h⟩
   ·subst hok;obtain⟨a,b,ha,K,hal,hbl,hK⟩:=PI hI hn (by omega) hi hs k_ hp ho p_;obtain⟨k,o,k',m1,m2,m3⟩:=Tm ⟨l,j',first++[f]⟩ n a b hSn p_ ha K hal hbl;have hk1' :fS D_ (bZ D_ tl) i n st true ⟨l,j',first++[f]⟩=((((jC Ft n.Op).getD (fun _ _=>none)) ⟨l,j',first++[f]⟩ n).bind fun r3=>jm D_ (bZ D_ tl) i st r3.1.2 r3.1.1 r3.2):=rfl;rw [hk1',m1];simp only [bh];rw [hk2];have hlast:((j'.length:Int)==i64.wrap ((l.u'.length:Int)-1))=((i:Int)==i64.wrap ((l.u'.length:Int)-1)):=by rw [hkl]
    have hKk: ∀fu,i+1<fu-> ∃x,du fu l (i:Int)=some (x,(o&&(if n.Op=8 then(j'.length:Int)==i64.wrap ((l.u'.length:Int)-(1:Int))else true))&&decide (k.length<=16))/\(((o&&(if n.Op=8 then(j'.length:Int)==i64.wrap ((l.u'.length:Int)-(1:Int))else true))&&decide (k.length<=16))=true->x=k):=by
     intro fu Q;rw [hK fu Q];unfold jQ;rw [m2];simp only [bh];rw [hlast]
     cases o with
     |false=>
      simp only [E0];split
      ·exact⟨_,rfl,by simp⟩
      ·exact⟨_,rfl,by simp⟩
     |true=>
      have:=m3 rfl;subst this;simp only [sX];by_cases h8:n.Op=8
      ·by_cases hL:(i:Int)=i64.wrap ((l.u'.length:Int)-1)
       ·by_cases h16:k.length<=16
        ·rw [aZ (by simp [<-hL];omega)];exact⟨k,by simp [h8,hL,h16],fun _=>rfl⟩
        ·rw [bq (by simp;omega)];exact⟨[],by simp [h16],by simp [h16]⟩
       ·rw [bq (by simp [h8,hL])];exact⟨[],by simp [h8,hL],by simp [h8,hL]⟩
      ·by_cases h16:k.length<=16
       ·rw [aZ (by simp [h8];omega)];exact⟨k,by simp [h8,h16],fun _=>rfl⟩
       ·rw [bq (by simp;omega)];exact⟨[],by simp [h16],by simp [h16]⟩
    refine⟨first++[f],j'++[k],_,rfl,?_,fun hok=>?_⟩
    ·obtain⟨x,D,_⟩:=hKk ko hF;exact⟨x,D⟩
    ·refine hI.push (s:=s) ⟨hs,hs2,Q,k_,?_,fun fu hfu=>?_⟩
     ·simp at hok;exact hok.2
     ·obtain⟨x,D,V⟩:=hKk fu hfu;rw [D,V hok,hok]
   ·subst hok;rw [hk1];exact⟨first++[f],j'++[[]],false,rfl,⟨[],HE hn (by omega) (.inl h)⟩,by simp⟩
 ·rw [aZ p_];simp only [bh,qD,lS];rw [hk1];refine⟨first,j'++[[]],false,rfl,⟨[],HE hn (by omega) (.inl fun fu Q=>?_)⟩,by simp⟩;obtain⟨fu,rfl⟩: ∃k,fu=k+1:=⟨fu-1,by omega⟩;unfold cU;rw [aZ (by simp;omega),hn];simp only [bh,pf];have D: ¬n.Op=1:=fun h=>p_ (by rw [h];rfl);have V: ¬n.Op=2:=fun h=>p_ (by rw [h];rfl);have h7: ¬n.Op=7:=fun h=>p_ (by rw [h];rfl);simp [D,V,h7,p_]
def XB(hS:sC l)(hl:l.u'.length<=60): ∀(tl:List ac) (i:Nat) (first:List Int) (j':List (List Int)),OD l i first j'->l.u'.drop i=tl->i+tl.length=l.u'.length->
  ∃st ob,bZ (B0 (fun x s=>rD x s.1 s.2.1 s.2.2)) tl i (none,(false,(0:Int),false)) ⟨l,j',first⟩=some (st,ob)/\ob.T_=l/\
   ((st=(none,(false,(0:Int),false))/\OD l l.u'.length ob.first ob.j'/\ie l tl i=ie l [] l.u'.length)\/(∃j:Nat,st=(some 0,(false,(j:Int),true))/\ie l tl i=some (j:Int))):=by
 intro tl
 induction tl with
 |nil=>
  intro i first j' hI hd hi
  simp only [tZ,wV]at hi;subst hi;exact⟨_,_,rfl,rfl,.inl ⟨rfl,hI,rfl⟩⟩
 |cons n tl ih=>
  intro i first j' hI hd hi
  simp only [jr]at hi;obtain⟨f',k',ok,D,⟨x,V⟩,Z⟩:=Tj (B0 (fun x s=>rD x s.1 s.2.1 s.2.2)) hI hd hS hl (none,(false,(0:Int),false));rw [D];have hW:ie l (n::tl) i=if(!ok)then some (i:Int)else ie l tl (i+1):=by
   conv=>lhs;unfold ie
   rw [V];rfl
  rw [hW]
  cases ok with
  |false=>exact⟨_,_,rfl,rfl,.inr ⟨i,rfl,rfl⟩⟩
  |true=>
   obtain⟨st,ob,g1,g2,g3⟩:=ih (i+1) f' k' (Z rfl) (im hd).2.2 (by omega);refine⟨st,ob,?_,g2,?_⟩
   ·exact g1
   ·simpa using g3
def OD.nil(l:cQ):OD l 0 [] []:=⟨rfl,rfl,fun j h=>absurd h (Nat.not_lt_zero _)⟩
structure H8(l:cQ)(ob:aF):Prop where
 logic:ob.T_=l
 pos:1<=l.u'.length
 le:l.u'.length<=60
 inv:OD l l.u'.length ob.first ob.j'
 whole:nz l ((l.u'.length:Int)-1)=some (l.u'.length:Int)
def XC(hS:sC l): ∃ob j ok,pQ l=some (ob,j,ok)/\uZ l=some (if ok then -1 else j)/\(0<=j)/\(ok=true->H8 l ob/\j=(l.u'.length:Int)-1):=by
 unfold pQ uZ;by_cases h:l.u'.length<1\/60<l.u'.length
 ·rw [bq (by simp;omega),bq (by simp;omega)];exact⟨_,_,_,rfl,rfl,Int.le_refl _,by simp⟩
 ·rw [aZ (by simp;omega),aZ (by simp;omega)];unfold tG;simp only [bh];unfold oY;obtain⟨st,ob,D,V,Z⟩:=XB hS (by omega) l.u' 0 [] [] (OD.nil l) rfl (by simp);have h1' :bZ (B0 (fun x s=>rD x s.1 s.2.1 s.2.2)) (⟨l,[],[]⟩:aF).T_.u' 0 (none,(false,(0:Int),false)) ⟨l,[],[]⟩=some (st,ob):=D;rw [h1'];simp only [bh];rcases Z with⟨rfl,hI,hW⟩|⟨j,rfl,hW⟩
  ·simp only [Option.isNone_none,mF];rw [cJ (by omega) (by omega)];obtain⟨f,ks,s,g1,g2,g3⟩:=hI.node (l.u'.length-1) (by omega);have e:((l.u'.length-1:Nat):Int)=(l.u'.length:Int)-1:=by omega
   have hid:dm ob.first ((l.u'.length:Int)-1)=some f:=by rw [<-e,bR];exact g1
   rw [hid];simp only [bh];have k_:nz l ((l.u'.length:Int)-1)=some (s:Int):=by
    have:=g3.size ko (wg (zS _) (nO (by omega)));rw [e]at this;exact this
   have Q:=g3.fst;refine⟨_,_,_,rfl,?_,by omega,fun hok=>?_⟩
   ·rw [hW];unfold ie;rw [cJ (by omega) (by omega),k_];simp only [bh];by_cases hs:s=l.u'.length
    ·rw [aZ (by simp [hs]),bq (by simp;omega)]
    ·rw [bq (by simp;omega),aZ (by simp;omega)]
   ·have hs:s=l.u'.length:=by simp at hok;omega
    exact⟨⟨V,by omega,by omega,hI,by rw [k_,hs]⟩,rfl⟩
  ·simp only [Option.isNone_some,qD,lS];refine⟨ob,(j:Int),false,rfl,by rw [hW];rfl,by omega,by simp⟩
def vc{n:Nat}(h:n<=900000):n<ko:=wg (zS _) (nO (by omega))
def yE(d x:Int):Int:=if 0<=x then i64.wrap (x+d)else x
def xf(d:Int)(n:ac):ac:={n with A:=yE d n.A,B:=yE d n.B}
def d9.sh(h:d9 n)(d:Int):d9 (xf d n):=⟨h.cond,h.j',h.keys,h.z_,h.items,h.order,h.args,h.exprs⟩
def d9.at(h:d9 n)(a b:Int):d9 {n with A:=a,B:=b}:=⟨h.cond,h.j',h.keys,h.z_,h.items,h.order,h.args,h.exprs⟩
def set_same{e:α}(h:xs[i]? =some e):xs.set i e=xs:=by
 apply IT;intro j;rw [List.getElem?_set];split
 ·rename_i hj;subst hj;split
  ·exact h.symm
  ·rename_i V;rw [E5 (by omega)]
 ·rfl
def vW(h:d9 n):p9 n=some n:=by
 have hK:=h.j';have hk:=h.keys;have hA:=h.z_;have hI:=h.items;have hO:=h.order;have hc:=h.cond;have hcl: ∀{l:List bw},l.length<=30000->co l=some l:=fun{l} hl=>by
  unfold co;rw [cK (by simp;omega)];rfl
 unfold p9;rw [oA _ (by omega),oA _ (by omega)];simp only [bh];have e1:fJ n.Y'=some n.Y':=by unfold fJ;rw [cK (by simp;omega)];rfl
 rw [e1];simp only [bh];rw [hcl hc];simp only [bh];have e2:ic n.L'=some n.L':=by unfold ic;rw [cK (by simp;omega)];rfl
 rw [e2];simp only [bh];have e3:gx n.N'=some n.N':=by unfold gx;rw [cK (by simp;omega)];rfl
 rw [e3];simp only [bh];have zf: ∀(tl:List bD) (i:Nat),n.N'.drop i=tl->(∀e∈tl,e.u'.length<=30000)->p7 tl i n=some n:=by
  intro tl
  induction tl with
  |nil=>intro i _ _;rfl
  |cons x tl ih=>
   intro i hd hs;obtain⟨D,V,Z⟩:=im hd;unfold p7;rw [D];simp only [bh];rw [hcl (hs x (pz ..))];simp only [bh,yJ];rw [bR]at D;have e4:n.N'.set i ({x with u':=x.u'}:bD)=n.N':=set_same D;rw [e4];exact ih (i+1) Z (fun e he=>hs e (pA _ he))
 have key1: ∀(tl:List fh) (i:Nat),n.L'.drop i=tl->(∀e∈tl,e.N_.u'.length<=30000)->p8 tl i n=some n:=by
  intro tl
  induction tl with
  |nil=>intro i _ _;exact zf n.N' 0 rfl h.exprs
  |cons x tl ih=>
   intro i hd hs;obtain⟨D,V,Z⟩:=im hd;unfold p8;rw [D];simp only [bh];rw [hcl (hs x (pz ..))];simp only [bh,yJ];rw [bR]at D;have e4:n.L'.set i ({x with N_:=({x.N_ with u':=x.N_.u'}:bD)}:fh)=n.L':=set_same D;rw [e4];exact ih (i+1) Z (fun e he=>hs e (pA _ he))
 exact key1 n.L' 0 rfl h.args
def F8(h:d9 n)(d:Int):vR n d=some (xf d n):=by
 unfold vR rW xf yE;by_cases hA:0<=n.A<;>by_cases hB:0<=n.B
 ·rw [bq (by simpa using hA),bq (by simpa using hB),bq hA,bq hB];exact vW (h.at _ _)
 ·rw [bq (by simpa using hA),aZ (by simpa using hB),bq hA,aZ hB];exact vW (h.at _ _)
 ·rw [aZ (by simpa using hA),bq (by simpa using hB),aZ hA,bq hB];exact vW (h.at _ _)
 ·rw [aZ (by simpa using hA),aZ (by simpa using hB),aZ hA,aZ hB];exact vW (h.at _ _)
def vp(l:cQ):Bool:=decide ((uZ l).getD 0<0)
def Mz(h:sC l):Fi l=some (vp l)/\(∃j,xo l=some (if vp l then(0,0)else(j,230)))/\(∃ob j,pQ l=some (ob,j,vp l)/\(vp l=true->H8 l ob/\j=(l.u'.length:Int)-1)):=by
 obtain⟨ob,j,ok,D,V,Z,h4⟩:=XC h;have e:vp l=ok:=by
  unfold vp;rw [V];cases ok<;>simp<;>omega
 refine⟨?_,⟨j,?_⟩,ob,j,?_⟩
 ·unfold Fi vp;rw [V];rfl
 ·unfold xo;rw [D,e];cases ok<;>rfl
 ·rw [e];exact⟨D,h4⟩
def Mj(hA:n.A<=100000)(hB:n.B<=100000):xf 0 n=n:=by
 have h: ∀x:Int,x<=100000->yE 0 x=x:=by
  intro x I;unfold yE;by_cases h:0<=x
  ·rw [bq h,Int.add_zero,cJ (by omega) (by omega)]
  ·rw [aZ h]
 unfold xf;rw [h _ hA,h _ hB]
def XA{d:Int}{ns:List ac}(h: ∀n∈ns,d9 n): ∀n∈ns.map (xf d),d9 n:=by
 intro n hn;obtain⟨m,hm,rfl⟩:=Bo.1 hn;exact(h m hm).sh d
