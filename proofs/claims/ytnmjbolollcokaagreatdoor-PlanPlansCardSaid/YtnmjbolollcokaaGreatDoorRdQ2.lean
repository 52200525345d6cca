/- dr of this claim: K5, K6, K7, L2, L3, L4, L5, L6, L7. -/
import Derived.Test.YtnmjbolollcokaaGreatDoorRdQ1
set_option linter.all false
namespace Go.Proofs.YtnmjbolollcokaaGreatDoor
open Go


def nb(r:Nat):Nat:=if r%2=1 then(r/2)^^^2197175160 else r/2
def nb8(r:Nat):Nat:=nb (nb (nb (nb (nb (nb (nb (nb r)))))))
def SB:List Int:=(List.range 256).map fun i=>(nb8 i:Int)

variable{i:Nat}{l:bR}
theorem vN{f:Int→Option Bool}{g:Int→Bool}(hf: ∀v,f v=some (g v)): ∀(l:List Int) (i:Nat),∃j:Int,gm f l i=some j∧decide (0≤j)=l.any g
 |[],i=>⟨-1,rfl,rfl⟩
 |e::l,i=>by
  unfold gm
  rw [hf,bC]
  cases h:g e with
  |true=>exact⟨(i:Int),by simp,by simp [h]⟩
  |false=>
   obtain⟨j,h1,h2⟩:=vN hf l (i+1)
   exact⟨j,by simpa using h1,by rw [h2];simp [h]⟩
theorem s9{f:Int→Option Bool}{g:Int→Bool}(hf: ∀v,f v=some (g v))(l:List Int):eS l f=some (l.any g):=by
 unfold eS me
 obtain⟨j,h1,h2⟩:=vN hf l 0
 rw [h1,bC,h2]

variable{n:af}
theorem np{n:Nat}(h:n≤1000000):n≤cZ:=by unfold cZ;omega
def gN(ns:List bq):Bool:=(pU ns).isSome
theorem Cg{ns:List bq}{st:List Tr}(h:pF ns []=some st):cM st=ns.length:=by
 have:=(ud h (fun t ht=>by cases ht)).1
 rw [←FY,this];simp [vF]
theorem rW(e:bf)(h:e.Nodes.length≤100000):p8 e=some (if gN e.Nodes then 0 else 200):=by
 unfold p8 sJ gN pU
 have:=F3 e.Nodes [] (by simpa [cM] using h)
 simp only [cM,I0,mN]at this
 rw [this]
 cases hp:pF e.Nodes []with
 |none=>rfl
 |some st=>
  have hsz:=Cg hp
  match st,hsz with
  |[],_=>rfl
  |[t],hsz=>
   simp only [bC,hsz]
   by_cases hl:e.Nodes.length≤1000<;>simp [hl]
  |t::t2::st,_=>simp
theorem Le(t:Tr):t.wf→ ∀(P R N:List bq) (fu:Nat),N=P++t.flat P.length++R→t.size≤fu→N.length≤100000→i8 fu ⟨N⟩ (((P.length+t.size:Nat):Int)-1)=some (t.size:Int):=by
 induction t with
 |lf n=>
  intro⟨h1,h2,h3,h4⟩ P R N fu hN hf hl
  have hNl:=congrArg List.length hN
  simp only [lw,Tr.flat_len]at hNl
  simp only [Tr.size]at hf hNl ⊢
  obtain⟨fu,rfl⟩: ∃k,fu=k+1:=⟨fu-1,by omega⟩
  unfold i8
  have hx:N[P.length]? =some (gP n (-1) (-1)):=by
   rw [hN,iS,sP (eW _),vu];rfl
  rw [bM (by simp;omega),mp P.length (by omega),hx]
  have e1:(gP n (-1) (-1)).Tag=n.Tag:=rfl
  simp only [bC]
  rw [e1,qB]
  have e:GN n.Tag=0:=by unfold GN;rw [h1];rfl
  simp only [e,bC,ki]
  have e2:HD (gP n (-1) (-1))=true:=h2
  rw [e2]
  simp [gP]
 |un n a ih=>
  intro⟨⟨h1,h2,h3,h4⟩,ha⟩ P R N fu hN hf hl
  obtain⟨m,hm⟩: ∃m,m=gP n (((P.length+a.size:Nat):Int)-1) (-1):=⟨_,rfl⟩
  have hNl:=congrArg List.length hN
  simp only [lw,Tr.flat_len]at hNl
  simp only [Tr.size]at hf hNl ⊢
  simp only [Tr.flat,←hm]at hN
  obtain⟨fu,rfl⟩: ∃k,fu=k+1:=⟨fu-1,by omega⟩
  have hpos:=a.size_pos
  have hi:=ih ha P ([m]++R) N fu (by rw [hN];simp only [iS]) (by omega) hl
  unfold i8
  have hx:N[P.length+a.size]? =some m:=by
   rw [hN,iS,iS,←iS P,sP (by simp [a.flat_len])]
   simp [a.flat_len]
  rw [bM (by simp;omega),mp (P.length+a.size) (by omega),hx]
  simp only [bC]
  have e1:m.Tag=n.Tag:=by rw [hm];rfl
  rw [e1,qB]
  have e:GN n.Tag=1:=by unfold GN;rw [h1];rfl
  simp only [e,bC,ki]
  have e2:HD m=true:=by rw [hm];exact h2
  have eL:m.L=((P.length+a.size:Nat):Int)-1:=by rw [hm];rfl
  have eR:m.R= -1:=by rw [hm];rfl
  rw [cA (n:=((P.length+(a.size+1):Nat):Int)-1-1) (by omega) (by omega),show(((P.length+(a.size+1):Nat):Int)-1-1)=(((P.length+a.size:Nat):Int)-1)from by omega]
  rw [hi]
  simp only [bC]
  rw [cA (n:=(a.size:Int)+1) (by omega) (by omega)]
  have n1: ¬a.size=0:=by omega
  simp [e2,eL,eR,n1]
 |bi n a b iha ihb=>
  intro⟨⟨h1,h2,h3,h4⟩,ha,hb⟩ P R N fu hN hf hl
  obtain⟨m,hm⟩: ∃m,m=gP n (((P.length+a.size:Nat):Int)-1) (((P.length+a.size+b.size:Nat):Int)-1):=⟨_,rfl⟩
  have hNl:=congrArg List.length hN
  simp only [lw,Tr.flat_len]at hNl
  simp only [Tr.size]at hf hNl ⊢
  simp only [Tr.flat,←hm]at hN
  obtain⟨fu,rfl⟩: ∃k,fu=k+1:=⟨fu-1,by omega⟩
  have hap:=a.size_pos
  have hbp:=b.size_pos
  have hi1:=iha ha P (b.flat (P.length+a.size)++[m]++R) N fu (by rw [hN];simp only [iS]) (by omega) hl
  have hi2:=ihb hb (P++a.flat P.length) ([m]++R) N fu (by rw [hN];simp only [iS,lw,a.flat_len]) (by omega) hl
  rw [lw,a.flat_len]at hi2
  unfold i8
  have hx:N[P.length+a.size+b.size]? =some m:=by
   rw [hN,iS,iS,←iS P,sP (by simp [a.flat_len,b.flat_len];omega)]
   have:P.length+a.size+b.size-(P++(a.flat P.length++b.flat (P.length+a.size))).length=0:=by simp [a.flat_len,b.flat_len];omega
   rw [this];rfl
  rw [bM (by simp;omega),mp (P.length+a.size+b.size) (by omega),hx]
  simp only [bC]
  have e1:m.Tag=n.Tag:=by rw [hm];rfl
  rw [e1,qB]
  have e:GN n.Tag=2:=by unfold GN;rw [h1];rfl
  simp only [e,bC,ki]
  have e2:HD m=true:=by rw [hm];exact h2
  have eL:m.L=((P.length+a.size:Nat):Int)-1:=by rw [hm];rfl
  have eR:m.R=((P.length+a.size+b.size:Nat):Int)-1:=by rw [hm];rfl
  rw [cA (n:=((P.length+(a.size+b.size+1):Nat):Int)-1-1) (by omega) (by omega),show(((P.length+(a.size+b.size+1):Nat):Int)-1-1)=(((P.length+a.size+b.size:Nat):Int)-1)from by omega]
  rw [hi2]
  simp only [bC]
  rw [cA (n:=((P.length+a.size+b.size:Nat):Int)-1-(b.size:Int)) (by omega) (by omega),show((P.length+a.size+b.size:Nat):Int)-1-(b.size:Int)=((P.length+a.size:Nat):Int)-1 from by omega]
  rw [hi1]
  simp only [bC]
  rw [cA (n:=(a.size:Int)+(b.size:Int)) (by omega) (by omega),cA (n:=(a.size:Int)+(b.size:Int)+1) (by omega) (by omega)]
  have n1: ¬a.size=0:=by omega
  have n2: ¬b.size=0:=by omega
  have e5:(P.length:Int)+(a.size:Int)+(b.size:Int)-1-(b.size:Int)=(P.length:Int)+(a.size:Int)-1:=by omega
  simp [e2,eL,eR,n1,n2,e5]
theorem QF(N:List bq)(hN:N.length≤100000): ∀(fu q:Nat),q≤N.length→q<fu→ ∃k:Nat,i8 fu ⟨N⟩ ((q:Int)-1)=some (k:Int)∧(k=0∨ ∃(t:Tr) (P R:List bq),t.wf∧t.size=k∧N=P++t.flat P.length++R∧P.length+k=q):=by
 intro fu
 induction fu with
 |zero=>intro q _ h;omega
 |succ fu ih=>
  intro q hq hf
  unfold i8
  by_cases h0:q=0
  ·subst h0
   exact⟨0,by rw [bS (by simp)];rfl,.inl rfl⟩
  rw [bM (by simp;omega),mp (q-1) (by omega)]
  have hlt:q-1<N.length:=by omega
  rw [q6 hlt]
  obtain⟨n,hn⟩: ∃n,n=N[q-1]:=⟨_,rfl⟩
  rw [←hn]
  have hd:N=N.take (q-1)++([n]++N.drop q):=by
   have h1:=vb (q-1) N
   rw [r0 hlt,←hn,show q-1+1=q from by omega]at h1
   exact h1.symm
  simp only [bC,qB,ki]
  cases hk:pk n.Tag with
  |none=>
   have e:GN n.Tag= -1:=by unfold GN;rw [hk]
   exact⟨0,by simp [e],.inl rfl⟩
  |some k=>
   have e:GN n.Tag=(k:Int):=by unfold GN;rw [hk]
   have hk3:k=0∨k=1∨k=2:=by
    unfold pk at hk
    repeat' split at hk
    all_goals simp at hk
    all_goals omega
   cases hc:HD n with
   |false=>exact⟨0,by simp [e,hc],.inl rfl⟩
   |true=>
    rcases hk3 with rfl|rfl|rfl
    ·rw [e]
     by_cases hL:n.L= -1∧n.R= -1
     ·refine⟨1,by simp [hL],.inr ⟨.lf (gP n (-1) (-1)),N.take (q-1),N.drop q,⟨hk,hc,rfl,rfl⟩,rfl,?_,by simp;omega⟩⟩
      simp only [Tr.flat]
      rw [yn hL.1 hL.2,iS]
      exact hd
     ·refine⟨0,?_,.inl rfl⟩
      have:(n.L != -1||n.R != -1)=true:=by
       rw [xa,uA,uA]
       by_cases hl:n.L= -1
       ·exact .inr fun h=>hL ⟨hl,h⟩
       ·exact .inl hl
      simp [this]
    ·rw [e,cA (by omega) (by omega)]
     have e9:(((q-1:Nat):Int)-1)=(q:Int)-1-1:=by omega
     obtain⟨r2,h2,h2'⟩:=ih (q-1) (by omega) (by omega)
     rw [e9]at h2
     rw [h2]
     rcases h2' with rfl|⟨t,P,R,hw,hs,hN2,hl⟩
     ·exact⟨0,by simp,.inl rfl⟩
     ·have hp:=t.size_pos
      by_cases hL:n.L=(q:Int)-1-1∧n.R= -1
      ·refine⟨r2+1,?_,.inr ⟨.un (gP n (-1) (-1)) t,P,N.drop q,⟨⟨hk,hc,rfl,rfl⟩,hw⟩,by simp only [Tr.size];omega,?_,by omega⟩⟩
       ·simp only [bC]
        rw [cA (n:=(r2:Int)+1) (by omega) (by omega)]
        have: ¬(r2=0):=by omega
        simp [hL,this]
       ·simp only [Tr.flat]
        rw [yn (by rw [hL.1];omega) hL.2]
        have ht:N.take (q-1)=P++t.flat P.length:=by
         rw [hN2,zg (by simp [t.flat_len];omega),rZ (by simp [t.flat_len];omega)]
        rw [ht]at hd
        simpa only [iS] using hd
      ·refine⟨0,?_,.inl rfl⟩
       have:(n.L !=(q:Int)-1-1||n.R != -1)=true:=by
        rw [xa,uA,uA]
        by_cases hl:n.L=(q:Int)-1-1
        ·exact .inr fun h=>hL ⟨hl,h⟩
        ·exact .inl hl
       simp [this]
    ·rw [e,cA (n:=(q:Int)-1-1) (by omega) (by omega)]
     have e9:(((q-1:Nat):Int)-1)=(q:Int)-1-1:=by omega
     obtain⟨r2,h2,h2'⟩:=ih (q-1) (by omega) (by omega)
     rw [e9]at h2
     rw [h2]
     rcases h2' with rfl|⟨t,P,R,hw,hs,hN2,hl⟩
     ·exact⟨0,by simp,.inl rfl⟩
     ·have hp:=t.size_pos
      simp only [bC]
      rw [cA (n:=(q:Int)-1-1-(r2:Int)) (by omega) (by omega)]
      have e8:(((q-1-r2:Nat):Int)-1)=(q:Int)-1-1-(r2:Int):=by omega
      have n2: ¬(r2=0):=by omega
      obtain⟨r3,h3,h3'⟩:=ih (q-1-r2) (by omega) (by omega)
      rw [e8]at h3
      rw [h3]
      rcases h3' with rfl|⟨t3,P3,R3,hw3,hs3,hN3,hl3⟩
      ·exact⟨0,by simp,.inl rfl⟩
      ·have hp3:=t3.size_pos
       have n3: ¬(r3=0):=by omega
       by_cases hL:n.R=(q:Int)-1-1∧n.L=(q:Int)-1-1-(r2:Int)
       ·refine⟨r3+r2+1,?_,.inr ⟨.bi (gP n (-1) (-1)) t3 t,P3,N.drop q,⟨⟨hk,hc,rfl,rfl⟩,hw3,hw⟩,by simp only [Tr.size];omega,?_,by omega⟩⟩
        ·simp only [bC]
         rw [cA (n:=(r3:Int)+(r2:Int)) (by omega) (by omega),cA (n:=(r3:Int)+(r2:Int)+1) (by omega) (by omega)]
         simp [hL,n2,n3]
        ·simp only [Tr.flat]
         rw [yn (by rw [hL.2];omega) (by rw [hL.1];omega)]
         have ht:N.take (q-1)=P++t.flat P.length:=by
          rw [hN2,zg (by simp [t.flat_len];omega),rZ (by simp [t.flat_len];omega)]
         have hP:P=N.take P.length:=by
          conv=>rhs;rw [hN2,iS,zg (eW _),rZ (eW _)]
         have hP3:P=P3++t3.flat P3.length:=by
          rw [hP]
          have:P.length=P3.length+t3.size:=by omega
          conv=>lhs;rw [this,hN3]
          rw [zg (by simp [t3.flat_len]),rZ (by simp [t3.flat_len])]
         have hPl:P.length=P3.length+t3.size:=by omega
         rw [ht,hPl]at hd
         rw [hP3]at hd
         simpa only [iS] using hd
       ·clear ih hN2 hN3
        refine⟨0,?_,.inl rfl⟩
        have:(n.R !=(q:Int)-1-1||n.L !=(q:Int)-1-1-(r2:Int))=true:=by
         rw [xa,uA,uA]
         by_cases hl:n.R=(q:Int)-1-1
         ·exact .inr fun h=>hL ⟨hl,h⟩
         ·exact .inl hl
        have h' :=this
        rw [xa,uA,uA]at h'
        simp [n2,n3]
        intro h1 h2
        exact absurd h2 (by rcases h' with h' |h';exact absurd h1 h';exact h')
theorem DO(e:bf):uI e=some (gN e.Nodes):=by
 unfold uI gN
 by_cases h:1≤e.Nodes.length∧e.Nodes.length≤1000
 ·rw [bS (by simp;omega),cA (by omega) (by omega)]
  unfold t6
  obtain⟨k,h1,h2⟩:=QF e.Nodes (by omega) cZ e.Nodes.length (eW _) (wU (Cz _) (np (by omega)))
  have h1' :i8 cZ e ((e.Nodes.length:Int)-1)=some (k:Int):=h1
  rw [h1']
  simp only [bC]
  congr 1
  rw [yF]
  constructor
  ·intro hk
   have hk' :k=e.Nodes.length:=by have:=eq_of_beq hk;omega
   rcases h2 with rfl|⟨t,P,R,hw,hs,hN,hl⟩
   ·omega
   ·have hP:P=[]:=vv (by omega)
    subst hP
    have hR:R=[]:=by
     have:=congrArg List.length hN
     simp [t.flat_len]at this
     exact vv (by omega)
    subst hR
    have hN' :e.Nodes=t.flat 0:=by simpa using hN
    rw [hN',B5 hw (by omega)];rfl
  ·intro hi
   cases ht:pU e.Nodes with
   |none=>rw [ht]at hi;cases hi
   |some t=>
    obtain⟨hw,hN,hs⟩:=qb ht
    have hlen:e.Nodes.length=t.size:=by rw [hN,t.flat_len]
    have h3:=Le t hw [] [] e.Nodes cZ (by simpa using hN) (np (by omega)) (by omega)
    simp only [sN,q7]at h3
    rw [←hlen]at h3
    have h4:some (k:Int)=some (e.Nodes.length:Int):=h1.symm.trans h3
    simpa using h4
 ·rw [bM (by simp;omega)]
  simp only [bC]
  congr 1
  symm
  rw [Aa]
  intro hi
  cases ht:pU e.Nodes with
  |none=>rw [ht]at hi;cases hi
  |some t=>
   obtain⟨hw,hN,hs⟩:=qb ht
   have hlen:e.Nodes.length=t.size:=by rw [hN,t.flat_len]
   have:=t.size_pos
   omega
theorem wb{ns:List bq}(h:gN ns=true):1≤ns.length∧ns.length≤1000:=by
 unfold gN at h
 cases ht:pU ns with
 |none=>rw [ht]at h;cases h
 |some t=>
  obtain⟨hw,hN,hs⟩:=qb ht
  have hlen:ns.length=t.size:=by rw [hN,t.flat_len]
  have:=t.size_pos
  omega

theorem KE(p:List Int)(hp:p.length≤8000)(i:Nat)(y:List Int)(hy:i+y.length=p.length): ∀(k i1:Nat) (x:List Int) (x1:Nat),i1+k=y.length→0<i1→x.length=p.length→x1+1≤i+i1→x.drop (i+i1-1)=p.drop (i+i1-1)→
  eC i y k i1 x (x1:Int)=some (x.take x1++xT ((p[i+i1-1]?).getD 0) (p.drop (i+i1))):=by
 intro k
 induction k with
 |zero=>
  intro i1 x x1 h1 h0 hx h2 h3
  simp only [eC]
  have hx1:x1≤x.length:=by omega
  rw [ye hx1 (eW _)]
  simp only [bC,BZ,yG]
  rw [show((0:Int))=((0:Nat):Int)from rfl,ye (iP _) (by simp;omega)]
  simp only [bC,sM]
  have hn:p.drop (i+i1)=[]:=Bf (by omega)
  rw [hn,Ja,zU,zg (by simp;omega),Ba,Nat.min_self]
 |succ k ih=>
  intro i1 x x1 h1 h0 hx h2 h3
  have e1:x[i+i1]? =p[i+i1]? :=by
   have:=congrArg (fun l:List Int=>l[1]?) h3
   simp only [xb]at this
   rwa [show i+i1-1+1=i+i1 from by omega]at this
  have e0:x[i+i1-1]? =p[i+i1-1]? :=by
   have:=congrArg (fun l:List Int=>l[0]?) h3
   simpa only [xb,yD] using this
  have hlt:i+i1<p.length:=by omega
  have g1:EZ x (i:Int) y.length (i1:Int)=some p[i+i1]:=by
   unfold EZ
   rw [bS (by omega),show(i:Int)+(i1:Int)=((i+i1:Nat):Int)from by omega,cQ,e1,q6 hlt]
  have g0:EZ x (i:Int) y.length (IntKind.i64.wrap ((i1:Int)-1))=some p[i+i1-1]:=by
   rw [cA (by omega) (by omega)]
   unfold EZ
   rw [bS (by omega),show(i:Int)+((i1:Int)-1)=((i+i1-1:Nat):Int)from by omega,cQ,e0,q6 (by omega)]
  have hd:p.drop (i+i1)=p[i+i1]::p.drop (i+i1+1):=r0 hlt
  have hp1:(p[i+i1-1]?).getD 0=p[i+i1-1]:=by rw [q6 (by omega)];rfl
  simp only [eC,g1,g0,bC]
  rw [hd,hp1]
  by_cases hx2:p[i+i1]=p[i+i1-1]
  ·rw [bM (by simp [hx2])]
   have h3' :x.drop (i+(i1+1)-1)=p.drop (i+(i1+1)-1):=by
    have:=congrArg (List.drop 1) h3
    rwa [va,va,show i+i1-1+1=i+(i1+1)-1 from by omega]at this
   rw [ih (i1+1) x x1 (by omega) (by omega) hx (by omega) h3']
   rw [Gb hx2,show i+(i1+1)-1=i+i1 from by omega,q6 hlt,show i+(i1+1)=i+i1+1 from by omega]
   rfl
  ·rw [bS (by simp [hx2]),cQ,q6 (by omega)]
   simp only [bC,yG]
   rw [cA (by omega) (by omega),show((x1:Int)+1)=((x1+1:Nat):Int)from by omega]
   have h3' :(x.set x1 p[i+i1]).drop (i+(i1+1)-1)=p.drop (i+(i1+1)-1):=by
    rw [List.drop_set_of_lt (by omega)]
    have:=congrArg (List.drop 1) h3
    rwa [va,va,show i+i1-1+1=i+(i1+1)-1 from by omega]at this
   rw [ih (i1+1) _ (x1+1) (by omega) (by omega) (by simpa using hx) (by omega) h3']
   rw [LR hx2,show i+(i1+1)-1=i+i1 from by omega,q6 hlt,show i+(i1+1)=i+i1+1 from by omega]
   have ht:(x.set x1 p[i+i1]).take (x1+1)=x.take x1++[p[i+i1]]:=by
    rw [Mt (by simp;omega),List.take_set_of_le (by omega)]
    simp
   rw [ht]
   simp
theorem KF(p:List Int)(hp:p.length≤8000):kI p=some (LQ p):=by
 unfold kI
 by_cases h2:p.length<2
 ·rw [bS (by simp;omega)]
  match p,h2 with
  |[],_=>rfl
  |[x],_=>rfl
 ·rw [bM (by simp;omega)]
  have key: ∀(l:List Int) (i:Nat),p.drop i=l→0<i→i≤p.length→LQ p=p.take i++xT ((p[i-1]?).getD 0) (p.drop i)→fG p l i=some (LQ p):=by
   intro l
   induction l with
   |nil=>
    intro i h1 h0 hle h3
    have:=zY.1 h1
    simp only [fG]
    rw [h3,h1,rZ (by omega),Ja,zU]
   |cons x t ih=>
    intro i h1 h0 hle h3
    have hi:i<p.length:=by
     rcases lu i p.length with h|h
     ·exact h
     ·rw [Bf h]at h1;cases h1
    have hx:x=p[i]:=by rw [r0 hi]at h1;exact(List.cons.inj h1).1.symm
    have ht:p.drop (i+1)=t:=by rw [←va,h1];rfl
    have hp1:(p[i-1]?).getD 0=p[i-1]:=by rw [q6 (by omega)];rfl
    simp only [fG]
    rw [cA (by omega) (by omega),show(i:Int)-1=((i-1:Nat):Int)from by omega,cQ,q6 (by omega)]
    simp only [bC]
    by_cases he:x=p[i-1]
    ·rw [bS (by simp [he])]
     rw [ye hle (eW _)]
     simp only [bC,BZ]
     rw [KE p hp i (p.drop i) (by simp;omega) _ 1 p i (by simp;omega) (by omega) rfl (by omega) (by simp)]
     rw [h3,h1,hp1,Gb he,←ht,hx]
     rw [show i+1-1=i from by omega,q6 hi];rfl
    ·rw [bM (by simp [he])]
     refine ih (i+1) ht (by omega) (by omega) ?_
     rw [h3,h1,hp1,LR he,Mt hi,←ht,hx,show i+1-1=i from by omega,q6 hi]
     rw [iS];rfl
  have hpc:p=p[0]::p.drop 1:=by
   have:=r0 (l:=p) (i:=0) (by omega)
   simpa using this
  refine key (p.drop 1) 1 rfl (by omega) (by omega) ?_
  have e:(p[1-1]?).getD 0=p[0]:=by simp [q6 (show 0<p.length by omega)]
  rw [e]
  conv=>lhs;rw [hpc]
  have e2:p.take 1=[p[0]]:=by
   conv=>lhs;rw [hpc]
   rfl
  rw [e2];rfl

theorem Nf(l:List Int)(z:Int):z∈sortI l↔z∈l:=by unfold sortI;simp
theorem zQ: ∀(ns:List bq) (out:List Int),out.length+ns.length≤8000→ ∃cs,nt ns out=some cs∧ ∀c,c∈cs↔c∈out∨ ∃n∈ns,n.Tag=2∧n.Col=c
 |[],out,h=>by
  unfold nt Du
  rw [bS (by simp at h;omega)]
  simp only [bC]
  rw [KF _ (by rw [Bm];simpa using h)]
  exact⟨_,rfl,fun c=>by rw [Ng,Nf];simp⟩
 |n::ns,out,h=>by
  simp only [iR]at h
  unfold nt
  by_cases ht:n.Tag=2
  ·rw [bS (by simp [ht]),cP (by simp;omega)]
   simp only [bC]
   obtain⟨cs,h1,h2⟩:=zQ ns (out++[n.Col]) (by simp;omega)
   exact⟨cs,h1,fun c=>by rw [h2];simp [ht,or_assoc,eq_comm]⟩
  ·rw [bM (by simp [ht])]
   obtain⟨cs,h1,h2⟩:=zQ ns out (by omega)
   exact⟨cs,h1,fun c=>by rw [h2];simp [ht]⟩
theorem Hn(e:bf)(h:gN e.Nodes=true): ∃cs,vG e=some cs∧ ∀c,c∈cs↔ ∃n∈e.Nodes,n.Tag=2∧n.Col=c:=by
 have hl:=wb h
 unfold vG
 rw [rW e (by omega),h]
 obtain⟨cs,h1,h2⟩:=zQ e.Nodes [] (by simp;omega)
 exact⟨cs,by simpa using h1,fun c=>by rw [h2];simp⟩
def kn(tag l r:Int):Int×Bool:=(re tag l r).getD (0,false)
theorem yX(tag l r:Int):re tag l r=some (kn tag l r):=by
 unfold kn re pY
 simp only [bC]
 repeat' split
 all_goals simp
def k4(k:Int):Prop:=k=0∨k=1∨k=2∨k=3
theorem SI(tag l r:Int):k4 (kn tag l r).1:=by
 unfold kn re pY
 simp only [bC]
 repeat' split
 all_goals simp [k4]
theorem KU(kinds:List Int)(n:bq)(x:Int)(hx:k4 x)(hk:pk n.Tag=some 1):jQ kinds n [x]=some (if(kn n.Tag x 0).2 then((kn n.Tag x 0).1,0)else(0,201)):=by
 obtain⟨tag,L,R,col,v⟩:=n
 have ht:tag=4∨tag=5∨tag=6∨tag=7:=by
  unfold pk at hk
  repeat' split at hk
  all_goals simp at hk
  rename_i h
  have h:4≤tag∧tag≤7:=h
  omega
 rcases ht with rfl|rfl|rfl|rfl<;>rcases hx with rfl|rfl|rfl|rfl<;>rfl
theorem KT(kinds:List Int)(n:bq)(x y:Int)(hx:k4 x)(hy:k4 y)(hk:pk n.Tag=some 2):jQ kinds n [x,y]=some (if(kn n.Tag x y).2 then((kn n.Tag x y).1,0)else(0,201)):=by
 obtain⟨tag,L,R,col,v⟩:=n
 have ht:tag=12∨tag=13∨tag=14∨tag=15∨tag=16∨tag=17∨tag=18∨tag=19∨tag=20∨tag=21∨tag=22∨tag=23:=by
  unfold pk at hk
  repeat' split at hk
  all_goals simp at hk
  rename_i h
  have h:12≤tag∧tag≤23:=h
  omega
 rcases ht with rfl|rfl|rfl|rfl|rfl|rfl|rfl|rfl|rfl|rfl|rfl|rfl<;>rcases hx with rfl|rfl|rfl|rfl<;>rcases hy with rfl|rfl|rfl|rfl<;>rfl
def kd(kinds:List Int):Tr→Option Int
 | .lf n=>if n.Tag=1 then some n.Value.Kind else some ((kinds[n.Col.toNat]?).getD 0)
 | .un n a=>(kd kinds a).bind fun x=>if(kn n.Tag x 0).2 then some (kn n.Tag x 0).1 else none
 | .bi n a b=>(kd kinds a).bind fun x=>(kd kinds b).bind fun y=>if(kn n.Tag x y).2 then some (kn n.Tag x y).1 else none
theorem O4(kinds:List Int)(n:bq)(a:Tr):kd kinds (.un n a)=(kd kinds a).bind fun x=>if(kn n.Tag x 0).2 then some (kn n.Tag x 0).1 else none:=rfl
theorem Ls(kinds:List Int)(n:bq)(a b:Tr):kd kinds (.bi n a b)=(kd kinds a).bind fun x=>(kd kinds b).bind fun y=>if(kn n.Tag x y).2 then some (kn n.Tag x y).1 else none:=rfl
def Gc(m:Nat):Tr→Prop
 | .lf n=>n.Tag=2→n.Col<m
 | .un _ a=>Gc m a
 | .bi _ a b=>Gc m a∧Gc m b
theorem pk0{tag:Int}(h:pk tag=some 0):tag=1∨tag=2:=by
 unfold pk at h
 repeat' split at h
 all_goals simp at h
 assumption
theorem Ym{n:bq}(h:HD n=true)(ht:n.Tag=1):zE n.Value=true:=by
 have h2:=ki n
 rw [h]at h2
 unfold lN at h2
 rw [bS (by simp [ht]),ub]at h2
 simp at h2
 exact h2.1
theorem Wh{n:bq}(h:HD n=true)(ht:n.Tag=2):0≤n.Col∧n.Col<16:=by
 have h2:=ki n
 rw [h]at h2
 unfold lN at h2
 rw [bM (by simp [ht]),bS (by simp [ht])]at h2
 simp at h2
 exact⟨h2.1.2,h2.2⟩
theorem O5{kinds:List Int}(hk: ∀k∈kinds,k4 k): ∀(t:Tr),t.wf→ ∀{k},kd kinds t=some k→k4 k
 | .lf n,⟨h1,h2,_,_⟩,k,h=>by
  unfold kd at h
  split at h
  ·rename_i ht
   have:=Iq (Ym h2 ht)
   cases h;unfold k4;omega
  ·injection h with h
   subst h
   cases hc:kinds[n.Col.toNat]? with
   |none=>exact .inl rfl
   |some z=>exact hk z (ta hc)
 | .un n a,_,k,h=>by
  unfold kd at h
  cases ha:kd kinds a with
  |none=>rw [ha]at h;cases h
  |some x=>
   rw [ha,bC]at h
   split at h
   ·cases h;exact SI ..
   ·cases h
 | .bi n a b,_,k,h=>by
  unfold kd at h
  cases ha:kd kinds a with
  |none=>rw [ha]at h;cases h
  |some x=>
   cases hb:kd kinds b with
   |none=>rw [ha,hb]at h;cases h
   |some y=>
    rw [ha,hb]at h
    simp only [bC]at h
    split at h
    ·cases h;exact SI ..
    ·cases h
theorem Ke(stack l:List Int)(h:stack.length+l.length≤100000):pQ (stack++l) (l.length:Int)=some (l,stack):=by
 unfold pQ cr
 have e:IntKind.i64.wrap (((stack++l).length:Int)-(l.length:Int))=(stack.length:Int):=by
  rw [lw,cA (by omega) (by omega)];omega
 rw [e,mL stack.length (stack++l).length rfl rfl (by simp) (eW _)]
 simp only [bC,BZ,JE (eW _),List.drop_length,ke]
 rw [cP (by simp;omega)]
 simp only [bC,ke]
 rw [mL (i:=0) 0 stack.length rfl rfl (iP _) (by simp)]
 simp
theorem Iw(stack:List Int){b:Int}(h:b≠0):mY b stack=some (0,b):=by
 unfold mY;rw [bS (by simpa using h)]
theorem vp{tag:Int}{k:Nat}(h:pk tag=some k):ru tag=some (k:Int):=by
 rw [y6];unfold GN;rw [h]
theorem MS(kinds:List Int)(hk: ∀k∈kinds,k4 k)(t:Tr):t.wf→Gc kinds.length t→ ∀(s:Nat) (rest:List bq) (stack:List Int),stack.length+t.size≤50000→
  iH (jQ kinds) (t.flat s++rest) 0 stack=match kd kinds t with
   |some k=>iH (jQ kinds) rest 0 (stack++[k])
   |none=>some (0,201):=by
 induction t with
 |lf n=>
  intro⟨h1,h2,h3,h4⟩ hc s rest stack hl
  simp only [Tr.flat,Tr.size,Bd,ke]at hl ⊢
  rw [iH]
  have e1:(gP n (-1) (-1)).Tag=n.Tag:=rfl
  rw [e1,vp h1]
  have h0:=Ke stack [] (by simp;omega)
  simp only [zU,sN]at h0
  simp only [bC]
  rw [h0]
  simp only [bC]
  have hv:jQ kinds (gP n (-1) (-1)) []=(kd kinds (.lf n)).map (fun k=>(k,(0:Int))):=by
   unfold jQ m4 kd
   simp only [e1]
   rcases pk0 h1 with ht|ht
   ·rw [bS (by simp [ht]),bS ht];rfl
   ·rw [bM (by simp [ht]),bS (by simp [ht]),bM (by simp [ht])]
    have hb:=Wh h2 ht
    have hm:n.Col<kinds.length:=hc ht
    have e2:(gP n (-1) (-1)).Col=n.Col:=rfl
    rw [e2,mp n.Col.toNat (by omega),q6 (by omega)]
    rfl
  rw [hv]
  have: ∃k,kd kinds (.lf n)=some k:=by unfold kd;split<;>exact⟨_,rfl⟩
  obtain⟨k,hk1⟩:=this
  rw [hk1]
  simp only [E9,bC]
  rw [bM (by simp),cP (by simp;omega)]
  rfl
 |un n a ih=>
  intro⟨⟨h1,h2,h3,h4⟩,ha⟩ hc s rest stack hl
  simp only [Tr.flat,Tr.size,iS]at hl ⊢
  rw [O4,ih ha hc s _ stack (by omega)]
  cases hx:kd kinds a with
  |none=>rfl
  |some x=>
   have hx4:=O5 hk a ha hx
   simp only [bC,Bd,ke]
   rw [iH]
   have e1:(gP n (((s+a.size:Nat):Int)-1) (-1)).Tag=n.Tag:=rfl
   rw [e1,vp h1]
   have h0:=Ke stack [x] (by simp;omega)
   simp only [bC]
   have e0:(([x]:List Int).length:Int)=((1:Nat):Int):=rfl
   rw [←e0,h0]
   simp only [bC]
   rw [KU kinds _ x hx4 (by rw [e1];exact h1),e1]
   cases hb:(kn n.Tag x 0).2 with
   |true=>
    simp only [jW,bC]
    rw [bM (by simp),cP (by simp;omega)]
    rfl
   |false=>
    simp only [mA,ji,bC]
    rw [bS (by decide),Iw _ (by decide)]
 |bi n a b iha ihb=>
  intro⟨⟨h1,h2,h3,h4⟩,ha,hb⟩ ⟨hca,hcb⟩ s rest stack hl
  simp only [Tr.flat,Tr.size,iS]at hl ⊢
  rw [Ls,iha ha hca s _ stack (by omega)]
  cases hx:kd kinds a with
  |none=>rfl
  |some x=>
   have hx4:=O5 hk a ha hx
   simp only [bC]
   rw [ihb hb hcb (s+a.size) _ (stack++[x]) (by have:=a.size_pos;simp;omega)]
   cases hy:kd kinds b with
   |none=>rfl
   |some y=>
    have hy4:=O5 hk b hb hy
    have hap:=a.size_pos
    simp only [bC,Bd,ke]
    rw [iH]
    have e1:(gP n (((s+a.size:Nat):Int)-1) (((s+a.size+b.size:Nat):Int)-1)).Tag=n.Tag:=rfl
    rw [e1,vp h1]
    have h0:=Ke stack [x,y] (by simp;omega)
    simp only [bC]
    have e0:(([x,y]:List Int).length:Int)=((2:Nat):Int):=rfl
    have e9:stack++[x]++[y]=stack++[x,y]:=by simp
    rw [←e0,e9,h0]
    simp only [bC]
    rw [KT kinds _ x y hx4 hy4 (by rw [e1];exact h1),e1]
    cases hb:(kn n.Tag x y).2 with
    |true=>
     simp only [jW,bC]
     rw [bM (by simp),cP (by simp;omega)]
     rfl
    |false=>
     simp only [mA,ji,bC]
     rw [bS (by decide),Iw _ (by decide)]
theorem OB(kinds:List Int)(hk: ∀k∈kinds,k4 k)(t:Tr):t.wf→Gc kinds.length t→ ∀(rest:List bq) (own:List Int),own.length+t.size≤50000→
  (kd kinds t=none∧dv kinds (t.flat own.length++rest) own=some (0,201))∨
  (∃k w,kd kinds t=some k∧w.length+1=t.size∧dv kinds (t.flat own.length++rest) own=dv kinds rest (own++w++[k])):=by
 induction t with
 |lf n=>
  intro⟨h1,h2,h3,h4⟩ hc rest own hl
  simp only [Tr.flat,Tr.size,Bd,ke]at hl ⊢
  refine .inr ?_
  have e1:(gP n (-1) (-1)).Tag=n.Tag:=rfl
  unfold kd
  rcases pk0 h1 with ht|ht
  ·refine⟨_,[],bS ht,rfl,?_⟩
   rw [dv]
   rw [e1,bS (by simp [ht]),cP (by simp;omega)]
   simp only [bC,zU]
   rfl
  ·refine⟨_,[],bM (by simp [ht]),rfl,?_⟩
   have hb:=Wh h2 ht
   have hm:n.Col<kinds.length:=hc ht
   have e2:(gP n (-1) (-1)).Col=n.Col:=rfl
   rw [dv]
   rw [e1,bM (by simp [ht]),bS (by simp [ht]),e2,mp n.Col.toNat (by omega),q6 (by omega)]
   simp only [bC,zU,Option.getD_some]
   rw [cP (by simp;omega)]
   rfl
 |un n a ih=>
  intro⟨⟨h1,h2,h3,h4⟩,ha⟩ hc rest own hl
  have hap:=a.size_pos
  simp only [Tr.flat,Tr.size,iS]at hl ⊢
  rcases ih ha hc ([gP n (((own.length+a.size:Nat):Int)-1) (-1)]++rest) own (by omega)with⟨hx,he⟩|⟨x,w,hx,hw,he⟩
  ·exact .inl ⟨by rw [O4,hx];rfl,by rw [he]⟩
  ·rw [he]
   rw [O4,hx]
   simp only [bC,Bd,ke]
   have e1:(gP n (((own.length+a.size:Nat):Int)-1) (-1)).Tag=n.Tag:=rfl
   have n1:n.Tag≠1:=fun h=>by rw [h]at h1;simp [pk]at h1
   have n2:n.Tag≠2:=fun h=>by rw [h]at h1;simp [pk]at h1
   have hstep:dv kinds (gP n (((own.length+a.size:Nat):Int)-1) (-1)::rest) (own++w++[x])=if(kn n.Tag x 0).2 then dv kinds rest (own++w++[x]++[(kn n.Tag x 0).1])else some (0,201):=by
    rw [dv]
    rw [e1,bM (by simpa using n1),bM (by simpa using n2)]
    have eL:(gP n (((own.length+a.size:Nat):Int)-1) (-1)).L=((own.length+a.size:Nat):Int)-1:=rfl
    have eR:(gP n (((own.length+a.size:Nat):Int)-1) (-1)).R= -1:=rfl
    rw [eL,eR,mp (own++w).length (by simp;omega),sP (eW _),vu]
    simp only [HG,bC]
    rw [bM (by decide)]
    unfold pC
    rw [e1,yX]
    simp only [bC]
    cases hb:(kn n.Tag x 0).2 with
    |true=>
     simp only [oh,mA,ji,jW]
     rw [cP (by simp;omega)];rfl
    |false=>rfl
   rw [hstep]
   cases hb:(kn n.Tag x 0).2 with
   |true=>exact .inr ⟨(kn n.Tag x 0).1,w++[x],by simp,by simp;omega,by simp⟩
   |false=>exact .inl ⟨by simp,by simp⟩
 |bi n a b iha ihb=>
  intro⟨⟨h1,h2,h3,h4⟩,ha,hb⟩ ⟨hca,hcb⟩ rest own hl
  have hap:=a.size_pos
  have hbp:=b.size_pos
  simp only [Tr.flat,Tr.size,iS]at hl ⊢
  obtain⟨m,hm⟩: ∃m,m=gP n (((own.length+a.size:Nat):Int)-1) (((own.length+a.size+b.size:Nat):Int)-1):=⟨_,rfl⟩
  rw [←hm]
  rcases iha ha hca (b.flat (own.length+a.size)++([m]++rest)) own (by omega)with⟨hx,he⟩|⟨x,w,hx,hw,he⟩
  ·exact .inl ⟨by rw [Ls,hx];rfl,by rw [he]⟩
  ·rw [he]
   have hl2:(own++w++[x]).length=own.length+a.size:=by simp;omega
   rw [←hl2]
   rcases ihb hb hcb ([m]++rest) (own++w++[x]) (by rw [hl2];omega)with⟨hy,he2⟩|⟨y,w2,hy,hw2,he2⟩
   ·exact .inl ⟨by rw [Ls,hx,hy];rfl,by rw [he2]⟩
   ·rw [he2]
    rw [Ls,hx,hy]
    simp only [bC,Bd,ke]
    have e1:m.Tag=n.Tag:=by rw [hm];rfl
    have eL:m.L=((own.length+a.size:Nat):Int)-1:=by rw [hm];rfl
    have eR:m.R=((own.length+a.size+b.size:Nat):Int)-1:=by rw [hm];rfl
    have n1:n.Tag≠1:=fun h=>by rw [h]at h1;simp [pk]at h1
    have n2:n.Tag≠2:=fun h=>by rw [h]at h1;simp [pk]at h1
    have hstep:dv kinds (m::rest) (own++w++[x]++w2++[y])=if(kn n.Tag x y).2 then dv kinds rest (own++w++[x]++w2++[y]++[(kn n.Tag x y).1])else some (0,201):=by
     rw [dv]
     rw [e1,bM (by simpa using n1),bM (by simpa using n2)]
     rw [eL,eR,mp (own++w).length (by simp;omega)]
     have g1:(own++w++[x]++w2++[y])[(own++w).length]? =some x:=by
      rw [iS,iS,sP (eW _),vu];rfl
     rw [g1]
     simp only [bC]
     rw [bS (by rw [q8];omega),mp (own++w++[x]++w2).length (by simp;omega)]
     have g2:(own++w++[x]++w2++[y])[(own++w++[x]++w2).length]? =some y:=by
      rw [sP (eW _),vu];rfl
     rw [g2]
     simp only [bC]
     unfold pC
     rw [e1,yX]
     simp only [bC]
     cases hb:(kn n.Tag x y).2 with
     |true=>
      simp only [oh,mA,ji,jW]
      rw [cP (by simp;omega)];rfl
     |false=>rfl
    rw [hstep]
    cases hb:(kn n.Tag x y).2 with
    |true=>exact .inr ⟨(kn n.Tag x y).1,w++[x]++w2++[y],by simp,by simp;omega,by simp⟩
    |false=>exact .inl ⟨by simp,by simp⟩
def sZ(m:Nat)(ns:List bq):Bool:=ns.all fun n=> !((n.Tag==2)&&decide ((m:Int)≤n.Col))
theorem Jb(m:Nat)(n:bq)(ns:List bq):sZ m (n::ns)=(!((n.Tag==2)&&decide ((m:Int)≤n.Col))&&sZ m ns):=rfl
theorem Cr(m:Nat)(t:Tr):t.wf→ ∀s,sZ m (t.flat s)=true→Gc m t:=by
 induction t with
 |lf n=>
  intro _ s h ht
  simp only [sZ,Tr.flat,w9,List.all_nil,Bool.and_true]at h
  have e1:(gP n (-1) (-1)).Tag=n.Tag:=rfl
  have e2:(gP n (-1) (-1)).Col=n.Col:=rfl
  simp [e1,e2,ht]at h
  exact h
 |un n a ih=>
  intro⟨_,ha⟩ s h
  simp only [sZ,Tr.flat,List.all_append,lH]at h
  exact ih ha s h.1
 |bi n a b iha ihb=>
  intro⟨_,ha,hb⟩ s h
  simp only [sZ,Tr.flat,List.all_append,lH]at h
  exact⟨iha ha s h.1.1,ihb hb _ h.1.2⟩
def Qv(kinds:List Int):Bool:=kinds.all fun k=>decide (0≤k)&&decide (k≤3)
theorem IS(k:Int)(ks:List Int):Qv (k::ks)=((decide (0≤k)&&decide (k≤3))&&Qv ks):=rfl
theorem Lt{kinds:List Int}(h:Qv kinds=true){k:Int}(hk:k∈kinds):k4 k:=by
 have:=pi.1 h k hk
 simp at this
 unfold k4;omega
def mU(e:bf)(kinds:List Int):Int×Int:=
 if gN e.Nodes then if Qv kinds then if sZ kinds.length e.Nodes then match (pU e.Nodes).bind (kd kinds)with
  |some k=>(k,0)
  |none=>(0,201)else(0,2)else(0,2)else(0,200)
theorem EC(e:bf)(kinds:List Int): ∀cs:List Int,nr e kinds cs=if cs.all (fun c=>decide (c<(kinds.length:Int)))then pM e (jQ kinds)else some (0,2)
 |[]=>by
  unfold nr
  cases pM e (jQ kinds)<;>rfl
 |c::cs=>by
  unfold nr
  rw [EC e kinds cs]
  by_cases h:(kinds.length:Int)≤c
  ·rw [bS (by simpa using h),bM (by simp;omega)]
  ·rw [bM (by simpa using h)]
   have:c<(kinds.length:Int):=by omega
   simp [this]
theorem wA(e:bf)(kinds:List Int)(hl:e.Nodes.length≤50000):tN e kinds=some (mU e kinds):=by
 unfold tN mU
 rw [rW e (by omega)]
 cases hr:gN e.Nodes with
 |false=>rfl
 |true=>
  simp only [jW,bC]
  rw [bM (by decide)]
  have key: ∀ks:List Int,qN e kinds ks=if Qv ks then(vG e).bind (nr e kinds)else some (0,2):=by
   intro ks
   induction ks with
   |nil=>rfl
   |cons k ks ih=>
    unfold qN
    rw [ih]
    by_cases h:k<0∨3<k
    ·rw [bS (by simpa using h),bM (by simp [Qv];omega)]
    ·rw [bM (by simpa using h)]
     have h1:(decide (0≤k)&&decide (k≤3))=true:=by simp;omega
     rw [IS,h1,w8]
  rw [key]
  cases hk:Qv kinds with
  |false=>rfl
  |true=>
   simp only [jW]
   obtain⟨cs,h1,h2⟩:=Hn e hr
   rw [h1,bC,EC]
   have hci:cs.all (fun c=>decide (c<(kinds.length:Int)))=sZ kinds.length e.Nodes:=by
    rw [yF]
    simp only [pi,q8,sZ,Be,Bool.and_eq_false_iff,beq_eq_false_iff_ne,Df]
    constructor
    ·intro h n hn
     by_cases ht:n.Tag=2
     ·exact .inr (by have:=h _ ((h2 n.Col).2 ⟨n,hn,ht,rfl⟩);omega)
     ·exact .inl ht
    ·intro h c hc
     obtain⟨n,hn,ht,rfl⟩:=(h2 c).1 hc
     rcases h n hn with h|h
     ·exact absurd ht h
     ·omega
   rw [hci]
   cases hc:sZ kinds.length e.Nodes with
   |false=>rfl
   |true=>
    simp only [jW]
    cases ht:pU e.Nodes with
    |none=>unfold gN at hr;rw [ht]at hr;cases hr
    |some t=>
     obtain⟨hw,hN,hs⟩:=qb ht
     have hct:=Cr kinds.length t hw 0 (by rw [←hN];exact hc)
     have:=MS kinds (fun k=>Lt hk) t hw hct 0 [] [] (by simp;omega)
     rw [zU,←hN]at this
     unfold pM
     rw [this]
     simp only [bC]
     cases kd kinds t with
     |none=>rfl
     |some k=>rfl
theorem pD(e:bf)(kinds:List Int):ri e kinds=some (mU e kinds):=by
 unfold ri mU
 rw [DO e]
 cases hr:gN e.Nodes with
 |false=>rfl
 |true=>
  simp only [jW,bC,oh,mA,ji]
  have EY: ∀ns:List bq,nP e kinds ns=if sZ kinds.length ns then dv kinds e.Nodes []else some (0,2):=by
   intro ns
   induction ns with
   |nil=>rfl
   |cons n ns ih=>
    unfold nP
    rw [ih,Jb]
    cases ((n.Tag==2)&&decide ((kinds.length:Int)≤n.Col))<;>simp
  have key: ∀ks:List Int,pB e kinds ks=if Qv ks then nP e kinds e.Nodes else some (0,2):=by
   intro ks
   induction ks with
   |nil=>rfl
   |cons k ks ih=>
    unfold pB
    rw [ih]
    by_cases h:k<0∨3<k
    ·rw [bS (by simpa using h),bM (by simp [Qv];omega)]
    ·rw [bM (by simpa using h)]
     have h1:(decide (0≤k)&&decide (k≤3))=true:=by simp;omega
     rw [IS,h1,w8]
  rw [key,EY]
  cases hk:Qv kinds with
  |false=>rfl
  |true=>
   cases hc:sZ kinds.length e.Nodes with
   |false=>rfl
   |true=>
    simp only [jW]
    cases ht:pU e.Nodes with
    |none=>unfold gN at hr;rw [ht]at hr;cases hr
    |some t=>
     obtain⟨hw,hN,hs⟩:=qb ht
     have hct:=Cr kinds.length t hw 0 (by rw [←hN];exact hc)
     have:=OB kinds (fun k=>Lt hk) t hw hct [] [] (by simp;omega)
     rw [zU,sN,←hN]at this
     simp only [bC]
     rcases this with⟨h1,h2⟩|⟨k,w,h1,h2,h3⟩
     ·rw [h1,h2]
     ·rw [h1,h3]
      unfold dv
      have hls:t.size≤1000:=hs
      rw [ke,mp w.length (by rw [cA (by simp<;>omega) (by simp<;>omega)];simp),sP (eW _),vu]
      rfl
def Sr(n:bq):Bool:=n.Tag==4||decide (12≤n.Tag)&&decide (n.Tag≤15)
theorem EP(e:bf):rh e=some (!(e.Nodes.any Sr)):=by
 unfold rh
 have key: ∀ns:List bq,py ns=some (!(ns.any Sr)):=by
  intro ns
  induction ns with
  |nil=>rfl
  |cons n ns ih=>
   unfold py
   rw [ih,xd]
   have:(n.Tag==4||decide (12≤n.Tag)&&decide (n.Tag≤15))=Sr n:=rfl
   rw [this]
   cases Sr n<;>rfl
 exact key e.Nodes

variable{α:Type}{xs:List α}
theorem ie{tl:List α}{y:α}(h:xs.drop i=y::tl):dw xs (i:Int)=some y∧i<xs.length∧xs.drop (i+1)=tl:=by
 have hi:i<xs.length:=by
  rcases lu i xs.length with h1|h1
  ·exact h1
  ·rw [Bf h1]at h;cases h
 rw [r0 hi]at h
 injection h with h1 h2
 exact⟨by rw [cQ,q6 hi,h1],hi,h2⟩
theorem AQ(h:xs.drop i=[]):xs.length≤i:=zY.1 h
theorem vM{f:mB→Option Bool}{g:mB→Bool}(hf: ∀v,f v=some (g v)): ∀(l:List mB) (i:Nat),∃j:Int,ed f l i=some j∧decide (0≤j)=l.any g
 |[],i=>⟨-1,rfl,rfl⟩
 |e::l,i=>by
  unfold ed
  rw [hf,bC]
  cases h:g e with
  |true=>exact⟨(i:Int),by simp,by simp [h]⟩
  |false=>
   obtain⟨j,h1,h2⟩:=vM hf l (i+1)
   exact⟨j,by simpa using h1,by rw [h2];simp [h]⟩
theorem yQ{f:mB→Option Bool}{g:mB→Bool}(hf: ∀v,f v=some (g v))(l:List mB):fv l f=some (l.any g):=by
 unfold fv iU
 obtain⟨j,h1,h2⟩:=vM hf l 0
 rw [h1,bC,h2]
theorem tI(l:List Int)(h:l.length≤68719476736):cr l=some l:=by
 unfold cr
 rw [cP (by simpa using h)];rfl
theorem Sy(n:Int)(h0:0≤n)(h:n≤68719476736):mD n=some []:=by
 unfold mD nj
 rw [bM (by simp;omega)]
 have e:IntKind.i64.wrap (n-IntKind.i64.wrap ((0:Int)-0))=n:=by
  rw [cA (n:=(0:Int)-0) (by omega) (by omega),cA (by omega) (by omega)];omega
 rw [e]
 by_cases hp:0<n
 ·rw [bS (by simpa using hp)]
  unfold XY vU
  rw [bS hp]
  simp only [bC]
  rw [bS ⟨h0,h⟩]
  simp only [bC]
  rw [show fy (List.replicate n.toNat (0:Int)) 0 0=some []from by unfold fy;rw [bS (by simp;omega)];simp]
  rfl
 ·rw [bM (by simpa using hp)];rfl
theorem KV(a b:List Int)(ha:a.length≤8000)(hb:b.length≤8000):jp [a,b]=some (a++b):=by
 unfold jp
 simp only [jI]
 rw [cA (n:=(0:Int)+(a.length:Int)) (by omega) (by omega),bM (by simp),cA (by omega) (by omega),bM (by simp;omega),Sy _ (by omega) (by omega)]
 simp only [bC,jH]
 rw [cP (by simp;omega)]
 simp only [bC,ke]
 rw [cP (by omega)]
 rfl
structure ku(n:af):Prop where
 cond:n.Cond.Nodes.length≤5000
 kinds:n.Kinds.length≤5000
 keys:n.Keys.length≤5000
 aggs:n.Aggs.length≤5000
 items:n.Items.length≤5000
 order:n.Order.length≤5000
 args: ∀g∈n.Aggs,g.Arg.Nodes.length≤5000
 exprs: ∀e∈n.Items,e.Nodes.length≤5000
def JP(e:bf)(kinds:List Int):Bool:=(mU e kinds).2==0&&((mU e kinds).1==1||(mU e kinds).1==0)
theorem xJ(e:bf)(kinds:List Int)(h:e.Nodes.length≤5000):sD e kinds=some (JP e kinds):=by
 unfold sD
 rw [wA e kinds (by omega)]
 rfl
theorem oB(e:bf)(kinds:List Int):sq e kinds=some (JP e kinds):=by
 unfold sq JP
 rw [pD e kinds]
 simp only [bC,Bool.or_comm]
def NK(a:ip)(kinds:List Int):Int×Bool:=
 if a.Tag=1 then(2,a.Arg.Nodes.length==0)else if a.Tag=2 then(2,(mU a.Arg kinds).2==0)else if a.Tag=3 then(2,(mU a.Arg kinds).2==0&&((mU a.Arg kinds).1==2||(mU a.Arg kinds).1==0))else if a.Tag=4∨a.Tag=5 then((mU a.Arg kinds).1,(mU a.Arg kinds).2==0)else(0,false)
theorem Lq(n:Nat):((n:Int)==0)=(n==0):=by rw [yF];simp
theorem GX(a:ip)(kinds:List Int)(h:a.Arg.Nodes.length≤5000):yw a kinds=some (NK a kinds):=by
 unfold yw NK tt
 by_cases h1:a.Tag=1
 ·rw [bS (by simp [h1]),bS h1,Lq]
 rw [bM (by simpa using h1),bM h1,wA _ _ (by omega)]
 simp only [bC]
 by_cases h2:a.Tag=2
 ·rw [bS (by simp [h2]),bS h2]
 rw [bM (by simpa using h2),bM h2]
 by_cases h3:a.Tag=3
 ·rw [bS (by simp [h3]),bS h3]
 rw [bM (by simpa using h3),bM h3]
 by_cases h4:a.Tag=4
 ·rw [bS (by simp [h4]),bS (by simp [h4]),bS (.inl h4)]
 rw [bM (by simpa using h4)]
 by_cases h5:a.Tag=5
 ·rw [bS (by simp [h5]),bS (.inr h5)]
 rw [bM (by simpa using h5),bM (by omega)]
def KM(a:ip)(kinds:List Int):Int×Bool:=(lE a kinds).getD (0,false)
theorem tZ(a:ip)(kinds:List Int):lE a kinds=some (KM a kinds):=by
 unfold KM lE
 rw [pD]
 simp only [bC]
 repeat' split
 all_goals rfl
theorem Ht(a:ip)(kinds:List Int):(NK a kinds).2=(KM a kinds).2∧((NK a kinds).2=true→(NK a kinds).1=(KM a kinds).1):=by
 unfold KM lE NK
 rw [pD]
 simp only [bC]
 by_cases h1:a.Tag=1
 ·simp [h1,Lq]
 by_cases h2:a.Tag=2
 ·by_cases he:(mU a.Arg kinds).2=0<;>simp [h2,he]
 by_cases h3:a.Tag=3
 ·by_cases he:(mU a.Arg kinds).2=0
  ·by_cases h0:(mU a.Arg kinds).1=0
   ·simp [h3,he,h0]
   ·by_cases h02:(mU a.Arg kinds).1=2<;>simp [h3,he,h0,h02]
  ·simp [h3,he]
 by_cases h4:a.Tag=4
 ·by_cases he:(mU a.Arg kinds).2=0<;>simp [h4,he]
 by_cases h5:a.Tag=5
 ·by_cases he:(mU a.Arg kinds).2=0<;>simp [h5,he]
 have:a.Tag<1∨5<a.Tag:=by omega
 simp [h1,h2,h3,h4,h5,this]
def A2(p:Option (List Int×Bool))(q:Option (List Int×Bool))(last:Bool):Prop:=
 ∃k o k',p=some (k,o&&last)∧q=some (k',o)∧(o=true→k=k')
theorem Fy(c:aG)(n:af)(a b:List Int)(hn:ku n)(hop:n.Op=1):A2 (gB c n) (cu n a b) true:=by
 have h:=hn.kinds
 have key: ∀(tl:List Int) (i:Nat) (fu:Nat) (ok:Bool),n.Kinds.drop i=tl→tl.length<fu→fT n fu ok (i:Int)=some (n.Kinds,((((ok&&tl.all fun k=>decide (1≤k)&&decide (k≤3))&&(decide ((0:Int)≤n.Table)))&&(decide (n.Table≤(3:Int))))&&(decide ((1:Int)≤(n.Kinds.length:Int))))&&(decide ((n.Kinds.length:Int)≤(4:Int)))):=by
  intro tl
  induction tl with
  |nil=>
   intro i fu ok hd hf
   obtain⟨fu,rfl⟩: ∃k,fu=k+1:=⟨fu-1,by omega⟩
   have:=AQ hd
   rw [fT,bM (by simp;omega)]
   simp
  |cons x tl ih=>
   intro i fu ok hd hf
   simp only [iR]at hf
   obtain⟨fu,rfl⟩: ∃k,fu=k+1:=⟨fu-1,by omega⟩
   obtain⟨h1,h2,h3⟩:=ie hd
   rw [fT,bS (by simp;omega),h1,cA (by omega) (by omega)]
   simp only [bC]
   have e:((i:Int)+1)=((i+1:Nat):Int):=by omega
   rw [e]
   have e2:((if ok=true then some (decide ((1:Int)≤x))else some false).bind fun t=>(if t=true then some (decide (x≤(3:Int)))else some false).bind fun t1=>fT n fu t1 ((i+1:Nat):Int))=fT n fu (ok&&(decide (1≤x)&&decide (x≤3))) ((i+1:Nat):Int):=by
    cases ok<;>by_cases hx:(1:Int)≤x<;>simp [hx]
   rw [e2,ih (i+1) fu _ h3 (by omega)]
   simp only [w9,E8]
 have hr:cu n a b=fT n cZ true (0:Int):=by unfold cu;rw [bS (by simp [hop])]
 rw [hr,show((0:Int))=((0:Nat):Int)from rfl,key n.Kinds 0 cZ true rfl (wU (Cz _) (np (by omega)))]
 unfold gB
 have hc:eS n.Kinds lT=some (n.Kinds.any fun k=> !(((k==(1:Int))||(k==(2:Int)))||(k==(3:Int)))):=s9 (fun v=>rfl) _
 rw [hc]
 simp only [bC]
 have e3:(!(n.Kinds.any fun k=> !(((k==(1:Int))||(k==(2:Int)))||(k==(3:Int)))))=n.Kinds.all fun k=>decide (1≤k)&&decide (k≤3):=by
  rw [List.not_any_eq_all_not]
  congr 1
  funext k
  rw [Bool.not_not,yF]
  simp;omega
 rw [e3]
 refine⟨n.Kinds,_,n.Kinds,?_,rfl,fun _=>rfl⟩
 cases h4:(n.Kinds.all fun k=>decide (1≤k)&&decide (k≤3))<;>by_cases t1:0≤n.Table<;>by_cases t2:n.Table<4<;>by_cases l1:(1:Int)≤(n.Kinds.length:Int)<;>by_cases l2:(n.Kinds.length:Int)≤4<;>simp [t1,t2,l1,l2]<;>omega
theorem Ni(c:aG)(n:af)(a b:List Int)(hn:ku n)(hop:n.Op=2)(ha:dw c.kinds n.A=some a)(hb:dw c.kinds n.B=some b)(hal:a.length≤16)(hbl:b.length≤16):A2 (iw c n) (cu n a b) true:=by
 unfold iw cu
 rw [ha,hb,bM (by simp [hop]),bS (by simp [hop])]
 simp only [bC]
 rw [KV _ _ (by omega) (by omega),cP (by simp;omega)]
 simp only [bC,ke]
 rw [cP (by omega)]
 simp only [bC]
 rw [xJ _ _ hn.cond,oB]
 exact⟨_,JP n.Cond (a++b),_,by simp,rfl,fun _=>rfl⟩
theorem I2(c:aG)(n:af)(a b:List Int)(hn:ku n)(hop:n.Op=3)(ha:dw c.kinds n.A=some a):A2 (gC c n) (cu n a b) true:=by
 unfold gC cu
 rw [ha,bM (by simp [hop]),bM (by simp [hop]),bS (by simp [hop])]
 simp only [bC]
 rw [xJ _ _ hn.cond,oB]
 exact⟨_,JP n.Cond a,_,by simp,rfl,fun _=>rfl⟩
theorem E1(c:aG)(n:af)(a b:List Int)(hop:n.Op=6)(ha:dw c.kinds n.A=some a):A2 (fM c n) (cu n a b) true:=by
 unfold fM cu
 rw [ha,bM (by simp [hop]),bM (by simp [hop]),bM (by simp [hop]),bM (by simp [hop]),bM (by simp [hop]),bS (by simp [hop])]
 exact⟨_,true,_,rfl,rfl,fun _=>rfl⟩
theorem GM(c:aG)(n:af)(a b:List Int)(hn:ku n)(hop:n.Op=5)(ha:dw c.kinds n.A=some a):A2 (ge c n) (cu n a b) true:=by
 have h:=hn.items
 have hr:cu n a b=fi n a cZ [] true (0:Int):=by unfold cu;rw [bM (by simp [hop]),bM (by simp [hop]),bM (by simp [hop]),bM (by simp [hop]),bS (by simp [hop])]
 have key: ∀(tl:List bf) (i:Nat) (fu:Nat) (out:List Int) (ok:Bool),n.Items.drop i=tl→i+tl.length=n.Items.length→tl.length<fu→out.length=i→fi n a fu out ok (i:Int)=some (out++tl.map (fun e=>(mU e a).1),((ok&&tl.all fun e=>(mU e a).2==0)&&(decide ((1:Int)≤(n.Items.length:Int))))&&(decide ((n.Items.length:Int)≤(16:Int)))):=by
  intro tl
  induction tl with
  |nil=>
   intro i fu out ok hd hi hf ho
   obtain⟨fu,rfl⟩: ∃k,fu=k+1:=⟨fu-1,by omega⟩
   simp only [sN,yD]at hi
   rw [fi,bM (by simp;omega)]
   simp [ho,hi]
  |cons x tl ih=>
   intro i fu out ok hd hi hf ho
   simp only [iR]at hf hi
   obtain⟨fu,rfl⟩: ∃k,fu=k+1:=⟨fu-1,by omega⟩
   obtain⟨h1,h2,h3⟩:=ie hd
   rw [fi,bS (by simp;omega),h1]
   simp only [bC]
   rw [pD]
   simp only [bC]
   rw [cP (by simp;omega),cA (by omega) (by omega)]
   simp only [bC]
   have e:((i:Int)+1)=((i+1:Nat):Int):=by omega
   rw [e,ih (i+1) fu _ _ h3 (by omega) (by omega) (by simp [ho])]
   simp [E8]
 rw [hr,show((0:Int))=((0:Nat):Int)from rfl,key n.Items 0 cZ [] true rfl (by simp) (wU (Cz _) (np (by omega))) rfl]
 unfold ge
 have EY: ∀(tl:List bf) (out:List Int) (ok:Bool),(∀e∈tl,e.Nodes.length≤5000)→out.length+tl.length≤5000→fY c n tl out ok=some (out++tl.map (fun e=>(mU e a).1),ok&&tl.all fun e=>(mU e a).2==0):=by
  intro tl
  induction tl with
  |nil=>intro out ok _ _;simp [fY]
  |cons x tl ih=>
   intro out ok he hl
   simp only [iR]at hl
   rw [fY,ha]
   simp only [bC]
   rw [wA _ _ (by have:=he x (iA ..);omega)]
   simp only [bC]
   rw [cP (by simp;omega)]
   simp only [bC]
   rw [ih _ _ (fun e h=>he e (pS _ h)) (by simp;omega)]
   simp [E8]
 rw [EY n.Items [] _ hn.exprs (by simp;omega)]
 refine⟨_,_,_,?_,rfl,fun _=>rfl⟩
 simp only [Bool.and_true,w8]
 congr 2
 cases (n.Items.all fun e=>(mU e a).2==0)<;>simp
def TY(a:List Int)(e:Int):Int:=(a[e.toNat]?).getD 0
def GP(a:List Int)(e:Int):Bool:=decide (e<0)||decide ((a.length:Int)≤e)
theorem Pc{a:List Int}{e:Int}(h:GP a e=false):dw a e=some (TY a e):=by
 simp [GP]at h
 rw [mp e.toNat (by omega),q6 (by omega)]
 unfold TY
 rw [q6 (by omega)];rfl
theorem Kq(c:aG)(n:af)(a b:List Int)(hn:ku n)(hop:n.Op=4)(ha:dw c.kinds n.A=some a):A2 (hU c n) (cu n a b) true:=by
 have hK:=hn.keys
 have hA:=hn.aggs
 have hr:cu n a b=dY n a cZ [] (0:Int):=by unfold cu;rw [bM (by simp [hop]),bM (by simp [hop]),bM (by simp [hop]),bS (by simp [hop])]
 have VS: ∀(tl:List ip) (i:Nat) (fu:Nat) (out:List Int) (ok:Bool),n.Aggs.drop i=tl→i+tl.length=n.Aggs.length→tl.length<fu→out.length≤5000+i→dK n a fu out ok (i:Int)=some (out++tl.map (fun e=>(KM e a).1),(((ok&&tl.all fun e=>(KM e a).2)&&(decide ((n.Keys.length:Int)≤(3:Int))))&&(decide ((n.Aggs.length:Int)≤(12:Int))))&&(decide ((0:Int)<((out.length+tl.length:Nat):Int)))):=by
  intro tl
  induction tl with
  |nil=>
   intro i fu out ok hd hi hf ho
   obtain⟨fu,rfl⟩: ∃k,fu=k+1:=⟨fu-1,by omega⟩
   simp only [sN,yD]at hi
   rw [dK,bM (by simp;omega)]
   simp
  |cons x tl ih=>
   intro i fu out ok hd hi hf ho
   simp only [iR]at hf hi
   obtain⟨fu,rfl⟩: ∃k,fu=k+1:=⟨fu-1,by omega⟩
   obtain⟨h1,h2,h3⟩:=ie hd
   rw [dK,bS (by simp;omega),h1]
   simp only [bC]
   rw [tZ]
   simp only [bC]
   rw [cP (by simp;omega),cA (by omega) (by omega)]
   simp only [bC]
   have e:((i:Int)+1)=((i+1:Nat):Int):=by omega
   rw [e,ih (i+1) fu _ _ h3 (by omega) (by omega) (by simp;omega)]
   simp only [yE,w9,E8,iS,lw,iR,sN,Bd,ke]
   rw [show out.length+(0+1)+tl.length=out.length+(tl.length+1)from by omega]
 have EY: ∀(tl:List Int) (i:Nat) (fu:Nat) (out:List Int),n.Keys.drop i=tl→i+tl.length=n.Keys.length→tl.length<fu→out.length=i→dY n a fu out (i:Int)=if tl.any (GP a)then some ([],false)else dK n a cZ (out++tl.map (TY a)) true 0:=by
  intro tl
  induction tl with
  |nil=>
   intro i fu out hd hi hf ho
   obtain⟨fu,rfl⟩: ∃k,fu=k+1:=⟨fu-1,by omega⟩
   simp only [sN,yD]at hi
   rw [dY,bM (by simp;omega)]
   simp
  |cons x tl ih=>
   intro i fu out hd hi hf ho
   simp only [iR]at hf hi
   obtain⟨fu,rfl⟩: ∃k,fu=k+1:=⟨fu-1,by omega⟩
   obtain⟨h1,h2,h3⟩:=ie hd
   rw [dY,bS (by simp;omega),h1]
   simp only [bC]
   cases hx:GP a x with
   |true=>
    have hx' :(decide (x<0)||decide ((a.length:Int)≤x))=true:=hx
    rw [bS hx',bS (by simp [hx])]
   |false=>
    have hx' : ¬(decide (x<0)||decide ((a.length:Int)≤x))=true:=by rw [show(decide (x<0)||decide ((a.length:Int)≤x))=GP a x from rfl,hx];decide
    rw [bM hx',Pc hx]
    simp only [bC]
    rw [cP (by simp;omega),cA (by omega) (by omega)]
    simp only [bC]
    have e:((i:Int)+1)=((i+1:Nat):Int):=by omega
    rw [e,ih (i+1) fu _ h3 (by omega) (by omega) (by simp [ho])]
    simp [hx]
 rw [hr,show((0:Int))=((0:Nat):Int)from rfl,EY n.Keys 0 cZ [] rfl (by simp) (wU (Cz _) (np (by omega))) rfl]
 rw [show((0:Int))=((0:Nat):Int)from rfl,VS n.Aggs 0 cZ _ true rfl (by simp) (wU (Cz _) (np (by omega))) (by simp;omega)]
 unfold hU
 rw [ha,cA (by omega) (by omega)]
 simp only [bC]
 have hp:tp n.Keys a=some (!(n.Keys.any (GP a))):=by
  unfold tp
  rw [s9 (f:=qJ a) (g:=GP a) (fun v=>rfl)]
  rfl
 rw [hp]
 simp only [bC,ke,List.length_map]
 have kl: ∀(tl:List ip) (out:List Int) (ok:Bool),(∀e∈tl,e.Arg.Nodes.length≤5000)→out.length+tl.length≤10000→fL a tl out ok=some (out++tl.map (fun e=>(NK e a).1),ok&&tl.all fun e=>(NK e a).2):=by
  intro tl
  induction tl with
  |nil=>intro out ok _ _;simp [fL]
  |cons x tl ih=>
   intro out ok he hl
   simp only [iR]at hl
   rw [fL,GX _ _ (he x (iA ..))]
   simp only [bC]
   rw [cP (by simp;omega)]
   simp only [bC]
   rw [ih _ _ (fun e h=>he e (pS _ h)) (by simp;omega)]
   simp [E8]
 have kl1: ∀(t:Bool) (tl out:List Int),tl.any (GP a)=false→out.length+tl.length≤5000→gR n a t tl out=fL a n.Aggs (out++tl.map (TY a)) t:=by
  intro t tl
  induction tl with
  |nil=>intro out _ _;simp [gR]
  |cons x tl ih=>
   intro out ho hl
   simp only [iR]at hl
   simp only [xd,HJ]at ho
   rw [gR,Pc ho.1]
   simp only [bC]
   rw [cP (by simp;omega)]
   simp only [bC]
   rw [ih _ ho.2 (by simp;omega)]
   simp
 have hall:(n.Aggs.all fun e=>(NK e a).2)=n.Aggs.all fun e=>(KM e a).2:=by
  congr 1;funext e;exact(Ht e a).1
 have hmap:(n.Aggs.all fun e=>(NK e a).2)=true→n.Aggs.map (fun e=>(NK e a).1)=n.Aggs.map fun e=>(KM e a).1:=by
  intro h
  exact HI fun e he=>(Ht e a).2 (pi.1 h e he)
 cases hany:n.Keys.any (GP a)with
 |true=>exact⟨[],false,[],by simp,by simp,fun _=>rfl⟩
 |false=>
  by_cases hb:((n.Keys.length≤3∧n.Aggs.length≤12)∧0<n.Keys.length+n.Aggs.length)
  ·have hb' :(((decide ((n.Keys.length:Int)≤(3:Int)))&&(decide ((n.Aggs.length:Int)≤(12:Int))))&&(decide ((0:Int)<(n.Keys.length:Int)+(n.Aggs.length:Int))))=true:=by simp;omega
   simp only [hb',jW,Bb,oh,mA,ji,bC]
   rw [kl1 true n.Keys [] hany (by simp;omega),kl n.Aggs _ true hn.args (by simp;omega)]
   refine⟨n.Keys.map (TY a)++n.Aggs.map (fun e=>(NK e a).1),n.Aggs.all fun e=>(KM e a).2,n.Keys.map (TY a)++n.Aggs.map (fun e=>(KM e a).1),by simp [hall],?_,fun h=>?_⟩
   ·have h1:(decide ((n.Keys.length:Int)≤(3:Int)))=true:=by simp;omega
    have h2:(decide ((n.Aggs.length:Int)≤(12:Int)))=true:=by simp;omega
    have h3:(decide ((0:Int)<((n.Keys.length+n.Aggs.length:Nat):Int)))=true:=by simp;omega
    simp only [h1,h2,h3,Bool.and_true,w8]
   ·rw [hmap (by rw [hall];exact h)]
  ·have hb' :(((decide ((n.Keys.length:Int)≤(3:Int)))&&(decide ((n.Aggs.length:Int)≤(12:Int))))&&(decide ((0:Int)<(n.Keys.length:Int)+(n.Aggs.length:Int))))=false:=by rw [Aa];simp;omega
   simp only [hb',jW,Bb,mA,ji,bC]
   refine⟨[],false,n.Keys.map (TY a)++n.Aggs.map (fun e=>(KM e a).1),by simp,?_,by simp⟩
   have:((((true&&n.Aggs.all fun e=>(KM e a).2)&&(decide ((n.Keys.length:Int)≤(3:Int))))&&(decide ((n.Aggs.length:Int)≤(12:Int))))&&(decide ((0:Int)<((n.Keys.length+n.Aggs.length:Nat):Int))))=false:=by rw [Aa];simp;omega
   rw [this]
def Oe(x y:Int):Int:=if x=0 then y else x
def HU(p:Int×Int):Bool:=(p.2==Oe p.1 p.2)||p.2==0
theorem JO(c:aG)(n:af)(a b:List Int)(hop:n.Op=7)(ha:dw c.kinds n.A=some a)(hb:dw c.kinds n.B=some b)(hal:a.length≤16):A2 (hJ c n) (cu n a b) true:=by
 unfold hJ cu
 rw [ha,hb,bM (by simp [hop]),bM (by simp [hop]),bM (by simp [hop]),bM (by simp [hop]),bM (by simp [hop]),bM (by simp [hop]),bS (by simp [hop])]
 simp only [bC]
 by_cases hl:a.length=b.length
 ·rw [bM (by simp;omega),bM (by simp;omega),tI _ (by omega)]
  simp only [bC]
  have kc: ∀(tl pre suf:List Int) (ok:Bool),suf.length=tl.length→d7 tl pre.length (pre++suf) ok=some (pre++List.zipWith Oe suf tl,ok&&(suf.zip tl).all HU):=by
   intro tl
   induction tl with
   |nil=>
    intro pre suf ok h
    have:suf=[]:=vv h
    subst this
    simp [d7]
   |cons y tl ih=>
    intro pre suf ok h
    cases suf with
    |nil=>simp at h
    |cons x suf=>
     simp only [iR,Nat.add_right_cancel_iff]at h
     rw [d7,cQ,sP (eW _),vu]
     simp only [HG,bC]
     have step: ∀(z:Int),i9 (d7 tl) pre.length y ok (pre++z::suf)=some (pre++z::List.zipWith Oe suf tl,ok&&((z==y||y==0)&&(suf.zip tl).all HU)):=by
      intro z
      unfold i9
      rw [cQ,sP (eW _),vu]
      simp only [HG,bC]
      have e1:pre++z::suf=(pre++[z])++suf:=by simp
      have e2:pre.length+1=(pre++[z]).length:=by simp
      cases ok with
      |true=>
       simp only [jW,bC,w8]
       rw [e1,e2,ih (pre++[z]) suf _ h]
       simp
      |false=>
       simp only [mA,ji,bC,E7]
       rw [e1,e2,ih (pre++[z]) suf _ h]
       simp
     by_cases hx:x=0
     ·subst hx
      rw [bS (by simp)]
      have e3:(pre++(0:Int)::suf).set ((pre.length:Int)).toNat y=pre++y::suf:=by
       rw [yG,HN _ _ (eW _),vu];rfl
      rw [e3]
      refine(step y).trans ?_
      simp [HU,Oe]
     ·rw [bM (by simpa using hx),step x]
      have:Oe x y=x:=by unfold Oe;rw [bM hx]
      simp only [List.zipWith_cons_cons,List.zip_cons_cons,w9,HU,this]
      have e4:(y==x)=(x==y):=by rw [yF,wJ,wJ];exact eq_comm
      rw [e4]
  have kr: ∀(tl tb:List Int) (i:Nat) (out:List Int) (ok:Bool),b.drop i=tb→tl.length=tb.length→out.length+tl.length≤1000→i7 b tl i out ok=some (out++List.zipWith Oe tl tb,ok&&(tl.zip tb).all HU):=by
   intro tl
   induction tl with
   |nil=>
    intro tb i out ok hd h _
    have:tb=[]:=vv h.symm
    subst this
    simp [i7]
   |cons x tl ih=>
    intro tb i out ok hd h hm
    cases tb with
    |nil=>simp at h
    |cons y tb=>
     simp only [iR,Nat.add_right_cancel_iff]at h hm
     obtain⟨h1,h2,h3⟩:=ie hd
     rw [i7,h1]
     simp only [bC]
     have step: ∀z:Int,oC b (i7 b tl) i out ok z=some (out++z::List.zipWith Oe tl tb,ok&&((y==z||y==0)&&(tl.zip tb).all HU)):=by
      intro z
      unfold oC
      rw [cP (by simp;omega),h1]
      simp only [bC]
      cases ok with
      |true=>
       simp only [jW,bC,w8]
       cases hyz:y==z with
       |true=>
        simp only [oh,mA,ji,bC]
        rw [ih tb (i+1) _ _ h3 h (by simp;omega)]
        simp
       |false=>
        simp only [Bb,jW,bC]
        rw [ih tb (i+1) _ _ h3 h (by simp;omega)]
        simp
      |false=>
       simp only [mA,ji,bC,E7]
       rw [ih tb (i+1) _ _ h3 h (by simp;omega)]
       simp
     by_cases hx:x=0
     ·subst hx
      rw [bS (by simp),step y]
      simp [HU,Oe]
     ·rw [bM (by simpa using hx),step x]
      have:Oe x y=x:=by unfold Oe;rw [bM hx]
      simp only [List.zipWith_cons_cons,List.zip_cons_cons,w9,HU,this]
  have h1:=kc b [] a true hl
  rw [sN,ke]at h1
  rw [h1,kr a b 0 [] true rfl hl (by simp;omega)]
  exact⟨_,_,_,by rw [Bool.and_true],rfl,fun _=>rfl⟩
 ·rw [bS (by simp;omega),bS (by simp;omega)]
  exact⟨[],false,[],rfl,rfl,fun _=>rfl⟩
theorem Kh(c:aG)(n:af)(a b:List Int)(hn:ku n)(hop:n.Op=8)(ha:dw c.kinds n.A=some a):A2 (hM c n) (cu n a b) ((c.kinds.length:Int)==IntKind.i64.wrap ((c.Logic.Nodes.length:Int)-(1:Int))):=by
 have h:=hn.order
 have hr:cu n a b=fS n a cZ true (0:Int):=by unfold cu;rw [bM (by simp [hop]),bM (by simp [hop]),bM (by simp [hop]),bM (by simp [hop]),bM (by simp [hop]),bM (by simp [hop]),bM (by simp [hop])]
 have key: ∀(tl:List mB) (i:Nat) (fu:Nat) (ok:Bool),n.Order.drop i=tl→i+tl.length=n.Order.length→tl.length<fu→fS n a fu ok (i:Int)=some (a,((((ok&&tl.all fun e=>decide (0≤e.Col)&&decide (e.Col<(a.length:Int)))&&(decide ((n.Order.length:Int)≤(3:Int))))&&(decide ((-1:Int)≤n.Limit)))&&(decide (n.Limit≤(2147483647:Int))))):=by
  intro tl
  induction tl with
  |nil=>
   intro i fu ok hd hi hf
   obtain⟨fu,rfl⟩: ∃k,fu=k+1:=⟨fu-1,by omega⟩
   simp only [sN,yD]at hi
   rw [fS,bM (by simp;omega)]
   simp
  |cons x tl ih=>
   intro i fu ok hd hi hf
   simp only [iR]at hf hi
   obtain⟨fu,rfl⟩: ∃k,fu=k+1:=⟨fu-1,by omega⟩
   obtain⟨h1,h2,h3⟩:=ie hd
   rw [fS,bS (by simp;omega),h1,cA (by omega) (by omega)]
   simp only [bC]
   have e:((i:Int)+1)=((i+1:Nat):Int):=by omega
   rw [e]
   have e2:((if ok=true then some (decide ((0:Int)≤x.Col))else some false).bind fun t=>(if t=true then some (decide (x.Col<(a.length:Int)))else some false).bind fun t1=>fS n a fu t1 ((i+1:Nat):Int))=fS n a fu (ok&&(decide (0≤x.Col)&&decide (x.Col<(a.length:Int)))) ((i+1:Nat):Int):=by
    cases ok<;>by_cases hx:(0:Int)≤x.Col<;>simp [hx]
   rw [e2,ih (i+1) fu _ h3 (by omega) (by omega)]
   simp only [w9,E8]
 rw [hr,show((0:Int))=((0:Nat):Int)from rfl,key n.Order 0 cZ true rfl (by simp) (wU (Cz _) (np (by omega)))]
 unfold hM
 rw [ha]
 simp only [bC]
 rw [yQ (f:=lq a) (g:=fun o=>(decide (o.Col<(0:Int)))||(decide ((a.length:Int)≤o.Col))) (fun v=>rfl)]
 simp only [bC]
 have e3:(!(n.Order.any fun o=>(decide (o.Col<(0:Int)))||(decide ((a.length:Int)≤o.Col))))=n.Order.all fun e=>decide (0≤e.Col)&&decide (e.Col<(a.length:Int)):=by
  rw [List.not_any_eq_all_not]
  congr 1
  funext k
  rw [yF]
  simp
 rw [e3]
 refine⟨a,_,a,?_,rfl,fun _=>rfl⟩
 cases h4:(n.Order.all fun e=>decide (0≤e.Col)&&decide (e.Col<(a.length:Int)))<;>by_cases l1:(n.Order.length:Int)≤3<;>simp [l1]

def GQ(op:Int):Bool:=decide (1≤op)&&decide (op≤8)
theorem tK{op:Int}(h:GQ op=true):op=1∨op=2∨op=3∨op=4∨op=5∨op=6∨op=7∨op=8:=by
 simp [GQ]at h;omega
def zG(n:af):Bool:=(rd n).getD false
theorem qA(n:af):rd n=some (zG n):=by
 unfold zG rd
 repeat' split
 all_goals rfl
theorem X9(l:List α):((l.length:Int)==0)=l.isEmpty:=by cases l<;>simp<;>omega
theorem TX(l:List α):decide ((0:Int)<(l.length:Int))= !l.isEmpty:=by cases l<;>simp<;>omega
theorem OG(n:af)(h:GQ n.Op=true):((ug n).bind fun r=>(uf r).bind fun r1=>some r1)=some (zG n):=by
 obtain⟨op,A,B,SB,kinds,left,cond,keys,aggs,items,order,limit⟩:=n
 unfold zG rd ug uf
 simp only [X9,TX]
 rcases tK h with h|h|h|h|h|h|h|h<;>simp only at h<;>subst h<;>simp<;>(try (by_cases t:SB=0<;>simp [t]))<;>(try (by_cases lm:limit=0<;>simp [lm]))<;>(try (cases left<;>simp))<;>(try (by_cases e1:kinds=[]<;>simp [e1]))<;>(try (by_cases e2:cond.Nodes=[]<;>simp [e2]))<;>(try (by_cases e3:keys=[]<;>simp [e3]))<;>(try (by_cases e4:aggs=[]<;>simp [e4]))<;>(try (by_cases e5:items=[]<;>simp [e5]))<;>(try (by_cases e6:order=[]<;>simp [e6]))
theorem SF{β:Type}(f1 f2 f3 f4 f5 f6 f7 f8:β)(k:Int):sU (fQ (fQ (fQ (fQ (fQ (fQ (fQ (fQ ([]:List (Int×β)) 1 f1) 2 f2) 3 f3) 4 f4) 5 f5) 6 f6) 7 f7) 8 f8) k=
  if k=1 then some f1 else if k=2 then some f2 else if k=3 then some f3 else if k=4 then some f4 else if k=5 then some f5 else if k=6 then some f6 else if k=7 then some f7 else if k=8 then some f8 else none:=by
 have e:fQ (fQ (fQ (fQ (fQ (fQ (fQ (fQ ([]:List (Int×β)) 1 f1) 2 f2) 3 f3) 4 f4) 5 f5) 6 f6) 7 f7) 8 f8=[(1,f1),(2,f2),(3,f3),(4,f4),(5,f5),(6,f6),(7,f7),(8,f8)]:=rfl
 rw [e]
 simp only [sU,eq_comm (b:=k)]
theorem D8(op:Int):uQ op=some (if op=1 then 0 else if op=2∨op=7 then 2 else 1):=by
 unfold uQ qK
 by_cases h1:op=1
 ·simp [h1]
 by_cases h2:op=2
 ·simp [h2]
 by_cases h7:op=7
 ·simp [h7]
 simp [h1,h2,h7]
theorem mQ(op:Int):uG op=some (if op=1 then 0 else if op=2∨op=7 then 2 else if GQ op then 1 else -1):=by
 unfold uG qz lc
 by_cases h:GQ op=true
 ·rcases tK h with rfl|rfl|rfl|rfl|rfl|rfl|rfl|rfl<;>rfl
 ·have h' : ¬(1≤op∧op≤8):=fun hh=>h (by simp [GQ];omega)
  have h1: ¬op=1:=by omega
  have h2: ¬op=2:=by omega
  have h3: ¬op=3:=by omega
  have h4: ¬op=4:=by omega
  have h5: ¬op=5:=by omega
  have h6: ¬op=6:=by omega
  have h7: ¬op=7:=by omega
  have h8: ¬op=8:=by omega
  simp [h1,h2,h3,h4,h5,h6,h7,h8,h]
structure KS(l:bR)(j:Nat)(f:Int)(ks:List Int)(s:Nat):Prop where
 pos:1≤s
 le:s≤j+1
 fst:f=(j:Int)+1-(s:Int)
 size: ∀fu,j+1<fu→cI fu l (j:Int)=some (s:Int)
 len:ks.length≤16
 kinds: ∀fu,j+1<fu→cO fu l (j:Int)=some (ks,true)
structure JD(l:bR)(i:Nat)(first:List Int)(kinds:List (List Int)):Prop where
 fl:first.length=i
 kl:kinds.length=i
 node: ∀j,j<i→ ∃f ks s,first[j]? =some f∧kinds[j]? =some ks∧KS l j f ks s
variable{first:List Int}
theorem JD.push{kinds:List (List Int)}(h:JD l i first kinds){f:Int}{ks:List Int}{s:Nat}(hn:KS l i f ks s):JD l (i+1) (first++[f]) (kinds++[ks]):=by
 refine⟨by simp [h.fl],by simp [h.kl],fun j hj=>?_⟩
 by_cases hji:j=i
 ·subst hji
  refine⟨f,ks,s,?_,?_,hn⟩
  ·rw [sP (by rw [h.fl];exact eW _),h.fl,vu];rfl
  ·rw [sP (by rw [h.kl];exact eW _),h.kl,vu];rfl
 ·obtain⟨f',ks',s',h1,h2,h3⟩:=h.node j (by omega)
  exact⟨f',ks',s',by rw [xc (by rw [h.fl];omega)];exact h1,by rw [xc (by rw [h.kl];omega)];exact h2,h3⟩
def Md(n:af)(i:Nat):Prop:=
 (n.Op=1→n.A= -1∧n.B= -1)∧(n.Op≠1→0<i∧0≤n.A∧n.A<i)∧(n.Op=2∨n.Op=7→n.B=(i:Int)-1)∧(n.Op≠1→n.Op≠2→n.Op≠7→n.B= -1)
theorem vy(l:bR){fu:Nat}(hf:0<fu){p:Int}(h:p<0):cI fu l p=some 0:=by
 obtain⟨fu,rfl⟩: ∃k,fu=k+1:=⟨fu-1,by omega⟩
 unfold cI
 rw [bS (by simp [h])]
theorem KK{kinds:List (List Int)}(hI:JD l i first kinds)(hn:dw l.Nodes (i:Int)=some n)(hi:i<l.Nodes.length)(hl:l.Nodes.length≤1000)(hop:GQ n.Op=true):
  ∃f ok,kF ⟨l,kinds,first⟩ (i:Int)=some (f,ok)∧((ok=true∧ ∃s:Nat,1≤s∧s≤i+1∧f=(i:Int)+1-(s:Int)∧(∀fu,i+1<fu→cI fu l (i:Int)=some (s:Int))∧Md n i)∨(ok=false∧ ∀fu,i+1<fu→cI fu l (i:Int)=some 0)):=by
 have hstep: ∀fu,i+1<fu→ ∃fu',fu=fu' +1∧i<fu' :=fun fu h=>⟨fu-1,by omega,by omega⟩
 unfold kF
 simp only [hn,bC,D8]
 by_cases h1:n.Op=1
 ·-- nothing below
  simp only [h1,jW]
  rw [bS (by decide)]
  refine⟨_,_,rfl,?_⟩
  by_cases hAB:n.A= -1∧n.B= -1
  ·refine .inl ⟨by simp [hAB],1,eW _,by omega,by omega,fun fu hf=>?_,⟨fun _=>hAB,fun h=>absurd h1 h,fun h=>by omega,fun h=>absurd h1 h⟩⟩
   obtain⟨fu',rfl,_⟩:=hstep fu hf
   unfold cI
   rw [bM (by simp;omega),hn]
   simp only [bC,mQ,h1,jW]
   rw [bS (by decide),bS (by simp [hAB])];rfl
  ·have hb:(n.A== -1&&n.B== -1)=false:=by rw [Aa];intro h;apply hAB;simpa using h
   refine .inr ⟨hb,fun fu hf=>?_⟩
   obtain⟨fu',rfl,_⟩:=hstep fu hf
   unfold cI
   rw [bM (by simp;omega),hn]
   simp only [bC,mQ,h1,jW]
   rw [bS (by decide),bM (by rw [hb];decide)]
 ·by_cases h27:n.Op=2∨n.Op=7
  ·-- two below
   simp only [h1,h27,jW,ji]
   rw [bM (by decide),bM (by decide)]
   have hsz: ∀fu,i<fu→cI (fu+1) l (i:Int)=if n.B=(i:Int)-1 then((cI fu) l n.B).bind (fun r2=>if((decide ((0:Int)<r2))&&(n.A==(IntKind.i64.wrap (n.B-r2))))then(((cI fu) l n.A).bind fun r3=>if(decide ((0:Int)<r3))then(some (IntKind.i64.wrap ((IntKind.i64.wrap (r3+r2))+(1:Int))))else(some (0:Int)))else(some (0:Int)))else some 0:=by
    intro fu hfu
    conv=>lhs;unfold cI
    rw [bM (by simp;omega),hn]
    simp only [bC,mQ,h1,h27,jW,ji]
    rw [bM (by decide),bM (by decide),bS (by decide),cA (n:=(i:Int)-1) (by omega) (by omega)]
    by_cases hB:n.B=(i:Int)-1
    ·rw [bS (by simp [hB]),bS hB]
    ·rw [bM (by simpa using hB),bM hB]
   by_cases hB:n.B=(i:Int)-1∧0<i
   ·have hcond:(!((n.B !=IntKind.i64.wrap ((i:Int)-1))||((i:Int)==0)))=true:=by
     rw [cA (by omega) (by omega)]
     have: ¬((i:Int)=0):=by omega
     simp [hB.1,this];omega
    rw [bS hcond]
    obtain⟨fB,kB,sB,g1,g2,g3⟩:=hI.node (i-1) (by omega)
    have hBi:n.B=((i-1:Nat):Int):=by omega
    have hidx:dw first n.B=some fB:=by rw [hBi,cQ];exact g1
    rw [hidx]
    have hfB:=g3.fst
    have hsB:=g3.pos
    have hsB2:=g3.le
    simp only [bC]
    rw [cA (n:=fB-1) (by omega) (by omega)]
    by_cases hA:n.A=fB-1∧0≤n.A
    ·rw [bM (by simp [hA.1];omega)]
     obtain⟨fA,kA,sA,q1,q2,q3⟩:=hI.node n.A.toNat (by omega)
     have hidA:dw first n.A=some fA:=by
      rw [show n.A=((n.A.toNat:Nat):Int)from by omega,cQ];exact q1
     rw [hidA]
     have hfA:=q3.fst
     have hsA:=q3.pos
     have hsA2:=q3.le
     refine⟨fA,true,rfl,.inl ⟨rfl,sA+sB+1,by omega,by omega,by omega,fun fu hf=>?_,⟨fun h=>absurd h h1,fun _=>⟨hB.2,hA.2,by omega⟩,fun _=>hB.1,fun _ h2 h7=>by rcases h27 with h|h;exact absurd h h2;exact absurd h h7⟩⟩⟩
     obtain⟨fu',rfl,hf'⟩:=hstep fu hf
     rw [hsz fu' hf',bS hB.1]
     have e1:=g3.size fu' (by omega)
     rw [←hBi]at e1
     rw [e1]
     simp only [bC]
     rw [cA (n:=n.B-(sB:Int)) (by omega) (by omega),bS (by simp;omega)]
     have e2:=q3.size fu' (by omega)
     rw [show((n.A.toNat:Nat):Int)=n.A from by omega]at e2
     rw [e2]
     simp only [bC]
     rw [bS (by simp;omega),cA (n:=(sA:Int)+(sB:Int)) (by omega) (by omega),cA (by omega) (by omega)]
     congr 1
    ·have hb:(n.A !=fB-1||decide (n.A<0))=true:=by
      simp only [xa,uA,q8]
      by_cases h:n.A=fB-1
      ·exact .inr (by omega)
      ·exact .inl h
     rw [bS hb]
     refine⟨0,false,rfl,.inr ⟨rfl,fun fu hf=>?_⟩⟩
     obtain⟨fu',rfl,hf'⟩:=hstep fu hf
     rw [hsz fu' hf',bS hB.1]
     have e1:=g3.size fu' (by omega)
     rw [←hBi]at e1
     rw [e1]
     simp only [bC]
     rw [cA (n:=n.B-(sB:Int)) (by omega) (by omega)]
     by_cases h:n.A=fB-1
     ·rw [bS (by simp;omega),vy l (by omega) (by omega)]
      rfl
     ·rw [bM (by simp;omega)]
   ·have hcond:(!((n.B !=IntKind.i64.wrap ((i:Int)-1))||((i:Int)==0)))=false:=by
     rw [cA (by omega) (by omega)]
     by_cases h:n.B=(i:Int)-1
     ·have:i=0:=by omega
      simp [this]
     ·simp [h]
    rw [hcond]
    simp only [mA,ji,bC,Bool.true_or,jW]
    refine⟨0,false,rfl,.inr ⟨rfl,fun fu hf=>?_⟩⟩
    obtain⟨fu',rfl,hf'⟩:=hstep fu hf
    rw [hsz fu' hf']
    by_cases h:n.B=(i:Int)-1
    ·rw [bS h]
     rw [vy l (by omega) (by omega)]
     rfl
    ·rw [bM h]
  ·-- one below
   simp only [h1,h27,ji]
   rw [bM (by decide),bS (by decide)]
   have hsz: ∀fu,i<fu→cI (fu+1) l (i:Int)=if n.A=(i:Int)-1∧n.B= -1 then((cI fu) l n.A).bind (fun r1=>if(decide ((0:Int)<r1))then(some (IntKind.i64.wrap (r1+(1:Int))))else(some (0:Int)))else some 0:=by
    intro fu hfu
    conv=>lhs;unfold cI
    rw [bM (by simp;omega),hn]
    simp only [bC,mQ,h1,h27,hop,jW,ji]
    rw [bM (by decide),bS (by decide),cA (n:=(i:Int)-1) (by omega) (by omega)]
    by_cases hB:n.A=(i:Int)-1∧n.B= -1
    ·rw [bS (by simp [hB]),bS hB]
    ·rw [bM (by simpa using hB),bM hB]
   rw [cA (by omega) (by omega)]
   by_cases hA:(n.A=(i:Int)-1∧n.B= -1)∧0<i
   ·rw [bM (by simp [hA.1];omega)]
    obtain⟨fA,kA,sA,g1,g2,g3⟩:=hI.node (i-1) (by omega)
    have hAi:n.A=((i-1:Nat):Int):=by omega
    have hidx:dw first n.A=some fA:=by rw [hAi,cQ];exact g1
    rw [hidx]
    have hfA:=g3.fst
    have hsA:=g3.pos
    have hsA2:=g3.le
    refine⟨fA,true,rfl,.inl ⟨rfl,sA+1,by omega,by omega,by omega,fun fu hf=>?_,⟨fun h=>absurd h h1,fun _=>⟨hA.2,by omega,by omega⟩,fun h=>absurd h h27,fun _ _ _=>hA.1.2⟩⟩⟩
    obtain⟨fu',rfl,hf'⟩:=hstep fu hf
    rw [hsz fu' hf',bS hA.1]
    have e1:=g3.size fu' (by omega)
    rw [←hAi]at e1
    rw [e1]
    simp only [bC]
    rw [bS (by simp;omega),cA (by omega) (by omega)]
    rfl
   ·have hb:(n.A !=(i:Int)-1||n.B != -1||(i:Int)==0)=true:=by
     simp only [xa,uA,wJ]
     by_cases h:n.A=(i:Int)-1
     ·by_cases h' :n.B= -1
      ·exact .inr (by omega)
      ·exact .inl (.inr h')
     ·exact .inl (.inl h)
    rw [bS hb]
    refine⟨0,false,rfl,.inr ⟨rfl,fun fu hf=>?_⟩⟩
    obtain⟨fu',rfl,hf'⟩:=hstep fu hf
    rw [hsz fu' hf']
    by_cases h:n.A=(i:Int)-1∧n.B= -1
    ·rw [bS h,vy l (by omega) (by omega)]
     rfl
    ·rw [bM h]
theorem Ko{kinds:List (List Int)}(hI:JD l i first kinds)(hn:dw l.Nodes (i:Int)=some n)(hl:l.Nodes.length≤1000)(hi:i<l.Nodes.length){s:Nat}(hs:1≤s)(hsz: ∀fu,i+1<fu→cI fu l (i:Int)=some (s:Int))(hp:Md n i)(ho:zG n=true)(hop:GQ n.Op=true):
  ∃a b,(n.Op≠1→dw kinds n.A=some a)∧(n.Op=2∨n.Op=7→dw kinds n.B=some b)∧a.length≤16∧b.length≤16∧ ∀fu,i+1<fu→cO fu l (i:Int)=gz l (i:Int) n a b:=by
 obtain⟨p1,p2,p3,p4⟩:=hp
 have hsz0:kh l (i:Int)=some (s:Int):=hsz cZ (wU (Cz _) (np (by omega)))
 have hu: ∀fu,cO (fu+1) l (i:Int)=if(decide ((0:Int)≤n.A))then(((cO fu) l n.A).bind fun r4=>if(!r4.2)then(some ([],false))else(eI (cO fu) l (i:Int) n r4.1))else(eI (cO fu) l (i:Int) n ([])):=by
  intro fu
  conv=>lhs;unfold cO
  rw [hsz0,hn]
  simp only [bC,qA,ho]
  have: ¬(s=0):=by omega
  simp [this]
 by_cases h1:n.Op=1
 ·obtain⟨hA,hB⟩:=p1 h1
  refine⟨[],[],fun h=>absurd h1 h,fun h=>by omega,by simp,by simp,fun fu hf=>?_⟩
  obtain⟨fu,rfl⟩: ∃k,fu=k+1:=⟨fu-1,by omega⟩
  rw [hu,bM (by simp [hA])]
  unfold eI
  rw [bM (by simp [hB])]
 ·obtain⟨hi0,hA0,hAi⟩:=p2 h1
  obtain⟨fA,kA,sA,g1,g2,g3⟩:=hI.node n.A.toNat (by omega)
  have eA:((n.A.toNat:Nat):Int)=n.A:=by omega
  have hkA:dw kinds n.A=some kA:=by rw [←eA,cQ];exact g2
  by_cases h27:n.Op=2∨n.Op=7
  ·have hB:=p3 h27
   obtain⟨fB,kB,sB,q1,q2,q3⟩:=hI.node (i-1) (by omega)
   have eB:((i-1:Nat):Int)=n.B:=by omega
   have hkB:dw kinds n.B=some kB:=by rw [←eB,cQ];exact q2
   refine⟨kA,kB,fun _=>hkA,fun _=>hkB,g3.len,q3.len,fun fu hf=>?_⟩
   obtain⟨fu,rfl⟩: ∃k,fu=k+1:=⟨fu-1,by omega⟩
   rw [hu,bS (by simpa using hA0)]
   have e1:=g3.kinds fu (by omega)
   rw [eA]at e1
   rw [e1]
   simp only [bC,oh,mA,ji]
   unfold eI
   rw [bS (by simp;omega)]
   have e2:=q3.kinds fu (by omega)
   rw [eB]at e2
   rw [e2]
   simp only [bC,oh,mA,ji]
  ·have hB:=p4 h1 (fun h=>h27 (.inl h)) (fun h=>h27 (.inr h))
   refine⟨kA,[],fun _=>hkA,fun h=>absurd h h27,g3.len,by simp,fun fu hf=>?_⟩
   obtain⟨fu,rfl⟩: ∃k,fu=k+1:=⟨fu-1,by omega⟩
   rw [hu,bS (by simpa using hA0)]
   have e1:=g3.kinds fu (by omega)
   rw [eA]at e1
   rw [e1]
   simp only [bC,oh,mA,ji]
   unfold eI
   rw [bM (by simp [hB])]
theorem D9(hn:dw l.Nodes (i:Int)=some n)(hl:i<1000)(h:(∀fu,i+1<fu→cI fu l (i:Int)=some 0)∨((∃s:Int,∀fu,i+1<fu→cI fu l (i:Int)=some s)∧zG n=false)):lM l (i:Int)=some ([],false):=by
 have hF:i+1<cZ:=wU (Cz _) (np (by omega))
 have e:cZ=(cZ-1)+1:=by omega
 unfold lM
 rw [e]
 unfold cO kh
 rcases h with h|⟨⟨s,h⟩,ho⟩
 ·rw [h _ hF];simp
 ·rw [h _ hF,hn]
  simp only [bC,qA,ho]
  by_cases hs:s=0<;>simp [hs]

def p9(l:bR):Prop:= ∀n∈l.Nodes,ku n
abbrev XT:=aG→af→Option (((List Int)×Bool)×aG)
def Ch:List (Int×XT):=(fQ (fQ (fQ (fQ (fQ (fQ (fQ (fQ ([]:List (Int×(aG→af→Option (((List Int)×Bool)×aG)))) (1:Int) (fun(mc:aG) (mx:af)=>(gB mc mx).map fun mr=>(mr,mc))) (2:Int) (fun(mc:aG) (mx:af)=>(iw mc mx).map fun mr=>(mr,mc))) (3:Int) (fun(mc:aG) (mx:af)=>(gC mc mx).map fun mr=>(mr,mc))) (4:Int) (fun(mc:aG) (mx:af)=>(hU mc mx).map fun mr=>(mr,mc))) (5:Int) (fun(mc:aG) (mx:af)=>(ge mc mx).map fun mr=>(mr,mc))) (6:Int) (fun(mc:aG) (mx:af)=>(fM mc mx).map fun mr=>(mr,mc))) (7:Int) (fun(mc:aG) (mx:af)=>(hJ mc mx).map fun mr=>(mr,mc))) (8:Int) (fun(mc:aG) (mx:af)=>(hM mc mx).map fun mr=>(mr,mc)))
theorem OU(op:Int):(sU Ch op).isSome=GQ op:=by
 unfold Ch
 rw [SF]
 by_cases h:GQ op=true
 ·rw [h]
  rcases tK h with rfl|rfl|rfl|rfl|rfl|rfl|rfl|rfl<;>rfl
 ·rw [Aa.2 h]
  have h' : ¬(1≤op∧op≤8):=fun hh=>h (by simp [GQ];omega)
  have h1: ¬op=1:=by omega
  have h2: ¬op=2:=by omega
  have h3: ¬op=3:=by omega
  have h4: ¬op=4:=by omega
  have h5: ¬op=5:=by omega
  have h6: ¬op=6:=by omega
  have h7: ¬op=7:=by omega
  have h8: ¬op=8:=by omega
  simp [h1,h2,h3,h4,h5,h6,h7,h8]
theorem Nc(c:aG)(n:af)(a b:List Int)(hn:ku n)(hop:GQ n.Op=true)(ha:n.Op≠1→dw c.kinds n.A=some a)(hb:n.Op=2∨n.Op=7→dw c.kinds n.B=some b)(hal:a.length≤16)(hbl:b.length≤16):
  ∃k o k',((sU Ch n.Op).getD (fun _ _=>none)) c n=some ((k,o&&(if n.Op=8 then(c.kinds.length:Int)==IntKind.i64.wrap ((c.Logic.Nodes.length:Int)-(1:Int))else true)),c)∧cu n a b=some (k',o)∧(o=true→k=k'):=by
 have go: ∀(m:Option (List Int×Bool)) (last:Bool),A2 m (cu n a b) last→((sU Ch n.Op).getD (fun _ _=>none)) c n=m.map (fun mr=>(mr,c))→(if n.Op=8 then(c.kinds.length:Int)==IntKind.i64.wrap ((c.Logic.Nodes.length:Int)-(1:Int))else true)=last→ ∃k o k',((sU Ch n.Op).getD (fun _ _=>none)) c n=some ((k,o&&(if n.Op=8 then(c.kinds.length:Int)==IntKind.i64.wrap ((c.Logic.Nodes.length:Int)-(1:Int))else true)),c)∧cu n a b=some (k',o)∧(o=true→k=k'):=by
  intro m last ⟨k,o,k',h1,h2,h3⟩ he hl
  exact⟨k,o,k',by rw [he,h1,hl];rfl,h2,h3⟩
 unfold Ch at go ⊢
 rw [SF]at go ⊢
 rcases tK hop with h|h|h|h|h|h|h|h
 ·exact go _ _ (Fy c n a b hn h) (by simp [h]) (by simp [h])
 ·exact go _ _ (Ni c n a b hn h (ha (by omega)) (hb (.inl h)) hal hbl) (by simp [h]) (by simp [h])
 ·exact go _ _ (I2 c n a b hn h (ha (by omega))) (by simp [h]) (by simp [h])
 ·exact go _ _ (Kq c n a b hn h (ha (by omega))) (by simp [h]) (by simp [h])
 ·exact go _ _ (GM c n a b hn h (ha (by omega))) (by simp [h]) (by simp [h])
 ·exact go _ _ (E1 c n a b h (ha (by omega))) (by simp [h]) (by simp [h])
 ·exact go _ _ (JO c n a b h (ha (by omega)) (hb (.inr h)) hal) (by simp [h]) (by simp [h])
 ·exact go _ _ (Kh c n a b hn h (ha (by omega))) (by simp [h]) (by simp [h])
theorem Nb{Sg:Type}(yld:(Int×Bool)→Sg→Option (Bool×Sg)){kinds:List (List Int)}(hI:JD l i first kinds){tl:List af}(hd:l.Nodes.drop i=n::tl)(hS:p9 l)(hl:l.Nodes.length≤60)(st:Sg):
  ∃first' kinds' ok,bY yld (n::tl) i st ⟨l,kinds,first⟩=((yld ((i:Int),ok) st).bind fun r2=>if((!r2.1)||(!ok))then some (r2.2,⟨l,kinds',first'⟩)else bY yld tl (i+1) r2.2 ⟨l,kinds',first'⟩)∧(∃x,lM l (i:Int)=some (x,ok))∧(ok=true→JD l (i+1) first' kinds'):=by
 obtain⟨hn,hi,_⟩:=ie hd
 have hfl:=hI.fl
 have hkl:=hI.kl
 have hSn:ku n:=hS n (by
  rw [cQ]at hn
  exact ta hn)
 have hF:i+1<cZ:=wU (Cz _) (np (by omega))
 have hu:bY yld (n::tl) i st ⟨l,kinds,first⟩=(if(sU Ch n.Op).isSome then((ug n).bind fun r=>(uf r).bind fun r1=>some r1)else some false).bind fun t=>if t then((kF ⟨l,kinds,first⟩ (i:Int)).bind fun r4=>(kq first ([r4.1])).bind fun l7=>eK yld (bY yld tl) i n st r4.2 ⟨l,kinds,l7⟩)else(eK yld (bY yld tl) i n st t ⟨l,kinds,first⟩):=rfl
 rw [hu,OU]
 have hk2: ∀(ok1:Bool) (k:List Int) (f' :List Int),gS yld (bY yld tl) i st ok1 k ⟨l,kinds,f'⟩=((yld ((i:Int),ok1&&decide (k.length≤16)) st).bind fun r2=>if((!r2.1)||(!(ok1&&decide (k.length≤16))))then some (r2.2,⟨l,kinds++[k],f'⟩)else bY yld tl (i+1) r2.2 ⟨l,kinds++[k],f'⟩):=by
  intro ok1 k f'
  unfold gS
  rw [cP (by simp;omega)]
  have:decide ((k.length:Int)≤16)=decide (k.length≤16):=by rw [yF];simp;omega
  simp only [bC,this]
 have hk1: ∀(f' :List Int),eK yld (bY yld tl) i n st false ⟨l,kinds,f'⟩=((yld ((i:Int),false) st).bind fun r2=>if((!r2.1)||(!false))then some (r2.2,⟨l,kinds++[[]],f'⟩)else bY yld tl (i+1) r2.2 ⟨l,kinds++[[]],f'⟩):=by
  intro f'
  unfold eK
  rw [bM (by decide),hk2]
  rfl
 by_cases hop:GQ n.Op=true
 ·rw [bS hop,OG n hop]
  simp only [bC]
  obtain⟨f,ok,hb1,hb2⟩:=KK hI hn hi (by omega) hop
  cases ho:zG n with
  |false=>
   simp only [mA,ji]
   rw [hk1]
   refine⟨first,kinds++[[]],false,rfl,⟨[],D9 hn (by omega) (.inr ⟨?_,ho⟩)⟩,by simp⟩
   rcases hb2 with⟨_,s,_,_,_,h,_⟩|⟨_,h⟩
   ·exact⟨s,h⟩
   ·exact⟨0,h⟩
  |true=>
   simp only [jW]
   rw [hb1]
   simp only [bC]
   rw [cP (by simp;omega)]
   simp only [bC]
   rcases hb2 with⟨hok,s,hs,hs2,hf,hsz,hp⟩|⟨hok,h⟩
   ·subst hok
    obtain⟨a,b,ha,hb,hal,hbl,hK⟩:=Ko hI hn (by omega) hi hs hsz hp ho hop
    obtain⟨k,o,k',m1,m2,m3⟩:=Nc ⟨l,kinds,first++[f]⟩ n a b hSn hop ha hb hal hbl
    have hk1' :eK yld (bY yld tl) i n st true ⟨l,kinds,first++[f]⟩=((((sU Ch n.Op).getD (fun _ _=>none)) ⟨l,kinds,first++[f]⟩ n).bind fun r3=>gS yld (bY yld tl) i st r3.1.2 r3.1.1 r3.2):=rfl
    rw [hk1',m1]
    simp only [bC]
    rw [hk2]
    have hlast:((kinds.length:Int)==IntKind.i64.wrap ((l.Nodes.length:Int)-1))=((i:Int)==IntKind.i64.wrap ((l.Nodes.length:Int)-1)):=by rw [hkl]
    have hKk: ∀fu,i+1<fu→ ∃x,cO fu l (i:Int)=some (x,(o&&(if n.Op=8 then(kinds.length:Int)==IntKind.i64.wrap ((l.Nodes.length:Int)-(1:Int))else true))&&decide (k.length≤16))∧(((o&&(if n.Op=8 then(kinds.length:Int)==IntKind.i64.wrap ((l.Nodes.length:Int)-(1:Int))else true))&&decide (k.length≤16))=true→x=k):=by
     intro fu hf
     rw [hK fu hf]
     unfold gz
     rw [m2]
     simp only [bC]
     rw [hlast]
     cases o with
     |false=>
      simp only [E7]
      split
      ·exact⟨_,rfl,by simp⟩
      ·exact⟨_,rfl,by simp⟩
     |true=>
      have:=m3 rfl
      subst this
      simp only [w8]
      by_cases h8:n.Op=8
      ·by_cases hL:(i:Int)=IntKind.i64.wrap ((l.Nodes.length:Int)-1)
       ·by_cases h16:k.length≤16
        ·rw [bM (by simp [←hL];omega)]
         exact⟨k,by simp [h8,hL,h16],fun _=>rfl⟩
        ·rw [bS (by simp;omega)]
         exact⟨[],by simp [h16],by simp [h16]⟩
       ·rw [bS (by simp [h8,hL])]
        exact⟨[],by simp [h8,hL],by simp [h8,hL]⟩
      ·by_cases h16:k.length≤16
       ·rw [bM (by simp [h8];omega)]
        exact⟨k,by simp [h8,h16],fun _=>rfl⟩
       ·rw [bS (by simp;omega)]
        exact⟨[],by simp [h16],by simp [h16]⟩
    refine⟨first++[f],kinds++[k],_,rfl,?_,fun hok=>?_⟩
    ·obtain⟨x,h1,_⟩:=hKk cZ hF
     exact⟨x,h1⟩
    ·refine hI.push (s:=s) ⟨hs,hs2,hf,hsz,?_,fun fu hfu=>?_⟩
     ·simp at hok;exact hok.2
     ·obtain⟨x,h1,h2⟩:=hKk fu hfu
      rw [h1,h2 hok,hok]
   ·subst hok
    rw [hk1]
    exact⟨first++[f],kinds++[[]],false,rfl,⟨[],D9 hn (by omega) (.inl h)⟩,by simp⟩
 ·rw [bM hop]
  simp only [bC,mA,ji]
  rw [hk1]
  refine⟨first,kinds++[[]],false,rfl,⟨[],D9 hn (by omega) (.inl fun fu hf=>?_)⟩,by simp⟩
  obtain⟨fu,rfl⟩: ∃k,fu=k+1:=⟨fu-1,by omega⟩
  unfold cI
  rw [bM (by simp;omega),hn]
  simp only [bC,mQ]
  have h1: ¬n.Op=1:=fun h=>hop (by rw [h];rfl)
  have h2: ¬n.Op=2:=fun h=>hop (by rw [h];rfl)
  have h7: ¬n.Op=7:=fun h=>hop (by rw [h];rfl)
  simp [h1,h2,h7,hop]
theorem QV(hS:p9 l)(hl:l.Nodes.length≤60): ∀(tl:List af) (i:Nat) (first:List Int) (kinds:List (List Int)),JD l i first kinds→l.Nodes.drop i=tl→i+tl.length=l.Nodes.length→
  ∃st ob,bY (y8 (fun x s=>pG x s.1 s.2.1 s.2.2)) tl i (none,(false,(0:Int),false)) ⟨l,kinds,first⟩=some (st,ob)∧ob.Logic=l∧
   ((st=(none,(false,(0:Int),false))∧JD l l.Nodes.length ob.first ob.kinds∧fj l tl i=fj l [] l.Nodes.length)∨(∃j:Nat,st=(some 0,(false,(j:Int),true))∧fj l tl i=some (j:Int))):=by
 intro tl
 induction tl with
 |nil=>
  intro i first kinds hI hd hi
  simp only [sN,yD]at hi
  subst hi
  exact⟨_,_,rfl,rfl,.inl ⟨rfl,hI,rfl⟩⟩
 |cons n tl ih=>
  intro i first kinds hI hd hi
  simp only [iR]at hi
  obtain⟨f',k',ok,h1,⟨x,h2⟩,h3⟩:=Nb (y8 (fun x s=>pG x s.1 s.2.1 s.2.2)) hI hd hS hl (none,(false,(0:Int),false))
  rw [h1]
  have hW:fj l (n::tl) i=if(!ok)then some (i:Int)else fj l tl (i+1):=by
   conv=>lhs;unfold fj
   rw [h2];rfl
  rw [hW]
  cases ok with
  |false=>exact⟨_,_,rfl,rfl,.inr ⟨i,rfl,rfl⟩⟩
  |true=>
   obtain⟨st,ob,g1,g2,g3⟩:=ih (i+1) f' k' (h3 rfl) (ie hd).2.2 (by omega)
   refine⟨st,ob,?_,g2,?_⟩
   ·exact g1
   ·simpa using g3
theorem JD.nil(l:bR):JD l 0 [] []:=⟨rfl,rfl,fun j h=>absurd h (Nat.not_lt_zero _)⟩
structure EB(l:bR)(ob:aG):Prop where
 logic:ob.Logic=l
 pos:1≤l.Nodes.length
 le:l.Nodes.length≤60
 inv:JD l l.Nodes.length ob.first ob.kinds
 whole:kh l ((l.Nodes.length:Int)-1)=some (l.Nodes.length:Int)
theorem QW(hS:p9 l): ∃ob j ok,nm l=some (ob,j,ok)∧qh l=some (if ok then -1 else j)∧(0≤j)∧(ok=true→EB l ob∧j=(l.Nodes.length:Int)-1):=by
 unfold nm qh
 by_cases h:l.Nodes.length<1∨60<l.Nodes.length
 ·rw [bS (by simp;omega),bS (by simp;omega)]
  exact⟨_,_,_,rfl,rfl,Int.le_refl _,by simp⟩
 ·rw [bM (by simp;omega),bM (by simp;omega)]
  unfold qL
  simp only [bC]
  unfold mE
  obtain⟨st,ob,h1,h2,h3⟩:=QV hS (by omega) l.Nodes 0 [] [] (JD.nil l) rfl (by simp)
  have h1' :bY (y8 (fun x s=>pG x s.1 s.2.1 s.2.2)) (⟨l,[],[]⟩:aG).Logic.Nodes 0 (none,(false,(0:Int),false)) ⟨l,[],[]⟩=some (st,ob):=h1
  rw [h1']
  simp only [bC]
  rcases h3 with⟨rfl,hI,hW⟩|⟨j,rfl,hW⟩
  ·simp only [Option.isNone_none,jW]
   rw [cA (by omega) (by omega)]
   obtain⟨f,ks,s,g1,g2,g3⟩:=hI.node (l.Nodes.length-1) (by omega)
   have e:((l.Nodes.length-1:Nat):Int)=(l.Nodes.length:Int)-1:=by omega
   have hid:dw ob.first ((l.Nodes.length:Int)-1)=some f:=by rw [←e,cQ];exact g1
   rw [hid]
   simp only [bC]
   have hsz:kh l ((l.Nodes.length:Int)-1)=some (s:Int):=by
    have:=g3.size cZ (wU (Cz _) (np (by omega)))
    rw [e]at this;exact this
   have hf:=g3.fst
   refine⟨_,_,_,rfl,?_,by omega,fun hok=>?_⟩
   ·rw [hW]
    unfold fj
    rw [cA (by omega) (by omega),hsz]
    simp only [bC]
    by_cases hs:s=l.Nodes.length
    ·rw [bM (by simp [hs]),bS (by simp;omega)]
    ·rw [bS (by simp;omega),bM (by simp;omega)]
   ·have hs:s=l.Nodes.length:=by simp at hok;omega
    exact⟨⟨h2,by omega,by omega,hI,by rw [hsz,hs]⟩,rfl⟩
  ·simp only [Option.isNone_some,mA,ji]
   refine⟨ob,(j:Int),false,rfl,by rw [hW];rfl,by omega,by simp⟩

theorem iF{n:Nat}(h:n≤900000):n<cZ:=wU (Cz _) (np (by omega))
theorem pm(a:List Int):eH a a=some true:=by
 unfold eH
 rw [bM (by simp)]
 have key: ∀(tl:List Int) (i:Nat),a.drop i=tl→ia a tl i=some true:=by
  intro tl
  induction tl with
  |nil=>intro i _;rfl
  |cons x tl ih=>
   intro i h
   obtain⟨h1,_,h3⟩:=ie h
   unfold ia
   rw [h1]
   simp only [bC,bne_self_eq_false,mA,ji]
   exact ih (i+1) h3
 exact key a 0 rfl
theorem sR(a:bf):rf a a=some true:=by
 unfold rf
 rw [bM (by simp)]
 have key: ∀(tl:List bq) (i:Nat),a.Nodes.drop i=tl→px a tl i=some true:=by
  intro tl
  induction tl with
  |nil=>intro i _;rfl
  |cons x tl ih=>
   intro i h
   obtain⟨h1,_,h3⟩:=ie h
   unfold px
   rw [h1]
   simp only [bC,decide_true,oh,mA,ji]
   exact ih (i+1) h3
 exact key a.Nodes 0 rfl
theorem zA(a:List bf):rJ a a=some true:=by
 unfold rJ
 rw [bM (by simp)]
 have key: ∀(tl:List bf) (i:Nat),a.drop i=tl→mS a tl i=some true:=by
  intro tl
  induction tl with
  |nil=>intro i _;rfl
  |cons x tl ih=>
   intro i h
   obtain⟨h1,_,h3⟩:=ie h
   unfold mS
   rw [h1]
   simp only [bC,sR,oh,mA,ji]
   exact ih (i+1) h3
 exact key a 0 rfl
def xp(d x:Int):Int:=if 0≤x then IntKind.i64.wrap (x+d)else x
def uy(d:Int)(n:af):af:={n with A:=xp d n.A,B:=xp d n.B}
theorem ku.sh(h:ku n)(d:Int):ku (uy d n):=⟨h.cond,h.kinds,h.keys,h.aggs,h.items,h.order,h.args,h.exprs⟩
theorem ku.at(h:ku n)(a b:Int):ku {n with A:=a,B:=b}:=⟨h.cond,h.kinds,h.keys,h.aggs,h.items,h.order,h.args,h.exprs⟩
theorem EN(n:af)(d:Int):we n d=some (uy d n):=by
 unfold we rG rF uy xp
 by_cases hA:0≤n.A<;>by_cases hB:0≤n.B<;>simp [hA,hB]
theorem set_same{e:α}(h:xs[i]? =some e):xs.set i e=xs:=by
 apply Fb
 intro j
 rw [List.getElem?_set]
 split
 ·rename_i hj;subst hj
  split
  ·exact h.symm
  ·rename_i h2;rw [HF (by omega)]
 ·rfl
theorem tB(h:ku n):nK n=some n:=by
 have hK:=h.kinds
 have hk:=h.keys
 have hA:=h.aggs
 have hI:=h.items
 have hO:=h.order
 have hc:=h.cond
 have hcl: ∀{l:List bq},l.length≤5000→cj l=some l:=fun{l} hl=>by
  unfold cj;rw [cP (by simp;omega)];rfl
 unfold nK
 rw [tI _ (by omega),tI _ (by omega)]
 simp only [bC]
 have e1:eD n.Order=some n.Order:=by unfold eD;rw [cP (by simp;omega)];rfl
 rw [e1]
 simp only [bC]
 rw [hcl hc]
 simp only [bC]
 have e2:fR n.Aggs=some n.Aggs:=by unfold fR;rw [cP (by simp;omega)];rfl
 rw [e2]
 simp only [bC]
 have e3:fg n.Items=some n.Items:=by unfold fg;rw [cP (by simp;omega)];rfl
 rw [e3]
 simp only [bC]
 have EY: ∀(tl:List bf) (i:Nat),n.Items.drop i=tl→(∀e∈tl,e.Nodes.length≤5000)→nI tl i n=some n:=by
  intro tl
  induction tl with
  |nil=>intro i _ _;rfl
  |cons x tl ih=>
   intro i hd hs
   obtain⟨h1,h2,h3⟩:=ie hd
   unfold nI
   rw [h1]
   simp only [bC]
   rw [hcl (hs x (iA ..))]
   simp only [bC,yG]
   rw [cQ]at h1
   have e4:n.Items.set i ({x with Nodes:=x.Nodes}:bf)=n.Items:=set_same h1
   rw [e4]
   exact ih (i+1) h3 (fun e he=>hs e (pS _ he))
 have key1: ∀(tl:List ip) (i:Nat),n.Aggs.drop i=tl→(∀e∈tl,e.Arg.Nodes.length≤5000)→nJ tl i n=some n:=by
  intro tl
  induction tl with
  |nil=>intro i _ _;exact EY n.Items 0 rfl h.exprs
  |cons x tl ih=>
   intro i hd hs
   obtain⟨h1,h2,h3⟩:=ie hd
   unfold nJ
   rw [h1]
   simp only [bC]
   rw [hcl (hs x (iA ..))]
   simp only [bC,yG]
   rw [cQ]at h1
   have e4:n.Aggs.set i ({x with Arg:=({x.Arg with Nodes:=x.Arg.Nodes}:bf)}:ip)=n.Aggs:=set_same h1
   rw [e4]
   exact ih (i+1) h3 (fun e he=>hs e (pS _ he))
 exact key1 n.Aggs 0 rfl h.args
theorem CN(h:ku n)(d:Int):tq n d=some (uy d n):=by
 unfold tq pP uy xp
 by_cases hA:0≤n.A<;>by_cases hB:0≤n.B
 ·rw [bS (by simpa using hA),bS (by simpa using hB),bS hA,bS hB]
  exact tB (h.at _ _)
 ·rw [bS (by simpa using hA),bM (by simpa using hB),bS hA,bM hB]
  exact tB (h.at _ _)
 ·rw [bM (by simpa using hA),bS (by simpa using hB),bM hA,bS hB]
  exact tB (h.at _ _)
 ·rw [bM (by simpa using hA),bM (by simpa using hB),bM hA,bM hB]
  exact tB (h.at _ _)
def sQ(l:bR):Bool:=decide ((qh l).getD 0<0)
theorem If(h:p9 l):uF l=some (sQ l)∧(∃j,uR l=some (if sQ l then(0,0)else(j,230)))∧(∃ob j,nm l=some (ob,j,sQ l)∧(sQ l=true→EB l ob∧j=(l.Nodes.length:Int)-1)):=by
 obtain⟨ob,j,ok,h1,h2,h3,h4⟩:=QW h
 have e:sQ l=ok:=by
  unfold sQ
  rw [h2]
  cases ok<;>simp<;>omega
 refine⟨?_,⟨j,?_⟩,ob,j,?_⟩
 ·unfold uF sQ
  rw [h2];rfl
 ·unfold uR
  rw [h1,e]
  cases ok<;>rfl
 ·rw [e]
  exact⟨h1,h4⟩
theorem H0(hA:n.A≤100000)(hB:n.B≤100000):uy 0 n=n:=by
 have h: ∀x:Int,x≤100000→xp 0 x=x:=by
  intro x hx
  unfold xp
  by_cases h:0≤x
  ·rw [bS h,Int.add_zero,cA (by omega) (by omega)]
  ·rw [bM h]
 unfold uy
 rw [h _ hA,h _ hB]
theorem QU{d:Int}{ns:List af}(h: ∀n∈ns,ku n): ∀n∈ns.map (uy d),ku n:=by
 intro n hn
 obtain⟨m,hm,rfl⟩:=z7.1 hn
 exact(h m hm).sh d
end Go.Proofs.YtnmjbolollcokaaGreatDoor

