/- cR of this claim: K5, K6, K7, L2, L3, L4, L5, L6, L7. -/
import Derived.Test.YtnmjbolollcokaaGreatDoorRcQ1
set_option linter.all false
namespace Go.Proofs.YtnmjbolollcokaaGreatDoor
open Go


def nb(r:Nat):Nat:=if r%2=1 then(r/2)^^^2197175160 else r/2
def nb8(r:Nat):Nat:=nb (nb (nb (nb (nb (nb (nb (nb r)))))))
def QB:List Int:=(List.range 256).map fun i=>(nb8 i:Int)

variable{i:Nat}{l:bK}
theorem tW{f:Int→Option Bool}{g:Int→Bool}(hf: ∀v,f v=some (g v)): ∀(l:List Int) (i:Nat),∃j:Int,eP f l i=some j∧decide (0≤j)=l.any g
 |[],i=>⟨-1,rfl,rfl⟩
 |e::l,i=>by
  unfold eP
  rw [hf,be]
  cases h:g e with
  |true=>exact⟨(i:Int),by simp,by simp [h]⟩
  |false=>
   obtain⟨j,h1,h2⟩:=tW hf l (i+1)
   exact⟨j,by simpa using h1,by rw [h2];simp [h]⟩
theorem qD{f:Int→Option Bool}{g:Int→Bool}(hf: ∀v,f v=some (g v))(l:List Int):dF l f=some (l.any g):=by
 unfold dF j9
 obtain⟨j,h1,h2⟩:=tW hf l 0
 rw [h1,be,h2]

variable{n:M}
theorem lh{n:Nat}(h:n≤1000000):n≤dj:=by unfold dj;omega
def fv(ns:List aU):Bool:=(np ns).isSome
theorem AH{ns:List aU}{st:List Tr}(h:m4 ns []=some st):bY st=ns.length:=by
 have:=(rq h (fun t ht=>by cases ht)).1
 rw [←Ek,this];simp [tM]
theorem pS(e:aT)(h:e.Nodes.length≤100000):nC e=some (if fv e.Nodes then 0 else 200):=by
 unfold nC qo fv np
 have:=Em e.Nodes [] (by simpa [bY] using h)
 simp only [bY,Hx,kF]at this
 rw [this]
 cases hp:m4 e.Nodes []with
 |none=>rfl
 |some st=>
  have hsz:=AH hp
  match st,hsz with
  |[],_=>rfl
  |[t],hsz=>
   simp only [be,hsz]
   by_cases hl:e.Nodes.length≤1000<;>simp [hl]
  |t::t2::st,_=>simp
theorem JV(t:Tr):t.wf→ ∀(P R N:List aU) (fu:Nat),N=P++t.flat P.length++R→t.size≤fu→N.length≤100000→hM fu ⟨N⟩ (((P.length+t.size:Nat):Int)-1)=some (t.size:Int):=by
 induction t with
 |lf n=>
  intro⟨h1,h2,h3,h4⟩ P R N fu hN hf hl
  have hNl:=congrArg List.length hN
  simp only [jA,Tr.flat_len]at hNl
  simp only [Tr.size]at hf hNl ⊢
  obtain⟨fu,rfl⟩: ∃k,fu=k+1:=⟨fu-1,by omega⟩
  unfold hM
  have hx:N[P.length]? =some (fD n (-1) (-1)):=by
   rw [hN,n6,o5 (dN _),tm];rfl
  rw [bg (by simp;omega),kj P.length (by omega),hx]
  have e1:(fD n (-1) (-1)).Tag=n.Tag:=rfl
  simp only [be]
  rw [e1,ox]
  have e:Fa n.Tag=0:=by unfold Fa;rw [h1];rfl
  simp only [e,be,iy]
  have e2:F4 (fD n (-1) (-1))=true:=h2
  rw [e2]
  simp [fD]
 |un n a ih=>
  intro⟨⟨h1,h2,h3,h4⟩,ha⟩ P R N fu hN hf hl
  obtain⟨m,hm⟩: ∃m,m=fD n (((P.length+a.size:Nat):Int)-1) (-1):=⟨_,rfl⟩
  have hNl:=congrArg List.length hN
  simp only [jA,Tr.flat_len]at hNl
  simp only [Tr.size]at hf hNl ⊢
  simp only [Tr.flat,←hm]at hN
  obtain⟨fu,rfl⟩: ∃k,fu=k+1:=⟨fu-1,by omega⟩
  have hpos:=a.size_pos
  have hi:=ih ha P ([m]++R) N fu (by rw [hN];simp only [n6]) (by omega) hl
  unfold hM
  have hx:N[P.length+a.size]? =some m:=by
   rw [hN,n6,n6,←n6 P,o5 (by simp [a.flat_len])]
   simp [a.flat_len]
  rw [bg (by simp;omega),kj (P.length+a.size) (by omega),hx]
  simp only [be]
  have e1:m.Tag=n.Tag:=by rw [hm];rfl
  rw [e1,ox]
  have e:Fa n.Tag=1:=by unfold Fa;rw [h1];rfl
  simp only [e,be,iy]
  have e2:F4 m=true:=by rw [hm];exact h2
  have eL:m.L=((P.length+a.size:Nat):Int)-1:=by rw [hm];rfl
  have eR:m.R= -1:=by rw [hm];rfl
  rw [bP (n:=((P.length+(a.size+1):Nat):Int)-1-1) (by omega) (by omega),show(((P.length+(a.size+1):Nat):Int)-1-1)=(((P.length+a.size:Nat):Int)-1)from by omega]
  rw [hi]
  simp only [be]
  rw [bP (n:=(a.size:Int)+1) (by omega) (by omega)]
  have n1: ¬a.size=0:=by omega
  simp [e2,eL,eR,n1]
 |bi n a b iha ihb=>
  intro⟨⟨h1,h2,h3,h4⟩,ha,hb⟩ P R N fu hN hf hl
  obtain⟨m,hm⟩: ∃m,m=fD n (((P.length+a.size:Nat):Int)-1) (((P.length+a.size+b.size:Nat):Int)-1):=⟨_,rfl⟩
  have hNl:=congrArg List.length hN
  simp only [jA,Tr.flat_len]at hNl
  simp only [Tr.size]at hf hNl ⊢
  simp only [Tr.flat,←hm]at hN
  obtain⟨fu,rfl⟩: ∃k,fu=k+1:=⟨fu-1,by omega⟩
  have hap:=a.size_pos
  have hbp:=b.size_pos
  have hi1:=iha ha P (b.flat (P.length+a.size)++[m]++R) N fu (by rw [hN];simp only [n6]) (by omega) hl
  have hi2:=ihb hb (P++a.flat P.length) ([m]++R) N fu (by rw [hN];simp only [n6,jA,a.flat_len]) (by omega) hl
  rw [jA,a.flat_len]at hi2
  unfold hM
  have hx:N[P.length+a.size+b.size]? =some m:=by
   rw [hN,n6,n6,←n6 P,o5 (by simp [a.flat_len,b.flat_len];omega)]
   have:P.length+a.size+b.size-(P++(a.flat P.length++b.flat (P.length+a.size))).length=0:=by simp [a.flat_len,b.flat_len];omega
   rw [this];rfl
  rw [bg (by simp;omega),kj (P.length+a.size+b.size) (by omega),hx]
  simp only [be]
  have e1:m.Tag=n.Tag:=by rw [hm];rfl
  rw [e1,ox]
  have e:Fa n.Tag=2:=by unfold Fa;rw [h1];rfl
  simp only [e,be,iy]
  have e2:F4 m=true:=by rw [hm];exact h2
  have eL:m.L=((P.length+a.size:Nat):Int)-1:=by rw [hm];rfl
  have eR:m.R=((P.length+a.size+b.size:Nat):Int)-1:=by rw [hm];rfl
  rw [bP (n:=((P.length+(a.size+b.size+1):Nat):Int)-1-1) (by omega) (by omega),show(((P.length+(a.size+b.size+1):Nat):Int)-1-1)=(((P.length+a.size+b.size:Nat):Int)-1)from by omega]
  rw [hi2]
  simp only [be]
  rw [bP (n:=((P.length+a.size+b.size:Nat):Int)-1-(b.size:Int)) (by omega) (by omega),show((P.length+a.size+b.size:Nat):Int)-1-(b.size:Int)=((P.length+a.size:Nat):Int)-1 from by omega]
  rw [hi1]
  simp only [be]
  rw [bP (n:=(a.size:Int)+(b.size:Int)) (by omega) (by omega),bP (n:=(a.size:Int)+(b.size:Int)+1) (by omega) (by omega)]
  have n1: ¬a.size=0:=by omega
  have n2: ¬b.size=0:=by omega
  have e5:(P.length:Int)+(a.size:Int)+(b.size:Int)-1-(b.size:Int)=(P.length:Int)+(a.size:Int)-1:=by omega
  simp [e2,eL,eR,n1,n2,e5]
theorem OU(N:List aU)(hN:N.length≤100000): ∀(fu q:Nat),q≤N.length→q<fu→ ∃k:Nat,hM fu ⟨N⟩ ((q:Int)-1)=some (k:Int)∧(k=0∨ ∃(t:Tr) (P R:List aU),t.wf∧t.size=k∧N=P++t.flat P.length++R∧P.length+k=q):=by
 intro fu
 induction fu with
 |zero=>intro q _ h;omega
 |succ fu ih=>
  intro q hq hf
  unfold hM
  by_cases h0:q=0
  ·subst h0
   exact⟨0,by rw [bm (by simp)];rfl,.inl rfl⟩
  rw [bg (by simp;omega),kj (q-1) (by omega)]
  have hlt:q-1<N.length:=by omega
  rw [pE hlt]
  obtain⟨n,hn⟩: ∃n,n=N[q-1]:=⟨_,rfl⟩
  rw [←hn]
  have hd:N=N.take (q-1)++([n]++N.drop q):=by
   have h1:=sS (q-1) N
   rw [pW hlt,←hn,show q-1+1=q from by omega]at h1
   exact h1.symm
  simp only [be,ox,iy]
  cases hk:pk n.Tag with
  |none=>
   have e:Fa n.Tag= -1:=by unfold Fa;rw [hk]
   exact⟨0,by simp [e],.inl rfl⟩
  |some k=>
   have e:Fa n.Tag=(k:Int):=by unfold Fa;rw [hk]
   have hk3:k=0∨k=1∨k=2:=by
    unfold pk at hk
    repeat' split at hk
    all_goals simp at hk
    all_goals omega
   cases hc:F4 n with
   |false=>exact⟨0,by simp [e,hc],.inl rfl⟩
   |true=>
    rcases hk3 with rfl|rfl|rfl
    ·rw [e]
     by_cases hL:n.L= -1∧n.R= -1
     ·refine⟨1,by simp [hL],.inr ⟨.lf (fD n (-1) (-1)),N.take (q-1),N.drop q,⟨hk,hc,rfl,rfl⟩,rfl,?_,by simp;omega⟩⟩
      simp only [Tr.flat]
      rw [wt hL.1 hL.2,n6]
      exact hd
     ·refine⟨0,?_,.inl rfl⟩
      have:(n.L != -1||n.R != -1)=true:=by
       rw [u3,sa,sa]
       by_cases hl:n.L= -1
       ·exact .inr fun h=>hL ⟨hl,h⟩
       ·exact .inl hl
      simp [this]
    ·rw [e,bP (by omega) (by omega)]
     have e9:(((q-1:Nat):Int)-1)=(q:Int)-1-1:=by omega
     obtain⟨r2,h2,h2'⟩:=ih (q-1) (by omega) (by omega)
     rw [e9]at h2
     rw [h2]
     rcases h2' with rfl|⟨t,P,R,hw,hs,hN2,hl⟩
     ·exact⟨0,by simp,.inl rfl⟩
     ·have hp:=t.size_pos
      by_cases hL:n.L=(q:Int)-1-1∧n.R= -1
      ·refine⟨r2+1,?_,.inr ⟨.un (fD n (-1) (-1)) t,P,N.drop q,⟨⟨hk,hc,rfl,rfl⟩,hw⟩,by simp only [Tr.size];omega,?_,by omega⟩⟩
       ·simp only [be]
        rw [bP (n:=(r2:Int)+1) (by omega) (by omega)]
        have: ¬(r2=0):=by omega
        simp [hL,this]
       ·simp only [Tr.flat]
        rw [wt (by rw [hL.1];omega) hL.2]
        have ht:N.take (q-1)=P++t.flat P.length:=by
         rw [hN2,xl (by simp [t.flat_len];omega),pV (by simp [t.flat_len];omega)]
        rw [ht]at hd
        simpa only [n6] using hd
      ·refine⟨0,?_,.inl rfl⟩
       have:(n.L !=(q:Int)-1-1||n.R != -1)=true:=by
        rw [u3,sa,sa]
        by_cases hl:n.L=(q:Int)-1-1
        ·exact .inr fun h=>hL ⟨hl,h⟩
        ·exact .inl hl
       simp [this]
    ·rw [e,bP (n:=(q:Int)-1-1) (by omega) (by omega)]
     have e9:(((q-1:Nat):Int)-1)=(q:Int)-1-1:=by omega
     obtain⟨r2,h2,h2'⟩:=ih (q-1) (by omega) (by omega)
     rw [e9]at h2
     rw [h2]
     rcases h2' with rfl|⟨t,P,R,hw,hs,hN2,hl⟩
     ·exact⟨0,by simp,.inl rfl⟩
     ·have hp:=t.size_pos
      simp only [be]
      rw [bP (n:=(q:Int)-1-1-(r2:Int)) (by omega) (by omega)]
      have e8:(((q-1-r2:Nat):Int)-1)=(q:Int)-1-1-(r2:Int):=by omega
      have n2: ¬(r2=0):=by omega
      obtain⟨r3,h3,h3'⟩:=ih (q-1-r2) (by omega) (by omega)
      rw [e8]at h3
      rw [h3]
      rcases h3' with rfl|⟨t3,P3,R3,hw3,hs3,hN3,hl3⟩
      ·exact⟨0,by simp,.inl rfl⟩
      ·have hp3:=t3.size_pos
       have n3: ¬(r3=0):=by omega
       by_cases hL:n.R=(q:Int)-1-1∧n.L=(q:Int)-1-1-(r2:Int)
       ·refine⟨r3+r2+1,?_,.inr ⟨.bi (fD n (-1) (-1)) t3 t,P3,N.drop q,⟨⟨hk,hc,rfl,rfl⟩,hw3,hw⟩,by simp only [Tr.size];omega,?_,by omega⟩⟩
        ·simp only [be]
         rw [bP (n:=(r3:Int)+(r2:Int)) (by omega) (by omega),bP (n:=(r3:Int)+(r2:Int)+1) (by omega) (by omega)]
         simp [hL,n2,n3]
        ·simp only [Tr.flat]
         rw [wt (by rw [hL.2];omega) (by rw [hL.1];omega)]
         have ht:N.take (q-1)=P++t.flat P.length:=by
          rw [hN2,xl (by simp [t.flat_len];omega),pV (by simp [t.flat_len];omega)]
         have hP:P=N.take P.length:=by
          conv=>rhs;rw [hN2,n6,xl (dN _),pV (dN _)]
         have hP3:P=P3++t3.flat P3.length:=by
          rw [hP]
          have:P.length=P3.length+t3.size:=by omega
          conv=>lhs;rw [this,hN3]
          rw [xl (by simp [t3.flat_len]),pV (by simp [t3.flat_len])]
         have hPl:P.length=P3.length+t3.size:=by omega
         rw [ht,hPl]at hd
         rw [hP3]at hd
         simpa only [n6] using hd
       ·clear ih hN2 hN3
        refine⟨0,?_,.inl rfl⟩
        have:(n.R !=(q:Int)-1-1||n.L !=(q:Int)-1-1-(r2:Int))=true:=by
         rw [u3,sa,sa]
         by_cases hl:n.R=(q:Int)-1-1
         ·exact .inr fun h=>hL ⟨hl,h⟩
         ·exact .inl hl
        have h' :=this
        rw [u3,sa,sa]at h'
        simp [n2,n3]
        intro h1 h2
        exact absurd h2 (by rcases h' with h' |h';exact absurd h1 h';exact h')
theorem Cg(e:aT):vC e=some (fv e.Nodes):=by
 unfold vC fv
 by_cases h:1≤e.Nodes.length∧e.Nodes.length≤1000
 ·rw [bm (by simp;omega),bP (by omega) (by omega)]
  unfold uo
  obtain⟨k,h1,h2⟩:=OU e.Nodes (by omega) dj e.Nodes.length (dN _) (u4 (A4 _) (lh (by omega)))
  have h1' :hM dj e ((e.Nodes.length:Int)-1)=some (k:Int):=h1
  rw [h1']
  simp only [be]
  congr 1
  rw [wM]
  constructor
  ·intro hk
   have hk' :k=e.Nodes.length:=by have:=eq_of_beq hk;omega
   rcases h2 with rfl|⟨t,P,R,hw,hs,hN,hl⟩
   ·omega
   ·have hP:P=[]:=tp (by omega)
    subst hP
    have hR:R=[]:=by
     have:=congrArg List.length hN
     simp [t.flat_len]at this
     exact tp (by omega)
    subst hR
    have hN' :e.Nodes=t.flat 0:=by simpa using hN
    rw [hN',As hw (by omega)];rfl
  ·intro hi
   cases ht:np e.Nodes with
   |none=>rw [ht]at hi;cases hi
   |some t=>
    obtain⟨hw,hN,hs⟩:=nG ht
    have hlen:e.Nodes.length=t.size:=by rw [hN,t.flat_len]
    have h3:=JV t hw [] [] e.Nodes dj (by simpa using hN) (lh (by omega)) (by omega)
    simp only [q7,o0]at h3
    rw [←hlen]at h3
    have h4:some (k:Int)=some (e.Nodes.length:Int):=h1.symm.trans h3
    simpa using h4
 ·rw [bg (by simp;omega)]
  simp only [be]
  congr 1
  symm
  rw [yk]
  intro hi
  cases ht:np e.Nodes with
  |none=>rw [ht]at hi;cases hi
  |some t=>
   obtain⟨hw,hN,hs⟩:=nG ht
   have hlen:e.Nodes.length=t.size:=by rw [hN,t.flat_len]
   have:=t.size_pos
   omega
theorem um{ns:List aU}(h:fv ns=true):1≤ns.length∧ns.length≤1000:=by
 unfold fv at h
 cases ht:np ns with
 |none=>rw [ht]at h;cases h
 |some t=>
  obtain⟨hw,hN,hs⟩:=nG ht
  have hlen:ns.length=t.size:=by rw [hN,t.flat_len]
  have:=t.size_pos
  omega

theorem Jr(p:List Int)(hp:p.length≤8000)(i:Nat)(y:List Int)(hy:i+y.length=p.length): ∀(k i1:Nat) (x:List Int) (x1:Nat),i1+k=y.length→0<i1→x.length=p.length→x1+1≤i+i1→x.drop (i+i1-1)=p.drop (i+i1-1)→
  dy i y k i1 x (x1:Int)=some (x.take x1++wb ((p[i+i1-1]?).getD 0) (p.drop (i+i1))):=by
 intro k
 induction k with
 |zero=>
  intro i1 x x1 h1 h0 hx h2 h3
  simp only [dy]
  have hx1:x1≤x.length:=by omega
  rw [wm hx1 (dN _)]
  simp only [be,yj,wN]
  rw [show((0:Int))=((0:Nat):Int)from rfl,wm (gx _) (by simp;omega)]
  simp only [be,qr]
  have hn:p.drop (i+i1)=[]:=zD (by omega)
  rw [hn,HI,yb,xl (by simp;omega),zy,Nat.min_self]
 |succ k ih=>
  intro i1 x x1 h1 h0 hx h2 h3
  have e1:x[i+i1]? =p[i+i1]? :=by
   have:=congrArg (fun l:List Int=>l[1]?) h3
   simp only [ve]at this
   rwa [show i+i1-1+1=i+i1 from by omega]at this
  have e0:x[i+i1-1]? =p[i+i1-1]? :=by
   have:=congrArg (fun l:List Int=>l[0]?) h3
   simpa only [ve,zx] using this
  have hlt:i+i1<p.length:=by omega
  have g1:Di x (i:Int) y.length (i1:Int)=some p[i+i1]:=by
   unfold Di
   rw [bm (by omega),show(i:Int)+(i1:Int)=((i+i1:Nat):Int)from by omega,cg,e1,pE hlt]
  have g0:Di x (i:Int) y.length (IntKind.i64.wrap ((i1:Int)-1))=some p[i+i1-1]:=by
   rw [bP (by omega) (by omega)]
   unfold Di
   rw [bm (by omega),show(i:Int)+((i1:Int)-1)=((i+i1-1:Nat):Int)from by omega,cg,e0,pE (by omega)]
  have hd:p.drop (i+i1)=p[i+i1]::p.drop (i+i1+1):=pW hlt
  have hp1:(p[i+i1-1]?).getD 0=p[i+i1-1]:=by rw [pE (by omega)];rfl
  simp only [dy,g1,g0,be]
  rw [hd,hp1]
  by_cases hx2:p[i+i1]=p[i+i1-1]
  ·rw [bg (by simp [hx2])]
   have h3' :x.drop (i+(i1+1)-1)=p.drop (i+(i1+1)-1):=by
    have:=congrArg (List.drop 1) h3
    rwa [sR,sR,show i+i1-1+1=i+(i1+1)-1 from by omega]at this
   rw [ih (i1+1) x x1 (by omega) (by omega) hx (by omega) h3']
   rw [Eu hx2,show i+(i1+1)-1=i+i1 from by omega,pE hlt,show i+(i1+1)=i+i1+1 from by omega]
   rfl
  ·rw [bm (by simp [hx2]),cg,pE (by omega)]
   simp only [be,wN]
   rw [bP (by omega) (by omega),show((x1:Int)+1)=((x1+1:Nat):Int)from by omega]
   have h3' :(x.set x1 p[i+i1]).drop (i+(i1+1)-1)=p.drop (i+(i1+1)-1):=by
    rw [List.drop_set_of_lt (by omega)]
    have:=congrArg (List.drop 1) h3
    rwa [sR,sR,show i+i1-1+1=i+(i1+1)-1 from by omega]at this
   rw [ih (i1+1) _ (x1+1) (by omega) (by omega) (by simpa using hx) (by omega) h3']
   rw [Kt hx2,show i+(i1+1)-1=i+i1 from by omega,pE hlt,show i+(i1+1)=i+i1+1 from by omega]
   have ht:(x.set x1 p[i+i1]).take (x1+1)=x.take x1++[p[i+i1]]:=by
    rw [KR (by simp;omega),List.take_set_of_le (by omega)]
    simp
   rw [ht]
   simp
theorem Js(p:List Int)(hp:p.length≤8000):iQ p=some (Ks p):=by
 unfold iQ
 by_cases h2:p.length<2
 ·rw [bm (by simp;omega)]
  match p,h2 with
  |[],_=>rfl
  |[x],_=>rfl
 ·rw [bg (by simp;omega)]
  have key: ∀(l:List Int) (i:Nat),p.drop i=l→0<i→i≤p.length→Ks p=p.take i++wb ((p[i-1]?).getD 0) (p.drop i)→ee p l i=some (Ks p):=by
   intro l
   induction l with
   |nil=>
    intro i h1 h0 hle h3
    have:=ye.1 h1
    simp only [ee]
    rw [h3,h1,pV (by omega),HI,yb]
   |cons x t ih=>
    intro i h1 h0 hle h3
    have hi:i<p.length:=by
     rcases jM i p.length with h|h
     ·exact h
     ·rw [zD h]at h1;cases h1
    have hx:x=p[i]:=by rw [pW hi]at h1;exact(List.cons.inj h1).1.symm
    have ht:p.drop (i+1)=t:=by rw [←sR,h1];rfl
    have hp1:(p[i-1]?).getD 0=p[i-1]:=by rw [pE (by omega)];rfl
    simp only [ee]
    rw [bP (by omega) (by omega),show(i:Int)-1=((i-1:Nat):Int)from by omega,cg,pE (by omega)]
    simp only [be]
    by_cases he:x=p[i-1]
    ·rw [bm (by simp [he])]
     rw [wm hle (dN _)]
     simp only [be,yj]
     rw [Jr p hp i (p.drop i) (by simp;omega) _ 1 p i (by simp;omega) (by omega) rfl (by omega) (by simp)]
     rw [h3,h1,hp1,Eu he,←ht,hx]
     rw [show i+1-1=i from by omega,pE hi];rfl
    ·rw [bg (by simp [he])]
     refine ih (i+1) ht (by omega) (by omega) ?_
     rw [h3,h1,hp1,Kt he,KR hi,←ht,hx,show i+1-1=i from by omega,pE hi]
     rw [n6];rfl
  have hpc:p=p[0]::p.drop 1:=by
   have:=pW (l:=p) (i:=0) (by omega)
   simpa using this
  refine key (p.drop 1) 1 rfl (by omega) (by omega) ?_
  have e:(p[1-1]?).getD 0=p[0]:=by simp [pE (show 0<p.length by omega)]
  rw [e]
  conv=>lhs;rw [hpc]
  have e2:p.take 1=[p[0]]:=by
   conv=>lhs;rw [hpc]
   rfl
  rw [e2];rfl

theorem LA(l:List Int)(z:Int):z∈sortI l↔z∈l:=by unfold sortI;simp
theorem xX: ∀(ns:List aU) (out:List Int),out.length+ns.length≤8000→ ∃cs,ll ns out=some cs∧ ∀c,c∈cs↔c∈out∨ ∃n∈ns,n.Tag=2∧n.Col=c
 |[],out,h=>by
  unfold ll BZ
  rw [bm (by simp at h;omega)]
  simp only [be]
  rw [Js _ (by rw [zK];simpa using h)]
  exact⟨_,rfl,fun c=>by rw [LB,LA];simp⟩
 |n::ns,out,h=>by
  simp only [gJ]at h
  unfold ll
  by_cases ht:n.Tag=2
  ·rw [bm (by simp [ht]),ca (by simp;omega)]
   simp only [be]
   obtain⟨cs,h1,h2⟩:=xX ns (out++[n.Col]) (by simp;omega)
   exact⟨cs,h1,fun c=>by rw [h2];simp [ht,or_assoc,eq_comm]⟩
  ·rw [bg (by simp [ht])]
   obtain⟨cs,h1,h2⟩:=xX ns out (by omega)
   exact⟨cs,h1,fun c=>by rw [h2];simp [ht]⟩
theorem FN(e:aT)(h:fv e.Nodes=true): ∃cs,tN e=some cs∧ ∀c,c∈cs↔ ∃n∈e.Nodes,n.Tag=2∧n.Col=c:=by
 have hl:=um h
 unfold tN
 rw [pS e (by omega),h]
 obtain⟨cs,h1,h2⟩:=xX e.Nodes [] (by simp;omega)
 exact⟨cs,by simpa using h1,fun c=>by rw [h2];simp⟩
def kn(tag l r:Int):Int×Bool:=(rj tag l r).getD (0,false)
theorem wZ(tag l r:Int):rj tag l r=some (kn tag l r):=by
 unfold kn rj pj
 simp only [be]
 repeat' split
 all_goals simp
def k4(k:Int):Prop:=k=0∨k=1∨k=2∨k=3
theorem QH(tag l r:Int):k4 (kn tag l r).1:=by
 unfold kn rj pj
 simp only [be]
 repeat' split
 all_goals simp [k4]
theorem JI(kinds:List Int)(n:aU)(x:Int)(hx:k4 x)(hk:pk n.Tag=some 1):ie kinds n [x]=some (if(kn n.Tag x 0).2 then((kn n.Tag x 0).1,0)else(0,201)):=by
 obtain⟨tag,L,R,col,v⟩:=n
 have ht:tag=4∨tag=5∨tag=6∨tag=7:=by
  unfold pk at hk
  repeat' split at hk
  all_goals simp at hk
  rename_i h
  have h:4≤tag∧tag≤7:=h
  omega
 rcases ht with rfl|rfl|rfl|rfl<;>rcases hx with rfl|rfl|rfl|rfl<;>rfl
theorem JH(kinds:List Int)(n:aU)(x y:Int)(hx:k4 x)(hy:k4 y)(hk:pk n.Tag=some 2):ie kinds n [x,y]=some (if(kn n.Tag x y).2 then((kn n.Tag x y).1,0)else(0,201)):=by
 obtain⟨tag,L,R,col,v⟩:=n
 have ht:tag=12∨tag=13∨tag=14∨tag=15∨tag=16∨tag=17∨tag=18∨tag=19∨tag=20∨tag=21∨tag=22∨tag=23:=by
  unfold pk at hk
  repeat' split at hk
  all_goals simp at hk
  rename_i h
  have h:12≤tag∧tag≤23:=h
  omega
 rcases ht with rfl|rfl|rfl|rfl|rfl|rfl|rfl|rfl|rfl|rfl|rfl|rfl<;>rcases hx with rfl|rfl|rfl|rfl<;>rcases hy with rfl|rfl|rfl|rfl<;>rfl
def kd(kinds:List Int):Tr→Option Int
 | .lf n=>if n.Tag=1 then some n.Value.Kind else some ((kinds[n.Col.toNat]?).getD 0)
 | .un n a=>(kd kinds a).bind fun x=>if(kn n.Tag x 0).2 then some (kn n.Tag x 0).1 else none
 | .bi n a b=>(kd kinds a).bind fun x=>(kd kinds b).bind fun y=>if(kn n.Tag x y).2 then some (kn n.Tag x y).1 else none
theorem Nt(kinds:List Int)(n:aU)(a:Tr):kd kinds (.un n a)=(kd kinds a).bind fun x=>if(kn n.Tag x 0).2 then some (kn n.Tag x 0).1 else none:=rfl
theorem Kb(kinds:List Int)(n:aU)(a b:Tr):kd kinds (.bi n a b)=(kd kinds a).bind fun x=>(kd kinds b).bind fun y=>if(kn n.Tag x y).2 then some (kn n.Tag x y).1 else none:=rfl
def Ev(m:Nat):Tr→Prop
 | .lf n=>n.Tag=2→n.Col<m
 | .un _ a=>Ev m a
 | .bi _ a b=>Ev m a∧Ev m b
theorem pk0{tag:Int}(h:pk tag=some 0):tag=1∨tag=2:=by
 unfold pk at h
 repeat' split at h
 all_goals simp at h
 assumption
theorem VL{n:aU}(h:F4 n=true)(ht:n.Tag=1):xJ n.Value=true:=by
 have h2:=iy n
 rw [h]at h2
 unfold k7 at h2
 rw [bm (by simp [ht]),rn]at h2
 simp at h2
 exact h2.1
theorem T7{n:aU}(h:F4 n=true)(ht:n.Tag=2):0≤n.Col∧n.Col<16:=by
 have h2:=iy n
 rw [h]at h2
 unfold k7 at h2
 rw [bg (by simp [ht]),bm (by simp [ht])]at h2
 simp at h2
 exact⟨h2.1.2,h2.2⟩
theorem Nu{kinds:List Int}(hk: ∀k∈kinds,k4 k): ∀(t:Tr),t.wf→ ∀{k},kd kinds t=some k→k4 k
 | .lf n,⟨h1,h2,_,_⟩,k,h=>by
  unfold kd at h
  split at h
  ·rename_i ht
   have:=GY (VL h2 ht)
   cases h;unfold k4;omega
  ·injection h with h
   subst h
   cases hc:kinds[n.Col.toNat]? with
   |none=>exact .inl rfl
   |some z=>exact hk z (qE hc)
 | .un n a,_,k,h=>by
  unfold kd at h
  cases ha:kd kinds a with
  |none=>rw [ha]at h;cases h
  |some x=>
   rw [ha,be]at h
   split at h
   ·cases h;exact QH ..
   ·cases h
 | .bi n a b,_,k,h=>by
  unfold kd at h
  cases ha:kd kinds a with
  |none=>rw [ha]at h;cases h
  |some x=>
   cases hb:kd kinds b with
   |none=>rw [ha,hb]at h;cases h
   |some y=>
    rw [ha,hb]at h
    simp only [be]at h
    split at h
    ·cases h;exact QH ..
    ·cases h
theorem IV(stack l:List Int)(h:stack.length+l.length≤100000):nj (stack++l) (l.length:Int)=some (l,stack):=by
 unfold nj bI
 have e:IntKind.i64.wrap (((stack++l).length:Int)-(l.length:Int))=(stack.length:Int):=by
  rw [jA,bP (by omega) (by omega)];omega
 rw [e,jE stack.length (stack++l).length rfl rfl (by simp) (dN _)]
 simp only [be,yj,F8 (dN _),List.drop_length,iv]
 rw [ca (by simp;omega)]
 simp only [be,iv]
 rw [jE (i:=0) 0 stack.length rfl rfl (gx _) (by simp)]
 simp
theorem G3(stack:List Int){b:Int}(h:b≠0):kN b stack=some (0,b):=by
 unfold kN;rw [bm (by simpa using h)]
theorem tg{tag:Int}{k:Nat}(h:pk tag=some k):pA tag=some (k:Int):=by
 rw [xd];unfold Fa;rw [h]
theorem Lo(kinds:List Int)(hk: ∀k∈kinds,k4 k)(t:Tr):t.wf→Ev kinds.length t→ ∀(s:Nat) (rest:List aU) (stack:List Int),stack.length+t.size≤50000→
  gq (ie kinds) (t.flat s++rest) 0 stack=match kd kinds t with
   |some k=>gq (ie kinds) rest 0 (stack++[k])
   |none=>some (0,201):=by
 induction t with
 |lf n=>
  intro⟨h1,h2,h3,h4⟩ hc s rest stack hl
  simp only [Tr.flat,Tr.size,zA,iv]at hl ⊢
  rw [gq]
  have e1:(fD n (-1) (-1)).Tag=n.Tag:=rfl
  rw [e1,tg h1]
  have h0:=IV stack [] (by simp;omega)
  simp only [yb,q7]at h0
  simp only [be]
  rw [h0]
  simp only [be]
  have hv:ie kinds (fD n (-1) (-1)) []=(kd kinds (.lf n)).map (fun k=>(k,(0:Int))):=by
   unfold ie kP kd
   simp only [e1]
   rcases pk0 h1 with ht|ht
   ·rw [bm (by simp [ht]),bm ht];rfl
   ·rw [bg (by simp [ht]),bm (by simp [ht]),bg (by simp [ht])]
    have hb:=T7 h2 ht
    have hm:n.Col<kinds.length:=hc ht
    have e2:(fD n (-1) (-1)).Col=n.Col:=rfl
    rw [e2,kj n.Col.toNat (by omega),pE (by omega)]
    rfl
  rw [hv]
  have: ∃k,kd kinds (.lf n)=some k:=by unfold kd;split<;>exact⟨_,rfl⟩
  obtain⟨k,hk1⟩:=this
  rw [hk1]
  simp only [Dt,be]
  rw [bg (by simp),ca (by simp;omega)]
  rfl
 |un n a ih=>
  intro⟨⟨h1,h2,h3,h4⟩,ha⟩ hc s rest stack hl
  simp only [Tr.flat,Tr.size,n6]at hl ⊢
  rw [Nt,ih ha hc s _ stack (by omega)]
  cases hx:kd kinds a with
  |none=>rfl
  |some x=>
   have hx4:=Nu hk a ha hx
   simp only [be,zA,iv]
   rw [gq]
   have e1:(fD n (((s+a.size:Nat):Int)-1) (-1)).Tag=n.Tag:=rfl
   rw [e1,tg h1]
   have h0:=IV stack [x] (by simp;omega)
   simp only [be]
   have e0:(([x]:List Int).length:Int)=((1:Nat):Int):=rfl
   rw [←e0,h0]
   simp only [be]
   rw [JI kinds _ x hx4 (by rw [e1];exact h1),e1]
   cases hb:(kn n.Tag x 0).2 with
   |true=>
    simp only [iE,be]
    rw [bg (by simp),ca (by simp;omega)]
    rfl
   |false=>
    simp only [mz,iM,be]
    rw [bm (by decide),G3 _ (by decide)]
 |bi n a b iha ihb=>
  intro⟨⟨h1,h2,h3,h4⟩,ha,hb⟩ ⟨hca,hcb⟩ s rest stack hl
  simp only [Tr.flat,Tr.size,n6]at hl ⊢
  rw [Kb,iha ha hca s _ stack (by omega)]
  cases hx:kd kinds a with
  |none=>rfl
  |some x=>
   have hx4:=Nu hk a ha hx
   simp only [be]
   rw [ihb hb hcb (s+a.size) _ (stack++[x]) (by have:=a.size_pos;simp;omega)]
   cases hy:kd kinds b with
   |none=>rfl
   |some y=>
    have hy4:=Nu hk b hb hy
    have hap:=a.size_pos
    simp only [be,zA,iv]
    rw [gq]
    have e1:(fD n (((s+a.size:Nat):Int)-1) (((s+a.size+b.size:Nat):Int)-1)).Tag=n.Tag:=rfl
    rw [e1,tg h1]
    have h0:=IV stack [x,y] (by simp;omega)
    simp only [be]
    have e0:(([x,y]:List Int).length:Int)=((2:Nat):Int):=rfl
    have e9:stack++[x]++[y]=stack++[x,y]:=by simp
    rw [←e0,e9,h0]
    simp only [be]
    rw [JH kinds _ x y hx4 hy4 (by rw [e1];exact h1),e1]
    cases hb:(kn n.Tag x y).2 with
    |true=>
     simp only [iE,be]
     rw [bg (by simp),ca (by simp;omega)]
     rfl
    |false=>
     simp only [mz,iM,be]
     rw [bm (by decide),G3 _ (by decide)]
theorem MR(kinds:List Int)(hk: ∀k∈kinds,k4 k)(t:Tr):t.wf→Ev kinds.length t→ ∀(rest:List aU) (own:List Int),own.length+t.size≤50000→
  (kd kinds t=none∧cW kinds (t.flat own.length++rest) own=some (0,201))∨
  (∃k w,kd kinds t=some k∧w.length+1=t.size∧cW kinds (t.flat own.length++rest) own=cW kinds rest (own++w++[k])):=by
 induction t with
 |lf n=>
  intro⟨h1,h2,h3,h4⟩ hc rest own hl
  simp only [Tr.flat,Tr.size,zA,iv]at hl ⊢
  refine .inr ?_
  have e1:(fD n (-1) (-1)).Tag=n.Tag:=rfl
  unfold kd
  rcases pk0 h1 with ht|ht
  ·refine⟨_,[],bm ht,rfl,?_⟩
   rw [cW]
   rw [e1,bm (by simp [ht]),ca (by simp;omega)]
   simp only [be,yb]
   rfl
  ·refine⟨_,[],bg (by simp [ht]),rfl,?_⟩
   have hb:=T7 h2 ht
   have hm:n.Col<kinds.length:=hc ht
   have e2:(fD n (-1) (-1)).Col=n.Col:=rfl
   rw [cW]
   rw [e1,bg (by simp [ht]),bm (by simp [ht]),e2,kj n.Col.toNat (by omega),pE (by omega)]
   simp only [be,yb,Option.getD_some]
   rw [ca (by simp;omega)]
   rfl
 |un n a ih=>
  intro⟨⟨h1,h2,h3,h4⟩,ha⟩ hc rest own hl
  have hap:=a.size_pos
  simp only [Tr.flat,Tr.size,n6]at hl ⊢
  rcases ih ha hc ([fD n (((own.length+a.size:Nat):Int)-1) (-1)]++rest) own (by omega)with⟨hx,he⟩|⟨x,w,hx,hw,he⟩
  ·exact .inl ⟨by rw [Nt,hx];rfl,by rw [he]⟩
  ·rw [he]
   rw [Nt,hx]
   simp only [be,zA,iv]
   have e1:(fD n (((own.length+a.size:Nat):Int)-1) (-1)).Tag=n.Tag:=rfl
   have n1:n.Tag≠1:=fun h=>by rw [h]at h1;simp [pk]at h1
   have n2:n.Tag≠2:=fun h=>by rw [h]at h1;simp [pk]at h1
   have hstep:cW kinds (fD n (((own.length+a.size:Nat):Int)-1) (-1)::rest) (own++w++[x])=if(kn n.Tag x 0).2 then cW kinds rest (own++w++[x]++[(kn n.Tag x 0).1])else some (0,201):=by
    rw [cW]
    rw [e1,bg (by simpa using n1),bg (by simpa using n2)]
    have eL:(fD n (((own.length+a.size:Nat):Int)-1) (-1)).L=((own.length+a.size:Nat):Int)-1:=rfl
    have eR:(fD n (((own.length+a.size:Nat):Int)-1) (-1)).R= -1:=rfl
    rw [eL,eR,kj (own++w).length (by simp;omega),o5 (dN _),tm]
    simp only [F7,be]
    rw [bg (by decide)]
    unfold pN
    rw [e1,wZ]
    simp only [be]
    cases hb:(kn n.Tag x 0).2 with
    |true=>
     simp only [nT,mz,iM,iE]
     rw [ca (by simp;omega)];rfl
    |false=>rfl
   rw [hstep]
   cases hb:(kn n.Tag x 0).2 with
   |true=>exact .inr ⟨(kn n.Tag x 0).1,w++[x],by simp,by simp;omega,by simp⟩
   |false=>exact .inl ⟨by simp,by simp⟩
 |bi n a b iha ihb=>
  intro⟨⟨h1,h2,h3,h4⟩,ha,hb⟩ ⟨hca,hcb⟩ rest own hl
  have hap:=a.size_pos
  have hbp:=b.size_pos
  simp only [Tr.flat,Tr.size,n6]at hl ⊢
  obtain⟨m,hm⟩: ∃m,m=fD n (((own.length+a.size:Nat):Int)-1) (((own.length+a.size+b.size:Nat):Int)-1):=⟨_,rfl⟩
  rw [←hm]
  rcases iha ha hca (b.flat (own.length+a.size)++([m]++rest)) own (by omega)with⟨hx,he⟩|⟨x,w,hx,hw,he⟩
  ·exact .inl ⟨by rw [Kb,hx];rfl,by rw [he]⟩
  ·rw [he]
   have hl2:(own++w++[x]).length=own.length+a.size:=by simp;omega
   rw [←hl2]
   rcases ihb hb hcb ([m]++rest) (own++w++[x]) (by rw [hl2];omega)with⟨hy,he2⟩|⟨y,w2,hy,hw2,he2⟩
   ·exact .inl ⟨by rw [Kb,hx,hy];rfl,by rw [he2]⟩
   ·rw [he2]
    rw [Kb,hx,hy]
    simp only [be,zA,iv]
    have e1:m.Tag=n.Tag:=by rw [hm];rfl
    have eL:m.L=((own.length+a.size:Nat):Int)-1:=by rw [hm];rfl
    have eR:m.R=((own.length+a.size+b.size:Nat):Int)-1:=by rw [hm];rfl
    have n1:n.Tag≠1:=fun h=>by rw [h]at h1;simp [pk]at h1
    have n2:n.Tag≠2:=fun h=>by rw [h]at h1;simp [pk]at h1
    have hstep:cW kinds (m::rest) (own++w++[x]++w2++[y])=if(kn n.Tag x y).2 then cW kinds rest (own++w++[x]++w2++[y]++[(kn n.Tag x y).1])else some (0,201):=by
     rw [cW]
     rw [e1,bg (by simpa using n1),bg (by simpa using n2)]
     rw [eL,eR,kj (own++w).length (by simp;omega)]
     have g1:(own++w++[x]++w2++[y])[(own++w).length]? =some x:=by
      rw [n6,n6,o5 (dN _),tm];rfl
     rw [g1]
     simp only [be]
     rw [bm (by rw [oV];omega),kj (own++w++[x]++w2).length (by simp;omega)]
     have g2:(own++w++[x]++w2++[y])[(own++w++[x]++w2).length]? =some y:=by
      rw [o5 (dN _),tm];rfl
     rw [g2]
     simp only [be]
     unfold pN
     rw [e1,wZ]
     simp only [be]
     cases hb:(kn n.Tag x y).2 with
     |true=>
      simp only [nT,mz,iM,iE]
      rw [ca (by simp;omega)];rfl
     |false=>rfl
    rw [hstep]
    cases hb:(kn n.Tag x y).2 with
    |true=>exact .inr ⟨(kn n.Tag x y).1,w++[x]++w2++[y],by simp,by simp;omega,by simp⟩
    |false=>exact .inl ⟨by simp,by simp⟩
def qA(m:Nat)(ns:List aU):Bool:=ns.all fun n=> !((n.Tag==2)&&decide ((m:Int)≤n.Col))
theorem HJ(m:Nat)(n:aU)(ns:List aU):qA m (n::ns)=(!((n.Tag==2)&&decide ((m:Int)≤n.Col))&&qA m ns):=rfl
theorem AV(m:Nat)(t:Tr):t.wf→ ∀s,qA m (t.flat s)=true→Ev m t:=by
 induction t with
 |lf n=>
  intro _ s h ht
  simp only [qA,Tr.flat,vc,List.all_nil,Bool.and_true]at h
  have e1:(fD n (-1) (-1)).Tag=n.Tag:=rfl
  have e2:(fD n (-1) (-1)).Col=n.Col:=rfl
  simp [e1,e2,ht]at h
  exact h
 |un n a ih=>
  intro⟨_,ha⟩ s h
  simp only [qA,Tr.flat,List.all_append,jD]at h
  exact ih ha s h.1
 |bi n a b iha ihb=>
  intro⟨_,ha,hb⟩ s h
  simp only [qA,Tr.flat,List.all_append,jD]at h
  exact⟨iha ha s h.1.1,ihb hb _ h.1.2⟩
def OJ(kinds:List Int):Bool:=kinds.all fun k=>decide (0≤k)&&decide (k≤3)
theorem Hp(k:Int)(ks:List Int):OJ (k::ks)=((decide (0≤k)&&decide (k≤3))&&OJ ks):=rfl
theorem Kc{kinds:List Int}(h:OJ kinds=true){k:Int}(hk:k∈kinds):k4 k:=by
 have:=mP.1 h k hk
 simp at this
 unfold k4;omega
def kK(e:aT)(kinds:List Int):Int×Int:=
 if fv e.Nodes then if OJ kinds then if qA kinds.length e.Nodes then match (np e.Nodes).bind (kd kinds)with
  |some k=>(k,0)
  |none=>(0,201)else(0,2)else(0,2)else(0,200)
theorem CT(e:aT)(kinds:List Int): ∀cs:List Int,lk e kinds cs=if cs.all (fun c=>decide (c<(kinds.length:Int)))then nc e (ie kinds)else some (0,2)
 |[]=>by
  unfold lk
  cases nc e (ie kinds)<;>rfl
 |c::cs=>by
  unfold lk
  rw [CT e kinds cs]
  by_cases h:(kinds.length:Int)≤c
  ·rw [bm (by simpa using h),bg (by simp;omega)]
  ·rw [bg (by simpa using h)]
   have:c<(kinds.length:Int):=by omega
   simp [this]
theorem uO(e:aT)(kinds:List Int)(hl:e.Nodes.length≤50000):q0 e kinds=some (kK e kinds):=by
 unfold q0 kK
 rw [pS e (by omega)]
 cases hr:fv e.Nodes with
 |false=>rfl
 |true=>
  simp only [iE,be]
  rw [bg (by decide)]
  have key: ∀ks:List Int,oK e kinds ks=if OJ ks then(tN e).bind (lk e kinds)else some (0,2):=by
   intro ks
   induction ks with
   |nil=>rfl
   |cons k ks ih=>
    unfold oK
    rw [ih]
    by_cases h:k<0∨3<k
    ·rw [bm (by simpa using h),bg (by simp [OJ];omega)]
    ·rw [bg (by simpa using h)]
     have h1:(decide (0≤k)&&decide (k≤3))=true:=by simp;omega
     rw [Hp,h1,vb]
  rw [key]
  cases hk:OJ kinds with
  |false=>rfl
  |true=>
   simp only [iE]
   obtain⟨cs,h1,h2⟩:=FN e hr
   rw [h1,be,CT]
   have hci:cs.all (fun c=>decide (c<(kinds.length:Int)))=qA kinds.length e.Nodes:=by
    rw [wM]
    simp only [mP,oV,qA,zB,Bool.and_eq_false_iff,beq_eq_false_iff_ne,BG]
    constructor
    ·intro h n hn
     by_cases ht:n.Tag=2
     ·exact .inr (by have:=h _ ((h2 n.Col).2 ⟨n,hn,ht,rfl⟩);omega)
     ·exact .inl ht
    ·intro h c hc
     obtain⟨n,hn,ht,rfl⟩:=(h2 c).1 hc
     rcases h n hn with h|h
     ·exact absurd ht h
     ·omega
   rw [hci]
   cases hc:qA kinds.length e.Nodes with
   |false=>rfl
   |true=>
    simp only [iE]
    cases ht:np e.Nodes with
    |none=>unfold fv at hr;rw [ht]at hr;cases hr
    |some t=>
     obtain⟨hw,hN,hs⟩:=nG ht
     have hct:=AV kinds.length t hw 0 (by rw [←hN];exact hc)
     have:=Lo kinds (fun k=>Kc hk) t hw hct 0 [] [] (by simp;omega)
     rw [yb,←hN]at this
     unfold nc
     rw [this]
     simp only [be]
     cases kd kinds t with
     |none=>rfl
     |some k=>rfl
theorem mY(e:aT)(kinds:List Int):rl e kinds=some (kK e kinds):=by
 unfold rl kK
 rw [Cg e]
 cases hr:fv e.Nodes with
 |false=>rfl
 |true=>
  simp only [iE,be,nT,mz,iM]
  have Ho: ∀ns:List aU,mX e kinds ns=if qA kinds.length ns then cW kinds e.Nodes []else some (0,2):=by
   intro ns
   induction ns with
   |nil=>rfl
   |cons n ns ih=>
    unfold mX
    rw [ih,HJ]
    cases ((n.Tag==2)&&decide ((kinds.length:Int)≤n.Col))<;>simp
  have key: ∀ks:List Int,pM e kinds ks=if OJ ks then mX e kinds e.Nodes else some (0,2):=by
   intro ks
   induction ks with
   |nil=>rfl
   |cons k ks ih=>
    unfold pM
    rw [ih]
    by_cases h:k<0∨3<k
    ·rw [bm (by simpa using h),bg (by simp [OJ];omega)]
    ·rw [bg (by simpa using h)]
     have h1:(decide (0≤k)&&decide (k≤3))=true:=by simp;omega
     rw [Hp,h1,vb]
  rw [key,Ho]
  cases hk:OJ kinds with
  |false=>rfl
  |true=>
   cases hc:qA kinds.length e.Nodes with
   |false=>rfl
   |true=>
    simp only [iE]
    cases ht:np e.Nodes with
    |none=>unfold fv at hr;rw [ht]at hr;cases hr
    |some t=>
     obtain⟨hw,hN,hs⟩:=nG ht
     have hct:=AV kinds.length t hw 0 (by rw [←hN];exact hc)
     have:=MR kinds (fun k=>Kc hk) t hw hct [] [] (by simp;omega)
     rw [yb,q7,←hN]at this
     simp only [be]
     rcases this with⟨h1,h2⟩|⟨k,w,h1,h2,h3⟩
     ·rw [h1,h2]
     ·rw [h1,h3]
      unfold cW
      have hls:t.size≤1000:=hs
      rw [iv,kj w.length (by rw [bP (by simp<;>omega) (by simp<;>omega)];simp),o5 (dN _),tm]
      rfl
def Qs(n:aU):Bool:=n.Tag==4||decide (12≤n.Tag)&&decide (n.Tag≤15)
theorem C9(e:aT):rk e=some (!(e.Nodes.any Qs)):=by
 unfold rk
 have key: ∀ns:List aU,pJ ns=some (!(ns.any Qs)):=by
  intro ns
  induction ns with
  |nil=>rfl
  |cons n ns ih=>
   unfold pJ
   rw [ih,vf]
   have:(n.Tag==4||decide (12≤n.Tag)&&decide (n.Tag≤15))=Qs n:=rfl
   rw [this]
   cases Qs n<;>rfl
 exact key e.Nodes

variable{α:Type}{xs:List α}
theorem im{tl:List α}{y:α}(h:xs.drop i=y::tl):cK xs (i:Int)=some y∧i<xs.length∧xs.drop (i+1)=tl:=by
 have hi:i<xs.length:=by
  rcases jM i xs.length with h1|h1
  ·exact h1
  ·rw [zD h1]at h;cases h
 rw [pW hi]at h
 injection h with h1 h2
 exact⟨by rw [cg,pE hi,h1],hi,h2⟩
theorem zc(h:xs.drop i=[]):xs.length≤i:=ye.1 h
theorem tU{f:kT→Option Bool}{g:kT→Bool}(hf: ∀v,f v=some (g v)): ∀(l:List kT) (i:Nat),∃j:Int,dh f l i=some j∧decide (0≤j)=l.any g
 |[],i=>⟨-1,rfl,rfl⟩
 |e::l,i=>by
  unfold dh
  rw [hf,be]
  cases h:g e with
  |true=>exact⟨(i:Int),by simp,by simp [h]⟩
  |false=>
   obtain⟨j,h1,h2⟩:=tU hf l (i+1)
   exact⟨j,by simpa using h1,by rw [h2];simp [h]⟩
theorem wT{f:kT→Option Bool}{g:kT→Bool}(hf: ∀v,f v=some (g v))(l:List kT):d2 l f=some (l.any g):=by
 unfold d2 gA
 obtain⟨j,h1,h2⟩:=tU hf l 0
 rw [h1,be,h2]
theorem qU(l:List Int)(h:l.length≤68719476736):bI l=some l:=by
 unfold bI
 rw [ca (by simpa using h)];rfl
theorem Qy(n:Int)(h0:0≤n)(h:n≤68719476736):kq n=some []:=by
 unfold kq k6
 rw [bg (by simp;omega)]
 have e:IntKind.i64.wrap (n-IntKind.i64.wrap ((0:Int)-0))=n:=by
  rw [bP (n:=(0:Int)-0) (by omega) (by omega),bP (by omega) (by omega)];omega
 rw [e]
 by_cases hp:0<n
 ·rw [bm (by simpa using hp)]
  unfold Vp ub
  rw [bm hp]
  simp only [be]
  rw [bm ⟨h0,h⟩]
  simp only [be]
  rw [show d6 (List.replicate n.toNat (0:Int)) 0 0=some []from by unfold d6;rw [bm (by simp;omega)];simp]
  rfl
 ·rw [bg (by simpa using hp)];rfl
theorem JJ(a b:List Int)(ha:a.length≤8000)(hb:b.length≤8000):gM [a,b]=some (a++b):=by
 unfold gM
 simp only [gZ]
 rw [bP (n:=(0:Int)+(a.length:Int)) (by omega) (by omega),bg (by simp),bP (by omega) (by omega),bg (by simp;omega),Qy _ (by omega) (by omega)]
 simp only [be,gY]
 rw [ca (by simp;omega)]
 simp only [be,iv]
 rw [ca (by omega)]
 rfl
structure iD(n:M):Prop where
 cond:n.Cond.Nodes.length≤5000
 kinds:n.Kinds.length≤5000
 keys:n.Keys.length≤5000
 aggs:n.Aggs.length≤5000
 items:n.Items.length≤5000
 order:n.Order.length≤5000
 args: ∀g∈n.Aggs,g.Arg.Nodes.length≤5000
 exprs: ∀e∈n.Items,e.Nodes.length≤5000
def Im(e:aT)(kinds:List Int):Bool:=(kK e kinds).2==0&&((kK e kinds).1==1||(kK e kinds).1==0)
theorem vP(e:aT)(kinds:List Int)(h:e.Nodes.length≤5000):qj e kinds=some (Im e kinds):=by
 unfold qj
 rw [uO e kinds (by omega)]
 rfl
theorem mh(e:aT)(kinds:List Int):sl e kinds=some (Im e kinds):=by
 unfold sl Im
 rw [mY e kinds]
 simp only [be,Bool.or_comm]
def Mb(a:gF)(kinds:List Int):Int×Bool:=
 if a.Tag=1 then(2,a.Arg.Nodes.length==0)else if a.Tag=2 then(2,(kK a.Arg kinds).2==0)else if a.Tag=3 then(2,(kK a.Arg kinds).2==0&&((kK a.Arg kinds).1==2||(kK a.Arg kinds).1==0))else if a.Tag=4∨a.Tag=5 then((kK a.Arg kinds).1,(kK a.Arg kinds).2==0)else(0,false)
theorem J8(n:Nat):((n:Int)==0)=(n==0):=by rw [wM];simp
theorem Fl(a:gF)(kinds:List Int)(h:a.Arg.Nodes.length≤5000):wB a kinds=some (Mb a kinds):=by
 unfold wB Mb qQ
 by_cases h1:a.Tag=1
 ·rw [bm (by simp [h1]),bm h1,J8]
 rw [bg (by simpa using h1),bg h1,uO _ _ (by omega)]
 simp only [be]
 by_cases h2:a.Tag=2
 ·rw [bm (by simp [h2]),bm h2]
 rw [bg (by simpa using h2),bg h2]
 by_cases h3:a.Tag=3
 ·rw [bm (by simp [h3]),bm h3]
 rw [bg (by simpa using h3),bg h3]
 by_cases h4:a.Tag=4
 ·rw [bm (by simp [h4]),bm (by simp [h4]),bm (.inl h4)]
 rw [bg (by simpa using h4)]
 by_cases h5:a.Tag=5
 ·rw [bm (by simp [h5]),bm (.inr h5)]
 rw [bg (by simpa using h5),bg (by omega)]
def Jz(a:gF)(kinds:List Int):Int×Bool:=(lB a kinds).getD (0,false)
theorem rh(a:gF)(kinds:List Int):lB a kinds=some (Jz a kinds):=by
 unfold Jz lB
 rw [mY]
 simp only [be]
 repeat' split
 all_goals rfl
theorem FT(a:gF)(kinds:List Int):(Mb a kinds).2=(Jz a kinds).2∧((Mb a kinds).2=true→(Mb a kinds).1=(Jz a kinds).1):=by
 unfold Jz lB Mb
 rw [mY]
 simp only [be]
 by_cases h1:a.Tag=1
 ·simp [h1,J8]
 by_cases h2:a.Tag=2
 ·by_cases he:(kK a.Arg kinds).2=0<;>simp [h2,he]
 by_cases h3:a.Tag=3
 ·by_cases he:(kK a.Arg kinds).2=0
  ·by_cases h0:(kK a.Arg kinds).1=0
   ·simp [h3,he,h0]
   ·by_cases h02:(kK a.Arg kinds).1=2<;>simp [h3,he,h0,h02]
  ·simp [h3,he]
 by_cases h4:a.Tag=4
 ·by_cases he:(kK a.Arg kinds).2=0<;>simp [h4,he]
 by_cases h5:a.Tag=5
 ·by_cases he:(kK a.Arg kinds).2=0<;>simp [h5,he]
 have:a.Tag<1∨5<a.Tag:=by omega
 simp [h1,h2,h3,h4,h5,this]
def zn(p:Option (List Int×Bool))(q:Option (List Int×Bool))(last:Bool):Prop:=
 ∃k o k',p=some (k,o&&last)∧q=some (k',o)∧(o=true→k=k')
theorem DW(c:aq)(n:M)(a b:List Int)(hn:iD n)(hop:n.Op=1):zn (ff c n) (bM n a b) true:=by
 have h:=hn.kinds
 have key: ∀(tl:List Int) (i:Nat) (fu:Nat) (ok:Bool),n.Kinds.drop i=tl→tl.length<fu→eZ n fu ok (i:Int)=some (n.Kinds,((((ok&&tl.all fun k=>decide (1≤k)&&decide (k≤3))&&(decide ((0:Int)≤n.Table)))&&(decide (n.Table≤(3:Int))))&&(decide ((1:Int)≤(n.Kinds.length:Int))))&&(decide ((n.Kinds.length:Int)≤(4:Int)))):=by
  intro tl
  induction tl with
  |nil=>
   intro i fu ok hd hf
   obtain⟨fu,rfl⟩: ∃k,fu=k+1:=⟨fu-1,by omega⟩
   have:=zc hd
   rw [eZ,bg (by simp;omega)]
   simp
  |cons x tl ih=>
   intro i fu ok hd hf
   simp only [gJ]at hf
   obtain⟨fu,rfl⟩: ∃k,fu=k+1:=⟨fu-1,by omega⟩
   obtain⟨h1,h2,h3⟩:=im hd
   rw [eZ,bm (by simp;omega),h1,bP (by omega) (by omega)]
   simp only [be]
   have e:((i:Int)+1)=((i+1:Nat):Int):=by omega
   rw [e]
   have e2:((if ok=true then some (decide ((1:Int)≤x))else some false).bind fun t=>(if t=true then some (decide (x≤(3:Int)))else some false).bind fun t1=>eZ n fu t1 ((i+1:Nat):Int))=eZ n fu (ok&&(decide (1≤x)&&decide (x≤3))) ((i+1:Nat):Int):=by
    cases ok<;>by_cases hx:(1:Int)≤x<;>simp [hx]
   rw [e2,ih (i+1) fu _ h3 (by omega)]
   simp only [vc,Dr]
 have hr:bM n a b=eZ n dj true (0:Int):=by unfold bM;rw [bm (by simp [hop])]
 rw [hr,show((0:Int))=((0:Nat):Int)from rfl,key n.Kinds 0 dj true rfl (u4 (A4 _) (lh (by omega)))]
 unfold ff
 have hc:dF n.Kinds jW=some (n.Kinds.any fun k=> !(((k==(1:Int))||(k==(2:Int)))||(k==(3:Int)))):=qD (fun v=>rfl) _
 rw [hc]
 simp only [be]
 have e3:(!(n.Kinds.any fun k=> !(((k==(1:Int))||(k==(2:Int)))||(k==(3:Int)))))=n.Kinds.all fun k=>decide (1≤k)&&decide (k≤3):=by
  rw [List.not_any_eq_all_not]
  congr 1
  funext k
  rw [Bool.not_not,wM]
  simp;omega
 rw [e3]
 refine⟨n.Kinds,_,n.Kinds,?_,rfl,fun _=>rfl⟩
 cases h4:(n.Kinds.all fun k=>decide (1≤k)&&decide (k≤3))<;>by_cases t1:0≤n.Table<;>by_cases t2:n.Table<4<;>by_cases l1:(1:Int)≤(n.Kinds.length:Int)<;>by_cases l2:(n.Kinds.length:Int)≤4<;>simp [t1,t2,l1,l2]<;>omega
theorem LC(c:aq)(n:M)(a b:List Int)(hn:iD n)(hop:n.Op=2)(ha:cK c.kinds n.A=some a)(hb:cK c.kinds n.B=some b)(hal:a.length≤16)(hbl:b.length≤16):zn (gk c n) (bM n a b) true:=by
 unfold gk bM
 rw [ha,hb,bg (by simp [hop]),bm (by simp [hop])]
 simp only [be]
 rw [JJ _ _ (by omega) (by omega),ca (by simp;omega)]
 simp only [be,iv]
 rw [ca (by omega)]
 simp only [be]
 rw [vP _ _ hn.cond,mh]
 exact⟨_,Im n.Cond (a++b),_,by simp,rfl,fun _=>rfl⟩
theorem HA(c:aq)(n:M)(a b:List Int)(hn:iD n)(hop:n.Op=3)(ha:cK c.kinds n.A=some a):zn (fg c n) (bM n a b) true:=by
 unfold fg bM
 rw [ha,bg (by simp [hop]),bg (by simp [hop]),bm (by simp [hop])]
 simp only [be]
 rw [vP _ _ hn.cond,mh]
 exact⟨_,Im n.Cond a,_,by simp,rfl,fun _=>rfl⟩
theorem Dk(c:aq)(n:M)(a b:List Int)(hop:n.Op=6)(ha:cK c.kinds n.A=some a):zn (em c n) (bM n a b) true:=by
 unfold em bM
 rw [ha,bg (by simp [hop]),bg (by simp [hop]),bg (by simp [hop]),bg (by simp [hop]),bg (by simp [hop]),bm (by simp [hop])]
 exact⟨_,true,_,rfl,rfl,fun _=>rfl⟩
theorem E9(c:aq)(n:M)(a b:List Int)(hn:iD n)(hop:n.Op=5)(ha:cK c.kinds n.A=some a):zn (eM c n) (bM n a b) true:=by
 have h:=hn.items
 have hr:bM n a b=ez n a dj [] true (0:Int):=by unfold bM;rw [bg (by simp [hop]),bg (by simp [hop]),bg (by simp [hop]),bg (by simp [hop]),bm (by simp [hop])]
 have key: ∀(tl:List aT) (i:Nat) (fu:Nat) (out:List Int) (ok:Bool),n.Items.drop i=tl→i+tl.length=n.Items.length→tl.length<fu→out.length=i→ez n a fu out ok (i:Int)=some (out++tl.map (fun e=>(kK e a).1),((ok&&tl.all fun e=>(kK e a).2==0)&&(decide ((1:Int)≤(n.Items.length:Int))))&&(decide ((n.Items.length:Int)≤(16:Int)))):=by
  intro tl
  induction tl with
  |nil=>
   intro i fu out ok hd hi hf ho
   obtain⟨fu,rfl⟩: ∃k,fu=k+1:=⟨fu-1,by omega⟩
   simp only [q7,zx]at hi
   rw [ez,bg (by simp;omega)]
   simp [ho,hi]
  |cons x tl ih=>
   intro i fu out ok hd hi hf ho
   simp only [gJ]at hf hi
   obtain⟨fu,rfl⟩: ∃k,fu=k+1:=⟨fu-1,by omega⟩
   obtain⟨h1,h2,h3⟩:=im hd
   rw [ez,bm (by simp;omega),h1]
   simp only [be]
   rw [mY]
   simp only [be]
   rw [ca (by simp;omega),bP (by omega) (by omega)]
   simp only [be]
   have e:((i:Int)+1)=((i+1:Nat):Int):=by omega
   rw [e,ih (i+1) fu _ _ h3 (by omega) (by omega) (by simp [ho])]
   simp [Dr]
 rw [hr,show((0:Int))=((0:Nat):Int)from rfl,key n.Items 0 dj [] true rfl (by simp) (u4 (A4 _) (lh (by omega))) rfl]
 unfold eM
 have Ho: ∀(tl:List aT) (out:List Int) (ok:Bool),(∀e∈tl,e.Nodes.length≤5000)→out.length+tl.length≤5000→eG c n tl out ok=some (out++tl.map (fun e=>(kK e a).1),ok&&tl.all fun e=>(kK e a).2==0):=by
  intro tl
  induction tl with
  |nil=>intro out ok _ _;simp [eG]
  |cons x tl ih=>
   intro out ok he hl
   simp only [gJ]at hl
   rw [eG,ha]
   simp only [be]
   rw [uO _ _ (by have:=he x (nm ..);omega)]
   simp only [be]
   rw [ca (by simp;omega)]
   simp only [be]
   rw [ih _ _ (fun e h=>he e (nE _ h)) (by simp;omega)]
   simp [Dr]
 rw [Ho n.Items [] _ hn.exprs (by simp;omega)]
 refine⟨_,_,_,?_,rfl,fun _=>rfl⟩
 simp only [Bool.and_true,vb]
 congr 2
 cases (n.Items.all fun e=>(kK e a).2==0)<;>simp
def RP(a:List Int)(e:Int):Int:=(a[e.toNat]?).getD 0
def Fc(a:List Int)(e:Int):Bool:=decide (e<0)||decide ((a.length:Int)≤e)
theorem ND{a:List Int}{e:Int}(h:Fc a e=false):cK a e=some (RP a e):=by
 simp [Fc]at h
 rw [kj e.toNat (by omega),pE (by omega)]
 unfold RP
 rw [pE (by omega)];rfl
theorem I7(c:aq)(n:M)(a b:List Int)(hn:iD n)(hop:n.Op=4)(ha:cK c.kinds n.A=some a):zn (fT c n) (bM n a b) true:=by
 have hK:=hn.keys
 have hA:=hn.aggs
 have hr:bM n a b=dp n a dj [] (0:Int):=by unfold bM;rw [bg (by simp [hop]),bg (by simp [hop]),bg (by simp [hop]),bm (by simp [hop])]
 have TC: ∀(tl:List gF) (i:Nat) (fu:Nat) (out:List Int) (ok:Bool),n.Aggs.drop i=tl→i+tl.length=n.Aggs.length→tl.length<fu→out.length≤5000+i→cY n a fu out ok (i:Int)=some (out++tl.map (fun e=>(Jz e a).1),(((ok&&tl.all fun e=>(Jz e a).2)&&(decide ((n.Keys.length:Int)≤(3:Int))))&&(decide ((n.Aggs.length:Int)≤(12:Int))))&&(decide ((0:Int)<((out.length+tl.length:Nat):Int)))):=by
  intro tl
  induction tl with
  |nil=>
   intro i fu out ok hd hi hf ho
   obtain⟨fu,rfl⟩: ∃k,fu=k+1:=⟨fu-1,by omega⟩
   simp only [q7,zx]at hi
   rw [cY,bg (by simp;omega)]
   simp
  |cons x tl ih=>
   intro i fu out ok hd hi hf ho
   simp only [gJ]at hf hi
   obtain⟨fu,rfl⟩: ∃k,fu=k+1:=⟨fu-1,by omega⟩
   obtain⟨h1,h2,h3⟩:=im hd
   rw [cY,bm (by simp;omega),h1]
   simp only [be]
   rw [rh]
   simp only [be]
   rw [ca (by simp;omega),bP (by omega) (by omega)]
   simp only [be]
   have e:((i:Int)+1)=((i+1:Nat):Int):=by omega
   rw [e,ih (i+1) fu _ _ h3 (by omega) (by omega) (by simp;omega)]
   simp only [wL,vc,Dr,n6,jA,gJ,q7,zA,iv]
   rw [show out.length+(0+1)+tl.length=out.length+(tl.length+1)from by omega]
 have Ho: ∀(tl:List Int) (i:Nat) (fu:Nat) (out:List Int),n.Keys.drop i=tl→i+tl.length=n.Keys.length→tl.length<fu→out.length=i→dp n a fu out (i:Int)=if tl.any (Fc a)then some ([],false)else cY n a dj (out++tl.map (RP a)) true 0:=by
  intro tl
  induction tl with
  |nil=>
   intro i fu out hd hi hf ho
   obtain⟨fu,rfl⟩: ∃k,fu=k+1:=⟨fu-1,by omega⟩
   simp only [q7,zx]at hi
   rw [dp,bg (by simp;omega)]
   simp
  |cons x tl ih=>
   intro i fu out hd hi hf ho
   simp only [gJ]at hf hi
   obtain⟨fu,rfl⟩: ∃k,fu=k+1:=⟨fu-1,by omega⟩
   obtain⟨h1,h2,h3⟩:=im hd
   rw [dp,bm (by simp;omega),h1]
   simp only [be]
   cases hx:Fc a x with
   |true=>
    have hx' :(decide (x<0)||decide ((a.length:Int)≤x))=true:=hx
    rw [bm hx',bm (by simp [hx])]
   |false=>
    have hx' : ¬(decide (x<0)||decide ((a.length:Int)≤x))=true:=by rw [show(decide (x<0)||decide ((a.length:Int)≤x))=Fc a x from rfl,hx];decide
    rw [bg hx',ND hx]
    simp only [be]
    rw [ca (by simp;omega),bP (by omega) (by omega)]
    simp only [be]
    have e:((i:Int)+1)=((i+1:Nat):Int):=by omega
    rw [e,ih (i+1) fu _ h3 (by omega) (by omega) (by simp [ho])]
    simp [hx]
 rw [hr,show((0:Int))=((0:Nat):Int)from rfl,Ho n.Keys 0 dj [] rfl (by simp) (u4 (A4 _) (lh (by omega))) rfl]
 rw [show((0:Int))=((0:Nat):Int)from rfl,TC n.Aggs 0 dj _ true rfl (by simp) (u4 (A4 _) (lh (by omega))) (by simp;omega)]
 unfold fT
 rw [ha,bP (by omega) (by omega)]
 simp only [be]
 have hp:qO n.Keys a=some (!(n.Keys.any (Fc a))):=by
  unfold qO
  rw [qD (f:=oE a) (g:=Fc a) (fun v=>rfl)]
  rfl
 rw [hp]
 simp only [be,iv,List.length_map]
 have kl: ∀(tl:List gF) (out:List Int) (ok:Bool),(∀e∈tl,e.Arg.Nodes.length≤5000)→out.length+tl.length≤10000→ek a tl out ok=some (out++tl.map (fun e=>(Mb e a).1),ok&&tl.all fun e=>(Mb e a).2):=by
  intro tl
  induction tl with
  |nil=>intro out ok _ _;simp [ek]
  |cons x tl ih=>
   intro out ok he hl
   simp only [gJ]at hl
   rw [ek,Fl _ _ (he x (nm ..))]
   simp only [be]
   rw [ca (by simp;omega)]
   simp only [be]
   rw [ih _ _ (fun e h=>he e (nE _ h)) (by simp;omega)]
   simp [Dr]
 have kl1: ∀(t:Bool) (tl out:List Int),tl.any (Fc a)=false→out.length+tl.length≤5000→fG n a t tl out=ek a n.Aggs (out++tl.map (RP a)) t:=by
  intro t tl
  induction tl with
  |nil=>intro out _ _;simp [fG]
  |cons x tl ih=>
   intro out ho hl
   simp only [gJ]at hl
   simp only [vf,Gb]at ho
   rw [fG,ND ho.1]
   simp only [be]
   rw [ca (by simp;omega)]
   simp only [be]
   rw [ih _ ho.2 (by simp;omega)]
   simp
 have hall:(n.Aggs.all fun e=>(Mb e a).2)=n.Aggs.all fun e=>(Jz e a).2:=by
  congr 1;funext e;exact(FT e a).1
 have hmap:(n.Aggs.all fun e=>(Mb e a).2)=true→n.Aggs.map (fun e=>(Mb e a).1)=n.Aggs.map fun e=>(Jz e a).1:=by
  intro h
  exact Ga fun e he=>(FT e a).2 (mP.1 h e he)
 cases hany:n.Keys.any (Fc a)with
 |true=>exact⟨[],false,[],by simp,by simp,fun _=>rfl⟩
 |false=>
  by_cases hb:((n.Keys.length≤3∧n.Aggs.length≤12)∧0<n.Keys.length+n.Aggs.length)
  ·have hb' :(((decide ((n.Keys.length:Int)≤(3:Int)))&&(decide ((n.Aggs.length:Int)≤(12:Int))))&&(decide ((0:Int)<(n.Keys.length:Int)+(n.Aggs.length:Int))))=true:=by simp;omega
   simp only [hb',iE,vg,nT,mz,iM,be]
   rw [kl1 true n.Keys [] hany (by simp;omega),kl n.Aggs _ true hn.args (by simp;omega)]
   refine⟨n.Keys.map (RP a)++n.Aggs.map (fun e=>(Mb e a).1),n.Aggs.all fun e=>(Jz e a).2,n.Keys.map (RP a)++n.Aggs.map (fun e=>(Jz e a).1),by simp [hall],?_,fun h=>?_⟩
   ·have h1:(decide ((n.Keys.length:Int)≤(3:Int)))=true:=by simp;omega
    have h2:(decide ((n.Aggs.length:Int)≤(12:Int)))=true:=by simp;omega
    have h3:(decide ((0:Int)<((n.Keys.length+n.Aggs.length:Nat):Int)))=true:=by simp;omega
    simp only [h1,h2,h3,Bool.and_true,vb]
   ·rw [hmap (by rw [hall];exact h)]
  ·have hb' :(((decide ((n.Keys.length:Int)≤(3:Int)))&&(decide ((n.Aggs.length:Int)≤(12:Int))))&&(decide ((0:Int)<(n.Keys.length:Int)+(n.Aggs.length:Int))))=false:=by rw [yk];simp;omega
   simp only [hb',iE,vg,mz,iM,be]
   refine⟨[],false,n.Keys.map (RP a)++n.Aggs.map (fun e=>(Jz e a).1),by simp,?_,by simp⟩
   have:((((true&&n.Aggs.all fun e=>(Jz e a).2)&&(decide ((n.Keys.length:Int)≤(3:Int))))&&(decide ((n.Aggs.length:Int)≤(12:Int))))&&(decide ((0:Int)<((n.Keys.length+n.Aggs.length:Nat):Int))))=false:=by rw [yk];simp;omega
   rw [this]
def Mz(x y:Int):Int:=if x=0 then y else x
def Gq(p:Int×Int):Bool:=(p.2==Mz p.1 p.2)||p.2==0
theorem Il(c:aq)(n:M)(a b:List Int)(hop:n.Op=7)(ha:cK c.kinds n.A=some a)(hb:cK c.kinds n.B=some b)(hal:a.length≤16):zn (fR c n) (bM n a b) true:=by
 unfold fR bM
 rw [ha,hb,bg (by simp [hop]),bg (by simp [hop]),bg (by simp [hop]),bg (by simp [hop]),bg (by simp [hop]),bg (by simp [hop]),bm (by simp [hop])]
 simp only [be]
 by_cases hl:a.length=b.length
 ·rw [bg (by simp;omega),bg (by simp;omega),qU _ (by omega)]
  simp only [be]
  have kc: ∀(tl pre suf:List Int) (ok:Bool),suf.length=tl.length→de tl pre.length (pre++suf) ok=some (pre++List.zipWith Mz suf tl,ok&&(suf.zip tl).all Gq):=by
   intro tl
   induction tl with
   |nil=>
    intro pre suf ok h
    have:suf=[]:=tp h
    subst this
    simp [de]
   |cons y tl ih=>
    intro pre suf ok h
    cases suf with
    |nil=>simp at h
    |cons x suf=>
     simp only [gJ,Nat.add_right_cancel_iff]at h
     rw [de,cg,o5 (dN _),tm]
     simp only [F7,be]
     have step: ∀(z:Int),gD (de tl) pre.length y ok (pre++z::suf)=some (pre++z::List.zipWith Mz suf tl,ok&&((z==y||y==0)&&(suf.zip tl).all Gq)):=by
      intro z
      unfold gD
      rw [cg,o5 (dN _),tm]
      simp only [F7,be]
      have e1:pre++z::suf=(pre++[z])++suf:=by simp
      have e2:pre.length+1=(pre++[z]).length:=by simp
      cases ok with
      |true=>
       simp only [iE,be,vb]
       rw [e1,e2,ih (pre++[z]) suf _ h]
       simp
      |false=>
       simp only [mz,iM,be,Dq]
       rw [e1,e2,ih (pre++[z]) suf _ h]
       simp
     by_cases hx:x=0
     ·subst hx
      rw [bm (by simp)]
      have e3:(pre++(0:Int)::suf).set ((pre.length:Int)).toNat y=pre++y::suf:=by
       rw [wN,Ge _ _ (dN _),tm];rfl
      rw [e3]
      refine(step y).trans ?_
      simp [Gq,Mz]
     ·rw [bg (by simpa using hx),step x]
      have:Mz x y=x:=by unfold Mz;rw [bg hx]
      simp only [List.zipWith_cons_cons,List.zip_cons_cons,vc,Gq,this]
      have e4:(y==x)=(x==y):=by rw [wM,tq,tq];exact eq_comm
      rw [e4]
  have kr: ∀(tl tb:List Int) (i:Nat) (out:List Int) (ok:Bool),b.drop i=tb→tl.length=tb.length→out.length+tl.length≤1000→jq b tl i out ok=some (out++List.zipWith Mz tl tb,ok&&(tl.zip tb).all Gq):=by
   intro tl
   induction tl with
   |nil=>
    intro tb i out ok hd h _
    have:tb=[]:=tp h.symm
    subst this
    simp [jq]
   |cons x tl ih=>
    intro tb i out ok hd h hm
    cases tb with
    |nil=>simp at h
    |cons y tb=>
     simp only [gJ,Nat.add_right_cancel_iff]at h hm
     obtain⟨h1,h2,h3⟩:=im hd
     rw [jq,h1]
     simp only [be]
     have step: ∀z:Int,ot b (jq b tl) i out ok z=some (out++z::List.zipWith Mz tl tb,ok&&((y==z||y==0)&&(tl.zip tb).all Gq)):=by
      intro z
      unfold ot
      rw [ca (by simp;omega),h1]
      simp only [be]
      cases ok with
      |true=>
       simp only [iE,be,vb]
       cases hyz:y==z with
       |true=>
        simp only [nT,mz,iM,be]
        rw [ih tb (i+1) _ _ h3 h (by simp;omega)]
        simp
       |false=>
        simp only [vg,iE,be]
        rw [ih tb (i+1) _ _ h3 h (by simp;omega)]
        simp
      |false=>
       simp only [mz,iM,be,Dq]
       rw [ih tb (i+1) _ _ h3 h (by simp;omega)]
       simp
     by_cases hx:x=0
     ·subst hx
      rw [bm (by simp),step y]
      simp [Gq,Mz]
     ·rw [bg (by simpa using hx),step x]
      have:Mz x y=x:=by unfold Mz;rw [bg hx]
      simp only [List.zipWith_cons_cons,List.zip_cons_cons,vc,Gq,this]
  have h1:=kc b [] a true hl
  rw [q7,iv]at h1
  rw [h1,kr a b 0 [] true rfl hl (by simp;omega)]
  exact⟨_,_,_,by rw [Bool.and_true],rfl,fun _=>rfl⟩
 ·rw [bm (by simp;omega),bm (by simp;omega)]
  exact⟨[],false,[],rfl,rfl,fun _=>rfl⟩
theorem IY(c:aq)(n:M)(a b:List Int)(hn:iD n)(hop:n.Op=8)(ha:cK c.kinds n.A=some a):zn (fS c n) (bM n a b) ((c.kinds.length:Int)==IntKind.i64.wrap ((c.Logic.Nodes.length:Int)-(1:Int))):=by
 have h:=hn.order
 have hr:bM n a b=eY n a dj true (0:Int):=by unfold bM;rw [bg (by simp [hop]),bg (by simp [hop]),bg (by simp [hop]),bg (by simp [hop]),bg (by simp [hop]),bg (by simp [hop]),bg (by simp [hop])]
 have key: ∀(tl:List kT) (i:Nat) (fu:Nat) (ok:Bool),n.Order.drop i=tl→i+tl.length=n.Order.length→tl.length<fu→eY n a fu ok (i:Int)=some (a,((((ok&&tl.all fun e=>decide (0≤e.Col)&&decide (e.Col<(a.length:Int)))&&(decide ((n.Order.length:Int)≤(3:Int))))&&(decide ((-1:Int)≤n.Limit)))&&(decide (n.Limit≤(2147483647:Int))))):=by
  intro tl
  induction tl with
  |nil=>
   intro i fu ok hd hi hf
   obtain⟨fu,rfl⟩: ∃k,fu=k+1:=⟨fu-1,by omega⟩
   simp only [q7,zx]at hi
   rw [eY,bg (by simp;omega)]
   simp
  |cons x tl ih=>
   intro i fu ok hd hi hf
   simp only [gJ]at hf hi
   obtain⟨fu,rfl⟩: ∃k,fu=k+1:=⟨fu-1,by omega⟩
   obtain⟨h1,h2,h3⟩:=im hd
   rw [eY,bm (by simp;omega),h1,bP (by omega) (by omega)]
   simp only [be]
   have e:((i:Int)+1)=((i+1:Nat):Int):=by omega
   rw [e]
   have e2:((if ok=true then some (decide ((0:Int)≤x.Col))else some false).bind fun t=>(if t=true then some (decide (x.Col<(a.length:Int)))else some false).bind fun t1=>eY n a fu t1 ((i+1:Nat):Int))=eY n a fu (ok&&(decide (0≤x.Col)&&decide (x.Col<(a.length:Int)))) ((i+1:Nat):Int):=by
    cases ok<;>by_cases hx:(0:Int)≤x.Col<;>simp [hx]
   rw [e2,ih (i+1) fu _ h3 (by omega) (by omega)]
   simp only [vc,Dr]
 rw [hr,show((0:Int))=((0:Nat):Int)from rfl,key n.Order 0 dj true rfl (by simp) (u4 (A4 _) (lh (by omega)))]
 unfold fS
 rw [ha]
 simp only [be]
 rw [wT (f:=jz a) (g:=fun o=>(decide (o.Col<(0:Int)))||(decide ((a.length:Int)≤o.Col))) (fun v=>rfl)]
 simp only [be]
 have e3:(!(n.Order.any fun o=>(decide (o.Col<(0:Int)))||(decide ((a.length:Int)≤o.Col))))=n.Order.all fun e=>decide (0≤e.Col)&&decide (e.Col<(a.length:Int)):=by
  rw [List.not_any_eq_all_not]
  congr 1
  funext k
  rw [wM]
  simp
 rw [e3]
 refine⟨a,_,a,?_,rfl,fun _=>rfl⟩
 cases h4:(n.Order.all fun e=>decide (0≤e.Col)&&decide (e.Col<(a.length:Int)))<;>by_cases l1:(n.Order.length:Int)≤3<;>simp [l1]

def Fe(op:Int):Bool:=decide (1≤op)&&decide (op≤8)
theorem qY{op:Int}(h:Fe op=true):op=1∨op=2∨op=3∨op=4∨op=5∨op=6∨op=7∨op=8:=by
 simp [Fe]at h;omega
def xL(n:M):Bool:=(qV n).getD false
theorem ou(n:M):qV n=some (xL n):=by
 unfold xL qV
 repeat' split
 all_goals rfl
theorem Vy(l:List α):((l.length:Int)==0)=l.isEmpty:=by cases l<;>simp<;>omega
theorem RO(l:List α):decide ((0:Int)<(l.length:Int))= !l.isEmpty:=by cases l<;>simp<;>omega
theorem MZ(n:M)(h:Fe n.Op=true):((ru n).bind fun r=>(rt r).bind fun r1=>some r1)=some (xL n):=by
 obtain⟨op,A,B,QB,kinds,left,cond,keys,aggs,items,order,limit⟩:=n
 unfold xL qV ru rt
 simp only [Vy,RO]
 rcases qY h with h|h|h|h|h|h|h|h<;>simp only at h<;>subst h<;>simp<;>(try (by_cases t:QB=0<;>simp [t]))<;>(try (by_cases lm:limit=0<;>simp [lm]))<;>(try (cases left<;>simp))<;>(try (by_cases e1:kinds=[]<;>simp [e1]))<;>(try (by_cases e2:cond.Nodes=[]<;>simp [e2]))<;>(try (by_cases e3:keys=[]<;>simp [e3]))<;>(try (by_cases e4:aggs=[]<;>simp [e4]))<;>(try (by_cases e5:items=[]<;>simp [e5]))<;>(try (by_cases e6:order=[]<;>simp [e6]))
theorem QF{β:Type}(f1 f2 f3 f4 f5 f6 f7 f8:β)(k:Int):qw (dM (dM (dM (dM (dM (dM (dM (dM ([]:List (Int×β)) 1 f1) 2 f2) 3 f3) 4 f4) 5 f5) 6 f6) 7 f7) 8 f8) k=
  if k=1 then some f1 else if k=2 then some f2 else if k=3 then some f3 else if k=4 then some f4 else if k=5 then some f5 else if k=6 then some f6 else if k=7 then some f7 else if k=8 then some f8 else none:=by
 have e:dM (dM (dM (dM (dM (dM (dM (dM ([]:List (Int×β)) 1 f1) 2 f2) 3 f3) 4 f4) 5 f5) 6 f6) 7 f7) 8 f8=[(1,f1),(2,f2),(3,f3),(4,f4),(5,f5),(6,f6),(7,f7),(8,f8)]:=rfl
 rw [e]
 simp only [qw,eq_comm (b:=k)]
theorem Cu(op:Int):sw op=some (if op=1 then 0 else if op=2∨op=7 then 2 else 1):=by
 unfold sw oF
 by_cases h1:op=1
 ·simp [h1]
 by_cases h2:op=2
 ·simp [h2]
 by_cases h7:op=7
 ·simp [h7]
 simp [h1,h2,h7]
theorem kI(op:Int):vA op=some (if op=1 then 0 else if op=2∨op=7 then 2 else if Fe op then 1 else -1):=by
 unfold vA ri kH
 by_cases h:Fe op=true
 ·rcases qY h with rfl|rfl|rfl|rfl|rfl|rfl|rfl|rfl<;>rfl
 ·have h' : ¬(1≤op∧op≤8):=fun hh=>h (by simp [Fe];omega)
  have h1: ¬op=1:=by omega
  have h2: ¬op=2:=by omega
  have h3: ¬op=3:=by omega
  have h4: ¬op=4:=by omega
  have h5: ¬op=5:=by omega
  have h6: ¬op=6:=by omega
  have h7: ¬op=7:=by omega
  have h8: ¬op=8:=by omega
  simp [h1,h2,h3,h4,h5,h6,h7,h8,h]
structure JG(l:bK)(j:Nat)(f:Int)(ks:List Int)(s:Nat):Prop where
 pos:1≤s
 le:s≤j+1
 fst:f=(j:Int)+1-(s:Int)
 size: ∀fu,j+1<fu→bZ fu l (j:Int)=some (s:Int)
 len:ks.length≤16
 kinds: ∀fu,j+1<fu→co fu l (j:Int)=some (ks,true)
structure Ia(l:bK)(i:Nat)(first:List Int)(kinds:List (List Int)):Prop where
 fl:first.length=i
 kl:kinds.length=i
 node: ∀j,j<i→ ∃f ks s,first[j]? =some f∧kinds[j]? =some ks∧JG l j f ks s
variable{first:List Int}
theorem Ia.push{kinds:List (List Int)}(h:Ia l i first kinds){f:Int}{ks:List Int}{s:Nat}(hn:JG l i f ks s):Ia l (i+1) (first++[f]) (kinds++[ks]):=by
 refine⟨by simp [h.fl],by simp [h.kl],fun j hj=>?_⟩
 by_cases hji:j=i
 ·subst hji
  refine⟨f,ks,s,?_,?_,hn⟩
  ·rw [o5 (by rw [h.fl];exact dN _),h.fl,tm];rfl
  ·rw [o5 (by rw [h.kl];exact dN _),h.kl,tm];rfl
 ·obtain⟨f',ks',s',h1,h2,h3⟩:=h.node j (by omega)
  exact⟨f',ks',s',by rw [t8 (by rw [h.fl];omega)];exact h1,by rw [t8 (by rw [h.kl];omega)];exact h2,h3⟩
def KD(n:M)(i:Nat):Prop:=
 (n.Op=1→n.A= -1∧n.B= -1)∧(n.Op≠1→0<i∧0≤n.A∧n.A<i)∧(n.Op=2∨n.Op=7→n.B=(i:Int)-1)∧(n.Op≠1→n.Op≠2→n.Op≠7→n.B= -1)
theorem tB(l:bK){fu:Nat}(hf:0<fu){p:Int}(h:p<0):bZ fu l p=some 0:=by
 obtain⟨fu,rfl⟩: ∃k,fu=k+1:=⟨fu-1,by omega⟩
 unfold bZ
 rw [bm (by simp [h])]
theorem Jx{kinds:List (List Int)}(hI:Ia l i first kinds)(hn:cK l.Nodes (i:Int)=some n)(hi:i<l.Nodes.length)(hl:l.Nodes.length≤1000)(hop:Fe n.Op=true):
  ∃f ok,iJ ⟨l,kinds,first⟩ (i:Int)=some (f,ok)∧((ok=true∧ ∃s:Nat,1≤s∧s≤i+1∧f=(i:Int)+1-(s:Int)∧(∀fu,i+1<fu→bZ fu l (i:Int)=some (s:Int))∧KD n i)∨(ok=false∧ ∀fu,i+1<fu→bZ fu l (i:Int)=some 0)):=by
 have hstep: ∀fu,i+1<fu→ ∃fu',fu=fu' +1∧i<fu' :=fun fu h=>⟨fu-1,by omega,by omega⟩
 unfold iJ
 simp only [hn,be,Cu]
 by_cases h1:n.Op=1
 ·-- nothing below
  simp only [h1,iE]
  rw [bm (by decide)]
  refine⟨_,_,rfl,?_⟩
  by_cases hAB:n.A= -1∧n.B= -1
  ·refine .inl ⟨by simp [hAB],1,dN _,by omega,by omega,fun fu hf=>?_,⟨fun _=>hAB,fun h=>absurd h1 h,fun h=>by omega,fun h=>absurd h1 h⟩⟩
   obtain⟨fu',rfl,_⟩:=hstep fu hf
   unfold bZ
   rw [bg (by simp;omega),hn]
   simp only [be,kI,h1,iE]
   rw [bm (by decide),bm (by simp [hAB])];rfl
  ·have hb:(n.A== -1&&n.B== -1)=false:=by rw [yk];intro h;apply hAB;simpa using h
   refine .inr ⟨hb,fun fu hf=>?_⟩
   obtain⟨fu',rfl,_⟩:=hstep fu hf
   unfold bZ
   rw [bg (by simp;omega),hn]
   simp only [be,kI,h1,iE]
   rw [bm (by decide),bg (by rw [hb];decide)]
 ·by_cases h27:n.Op=2∨n.Op=7
  ·-- two below
   simp only [h1,h27,iE,iM]
   rw [bg (by decide),bg (by decide)]
   have hsz: ∀fu,i<fu→bZ (fu+1) l (i:Int)=if n.B=(i:Int)-1 then((bZ fu) l n.B).bind (fun r2=>if((decide ((0:Int)<r2))&&(n.A==(IntKind.i64.wrap (n.B-r2))))then(((bZ fu) l n.A).bind fun r3=>if(decide ((0:Int)<r3))then(some (IntKind.i64.wrap ((IntKind.i64.wrap (r3+r2))+(1:Int))))else(some (0:Int)))else(some (0:Int)))else some 0:=by
    intro fu hfu
    conv=>lhs;unfold bZ
    rw [bg (by simp;omega),hn]
    simp only [be,kI,h1,h27,iE,iM]
    rw [bg (by decide),bg (by decide),bm (by decide),bP (n:=(i:Int)-1) (by omega) (by omega)]
    by_cases hB:n.B=(i:Int)-1
    ·rw [bm (by simp [hB]),bm hB]
    ·rw [bg (by simpa using hB),bg hB]
   by_cases hB:n.B=(i:Int)-1∧0<i
   ·have hcond:(!((n.B !=IntKind.i64.wrap ((i:Int)-1))||((i:Int)==0)))=true:=by
     rw [bP (by omega) (by omega)]
     have: ¬((i:Int)=0):=by omega
     simp [hB.1,this];omega
    rw [bm hcond]
    obtain⟨fB,kB,sB,g1,g2,g3⟩:=hI.node (i-1) (by omega)
    have hBi:n.B=((i-1:Nat):Int):=by omega
    have hidx:cK first n.B=some fB:=by rw [hBi,cg];exact g1
    rw [hidx]
    have hfB:=g3.fst
    have hsB:=g3.pos
    have hsB2:=g3.le
    simp only [be]
    rw [bP (n:=fB-1) (by omega) (by omega)]
    by_cases hA:n.A=fB-1∧0≤n.A
    ·rw [bg (by simp [hA.1];omega)]
     obtain⟨fA,kA,sA,q1,q2,q3⟩:=hI.node n.A.toNat (by omega)
     have hidA:cK first n.A=some fA:=by
      rw [show n.A=((n.A.toNat:Nat):Int)from by omega,cg];exact q1
     rw [hidA]
     have hfA:=q3.fst
     have hsA:=q3.pos
     have hsA2:=q3.le
     refine⟨fA,true,rfl,.inl ⟨rfl,sA+sB+1,by omega,by omega,by omega,fun fu hf=>?_,⟨fun h=>absurd h h1,fun _=>⟨hB.2,hA.2,by omega⟩,fun _=>hB.1,fun _ h2 h7=>by rcases h27 with h|h;exact absurd h h2;exact absurd h h7⟩⟩⟩
     obtain⟨fu',rfl,hf'⟩:=hstep fu hf
     rw [hsz fu' hf',bm hB.1]
     have e1:=g3.size fu' (by omega)
     rw [←hBi]at e1
     rw [e1]
     simp only [be]
     rw [bP (n:=n.B-(sB:Int)) (by omega) (by omega),bm (by simp;omega)]
     have e2:=q3.size fu' (by omega)
     rw [show((n.A.toNat:Nat):Int)=n.A from by omega]at e2
     rw [e2]
     simp only [be]
     rw [bm (by simp;omega),bP (n:=(sA:Int)+(sB:Int)) (by omega) (by omega),bP (by omega) (by omega)]
     congr 1
    ·have hb:(n.A !=fB-1||decide (n.A<0))=true:=by
      simp only [u3,sa,oV]
      by_cases h:n.A=fB-1
      ·exact .inr (by omega)
      ·exact .inl h
     rw [bm hb]
     refine⟨0,false,rfl,.inr ⟨rfl,fun fu hf=>?_⟩⟩
     obtain⟨fu',rfl,hf'⟩:=hstep fu hf
     rw [hsz fu' hf',bm hB.1]
     have e1:=g3.size fu' (by omega)
     rw [←hBi]at e1
     rw [e1]
     simp only [be]
     rw [bP (n:=n.B-(sB:Int)) (by omega) (by omega)]
     by_cases h:n.A=fB-1
     ·rw [bm (by simp;omega),tB l (by omega) (by omega)]
      rfl
     ·rw [bg (by simp;omega)]
   ·have hcond:(!((n.B !=IntKind.i64.wrap ((i:Int)-1))||((i:Int)==0)))=false:=by
     rw [bP (by omega) (by omega)]
     by_cases h:n.B=(i:Int)-1
     ·have:i=0:=by omega
      simp [this]
     ·simp [h]
    rw [hcond]
    simp only [mz,iM,be,Bool.true_or,iE]
    refine⟨0,false,rfl,.inr ⟨rfl,fun fu hf=>?_⟩⟩
    obtain⟨fu',rfl,hf'⟩:=hstep fu hf
    rw [hsz fu' hf']
    by_cases h:n.B=(i:Int)-1
    ·rw [bm h]
     rw [tB l (by omega) (by omega)]
     rfl
    ·rw [bg h]
  ·-- one below
   simp only [h1,h27,iM]
   rw [bg (by decide),bm (by decide)]
   have hsz: ∀fu,i<fu→bZ (fu+1) l (i:Int)=if n.A=(i:Int)-1∧n.B= -1 then((bZ fu) l n.A).bind (fun r1=>if(decide ((0:Int)<r1))then(some (IntKind.i64.wrap (r1+(1:Int))))else(some (0:Int)))else some 0:=by
    intro fu hfu
    conv=>lhs;unfold bZ
    rw [bg (by simp;omega),hn]
    simp only [be,kI,h1,h27,hop,iE,iM]
    rw [bg (by decide),bm (by decide),bP (n:=(i:Int)-1) (by omega) (by omega)]
    by_cases hB:n.A=(i:Int)-1∧n.B= -1
    ·rw [bm (by simp [hB]),bm hB]
    ·rw [bg (by simpa using hB),bg hB]
   rw [bP (by omega) (by omega)]
   by_cases hA:(n.A=(i:Int)-1∧n.B= -1)∧0<i
   ·rw [bg (by simp [hA.1];omega)]
    obtain⟨fA,kA,sA,g1,g2,g3⟩:=hI.node (i-1) (by omega)
    have hAi:n.A=((i-1:Nat):Int):=by omega
    have hidx:cK first n.A=some fA:=by rw [hAi,cg];exact g1
    rw [hidx]
    have hfA:=g3.fst
    have hsA:=g3.pos
    have hsA2:=g3.le
    refine⟨fA,true,rfl,.inl ⟨rfl,sA+1,by omega,by omega,by omega,fun fu hf=>?_,⟨fun h=>absurd h h1,fun _=>⟨hA.2,by omega,by omega⟩,fun h=>absurd h h27,fun _ _ _=>hA.1.2⟩⟩⟩
    obtain⟨fu',rfl,hf'⟩:=hstep fu hf
    rw [hsz fu' hf',bm hA.1]
    have e1:=g3.size fu' (by omega)
    rw [←hAi]at e1
    rw [e1]
    simp only [be]
    rw [bm (by simp;omega),bP (by omega) (by omega)]
    rfl
   ·have hb:(n.A !=(i:Int)-1||n.B != -1||(i:Int)==0)=true:=by
     simp only [u3,sa,tq]
     by_cases h:n.A=(i:Int)-1
     ·by_cases h' :n.B= -1
      ·exact .inr (by omega)
      ·exact .inl (.inr h')
     ·exact .inl (.inl h)
    rw [bm hb]
    refine⟨0,false,rfl,.inr ⟨rfl,fun fu hf=>?_⟩⟩
    obtain⟨fu',rfl,hf'⟩:=hstep fu hf
    rw [hsz fu' hf']
    by_cases h:n.A=(i:Int)-1∧n.B= -1
    ·rw [bm h,tB l (by omega) (by omega)]
     rfl
    ·rw [bg h]
theorem I5{kinds:List (List Int)}(hI:Ia l i first kinds)(hn:cK l.Nodes (i:Int)=some n)(hl:l.Nodes.length≤1000)(hi:i<l.Nodes.length){s:Nat}(hs:1≤s)(hsz: ∀fu,i+1<fu→bZ fu l (i:Int)=some (s:Int))(hp:KD n i)(ho:xL n=true)(hop:Fe n.Op=true):
  ∃a b,(n.Op≠1→cK kinds n.A=some a)∧(n.Op=2∨n.Op=7→cK kinds n.B=some b)∧a.length≤16∧b.length≤16∧ ∀fu,i+1<fu→co fu l (i:Int)=gc l (i:Int) n a b:=by
 obtain⟨p1,p2,p3,p4⟩:=hp
 have hsz0:jr l (i:Int)=some (s:Int):=hsz dj (u4 (A4 _) (lh (by omega)))
 have hu: ∀fu,co (fu+1) l (i:Int)=if(decide ((0:Int)≤n.A))then(((co fu) l n.A).bind fun r4=>if(!r4.2)then(some ([],false))else(dX (co fu) l (i:Int) n r4.1))else(dX (co fu) l (i:Int) n ([])):=by
  intro fu
  conv=>lhs;unfold co
  rw [hsz0,hn]
  simp only [be,ou,ho]
  have: ¬(s=0):=by omega
  simp [this]
 by_cases h1:n.Op=1
 ·obtain⟨hA,hB⟩:=p1 h1
  refine⟨[],[],fun h=>absurd h1 h,fun h=>by omega,by simp,by simp,fun fu hf=>?_⟩
  obtain⟨fu,rfl⟩: ∃k,fu=k+1:=⟨fu-1,by omega⟩
  rw [hu,bg (by simp [hA])]
  unfold dX
  rw [bg (by simp [hB])]
 ·obtain⟨hi0,hA0,hAi⟩:=p2 h1
  obtain⟨fA,kA,sA,g1,g2,g3⟩:=hI.node n.A.toNat (by omega)
  have eA:((n.A.toNat:Nat):Int)=n.A:=by omega
  have hkA:cK kinds n.A=some kA:=by rw [←eA,cg];exact g2
  by_cases h27:n.Op=2∨n.Op=7
  ·have hB:=p3 h27
   obtain⟨fB,kB,sB,q1,q2,q3⟩:=hI.node (i-1) (by omega)
   have eB:((i-1:Nat):Int)=n.B:=by omega
   have hkB:cK kinds n.B=some kB:=by rw [←eB,cg];exact q2
   refine⟨kA,kB,fun _=>hkA,fun _=>hkB,g3.len,q3.len,fun fu hf=>?_⟩
   obtain⟨fu,rfl⟩: ∃k,fu=k+1:=⟨fu-1,by omega⟩
   rw [hu,bm (by simpa using hA0)]
   have e1:=g3.kinds fu (by omega)
   rw [eA]at e1
   rw [e1]
   simp only [be,nT,mz,iM]
   unfold dX
   rw [bm (by simp;omega)]
   have e2:=q3.kinds fu (by omega)
   rw [eB]at e2
   rw [e2]
   simp only [be,nT,mz,iM]
  ·have hB:=p4 h1 (fun h=>h27 (.inl h)) (fun h=>h27 (.inr h))
   refine⟨kA,[],fun _=>hkA,fun h=>absurd h h27,g3.len,by simp,fun fu hf=>?_⟩
   obtain⟨fu,rfl⟩: ∃k,fu=k+1:=⟨fu-1,by omega⟩
   rw [hu,bm (by simpa using hA0)]
   have e1:=g3.kinds fu (by omega)
   rw [eA]at e1
   rw [e1]
   simp only [be,nT,mz,iM]
   unfold dX
   rw [bg (by simp [hB])]
theorem Cv(hn:cK l.Nodes (i:Int)=some n)(hl:i<1000)(h:(∀fu,i+1<fu→bZ fu l (i:Int)=some 0)∨((∃s:Int,∀fu,i+1<fu→bZ fu l (i:Int)=some s)∧xL n=false)):kX l (i:Int)=some ([],false):=by
 have hF:i+1<dj:=u4 (A4 _) (lh (by omega))
 have e:dj=(dj-1)+1:=by omega
 unfold kX
 rw [e]
 unfold co jr
 rcases h with h|⟨⟨s,h⟩,ho⟩
 ·rw [h _ hF];simp
 ·rw [h _ hF,hn]
  simp only [be,ou,ho]
  by_cases hs:s=0<;>simp [hs]

def nD(l:bK):Prop:= ∀n∈l.Nodes,iD n
abbrev Vj:=aq→M→Option (((List Int)×Bool)×aq)
def AI:List (Int×Vj):=(dM (dM (dM (dM (dM (dM (dM (dM ([]:List (Int×(aq→M→Option (((List Int)×Bool)×aq)))) (1:Int) (fun(mc:aq) (mx:M)=>(ff mc mx).map fun mr=>(mr,mc))) (2:Int) (fun(mc:aq) (mx:M)=>(gk mc mx).map fun mr=>(mr,mc))) (3:Int) (fun(mc:aq) (mx:M)=>(fg mc mx).map fun mr=>(mr,mc))) (4:Int) (fun(mc:aq) (mx:M)=>(fT mc mx).map fun mr=>(mr,mc))) (5:Int) (fun(mc:aq) (mx:M)=>(eM mc mx).map fun mr=>(mr,mc))) (6:Int) (fun(mc:aq) (mx:M)=>(em mc mx).map fun mr=>(mr,mc))) (7:Int) (fun(mc:aq) (mx:M)=>(fR mc mx).map fun mr=>(mr,mc))) (8:Int) (fun(mc:aq) (mx:M)=>(fS mc mx).map fun mr=>(mr,mc)))
theorem Nm(op:Int):(qw AI op).isSome=Fe op:=by
 unfold AI
 rw [QF]
 by_cases h:Fe op=true
 ·rw [h]
  rcases qY h with rfl|rfl|rfl|rfl|rfl|rfl|rfl|rfl<;>rfl
 ·rw [yk.2 h]
  have h' : ¬(1≤op∧op≤8):=fun hh=>h (by simp [Fe];omega)
  have h1: ¬op=1:=by omega
  have h2: ¬op=2:=by omega
  have h3: ¬op=3:=by omega
  have h4: ¬op=4:=by omega
  have h5: ¬op=5:=by omega
  have h6: ¬op=6:=by omega
  have h7: ¬op=7:=by omega
  have h8: ¬op=8:=by omega
  simp [h1,h2,h3,h4,h5,h6,h7,h8]
theorem Lz(c:aq)(n:M)(a b:List Int)(hn:iD n)(hop:Fe n.Op=true)(ha:n.Op≠1→cK c.kinds n.A=some a)(hb:n.Op=2∨n.Op=7→cK c.kinds n.B=some b)(hal:a.length≤16)(hbl:b.length≤16):
  ∃k o k',((qw AI n.Op).getD (fun _ _=>none)) c n=some ((k,o&&(if n.Op=8 then(c.kinds.length:Int)==IntKind.i64.wrap ((c.Logic.Nodes.length:Int)-(1:Int))else true)),c)∧bM n a b=some (k',o)∧(o=true→k=k'):=by
 have go: ∀(m:Option (List Int×Bool)) (last:Bool),zn m (bM n a b) last→((qw AI n.Op).getD (fun _ _=>none)) c n=m.map (fun mr=>(mr,c))→(if n.Op=8 then(c.kinds.length:Int)==IntKind.i64.wrap ((c.Logic.Nodes.length:Int)-(1:Int))else true)=last→ ∃k o k',((qw AI n.Op).getD (fun _ _=>none)) c n=some ((k,o&&(if n.Op=8 then(c.kinds.length:Int)==IntKind.i64.wrap ((c.Logic.Nodes.length:Int)-(1:Int))else true)),c)∧bM n a b=some (k',o)∧(o=true→k=k'):=by
  intro m last ⟨k,o,k',h1,h2,h3⟩ he hl
  exact⟨k,o,k',by rw [he,h1,hl];rfl,h2,h3⟩
 unfold AI at go ⊢
 rw [QF]at go ⊢
 rcases qY hop with h|h|h|h|h|h|h|h
 ·exact go _ _ (DW c n a b hn h) (by simp [h]) (by simp [h])
 ·exact go _ _ (LC c n a b hn h (ha (by omega)) (hb (.inl h)) hal hbl) (by simp [h]) (by simp [h])
 ·exact go _ _ (HA c n a b hn h (ha (by omega))) (by simp [h]) (by simp [h])
 ·exact go _ _ (I7 c n a b hn h (ha (by omega))) (by simp [h]) (by simp [h])
 ·exact go _ _ (E9 c n a b hn h (ha (by omega))) (by simp [h]) (by simp [h])
 ·exact go _ _ (Dk c n a b h (ha (by omega))) (by simp [h]) (by simp [h])
 ·exact go _ _ (Il c n a b h (ha (by omega)) (hb (.inr h)) hal) (by simp [h]) (by simp [h])
 ·exact go _ _ (IY c n a b hn h (ha (by omega))) (by simp [h]) (by simp [h])
theorem Ly{Sg:Type}(yld:(Int×Bool)→Sg→Option (Bool×Sg)){kinds:List (List Int)}(hI:Ia l i first kinds){tl:List M}(hd:l.Nodes.drop i=n::tl)(hS:nD l)(hl:l.Nodes.length≤60)(st:Sg):
  ∃first' kinds' ok,bp yld (n::tl) i st ⟨l,kinds,first⟩=((yld ((i:Int),ok) st).bind fun r2=>if((!r2.1)||(!ok))then some (r2.2,⟨l,kinds',first'⟩)else bp yld tl (i+1) r2.2 ⟨l,kinds',first'⟩)∧(∃x,kX l (i:Int)=some (x,ok))∧(ok=true→Ia l (i+1) first' kinds'):=by
 obtain⟨hn,hi,_⟩:=im hd
 have hfl:=hI.fl
 have hkl:=hI.kl
 have hSn:iD n:=hS n (by
  rw [cg]at hn
  exact qE hn)
 have hF:i+1<dj:=u4 (A4 _) (lh (by omega))
 have hu:bp yld (n::tl) i st ⟨l,kinds,first⟩=(if(qw AI n.Op).isSome then((ru n).bind fun r=>(rt r).bind fun r1=>some r1)else some false).bind fun t=>if t then((iJ ⟨l,kinds,first⟩ (i:Int)).bind fun r4=>(iC first ([r4.1])).bind fun l7=>dE yld (bp yld tl) i n st r4.2 ⟨l,kinds,l7⟩)else(dE yld (bp yld tl) i n st t ⟨l,kinds,first⟩):=rfl
 rw [hu,Nm]
 have hk2: ∀(ok1:Bool) (k:List Int) (f' :List Int),fH yld (bp yld tl) i st ok1 k ⟨l,kinds,f'⟩=((yld ((i:Int),ok1&&decide (k.length≤16)) st).bind fun r2=>if((!r2.1)||(!(ok1&&decide (k.length≤16))))then some (r2.2,⟨l,kinds++[k],f'⟩)else bp yld tl (i+1) r2.2 ⟨l,kinds++[k],f'⟩):=by
  intro ok1 k f'
  unfold fH
  rw [ca (by simp;omega)]
  have:decide ((k.length:Int)≤16)=decide (k.length≤16):=by rw [wM];simp;omega
  simp only [be,this]
 have hk1: ∀(f' :List Int),dE yld (bp yld tl) i n st false ⟨l,kinds,f'⟩=((yld ((i:Int),false) st).bind fun r2=>if((!r2.1)||(!false))then some (r2.2,⟨l,kinds++[[]],f'⟩)else bp yld tl (i+1) r2.2 ⟨l,kinds++[[]],f'⟩):=by
  intro f'
  unfold dE
  rw [bg (by decide),hk2]
  rfl
 by_cases hop:Fe n.Op=true
 ·rw [bm hop,MZ n hop]
  simp only [be]
  obtain⟨f,ok,hb1,hb2⟩:=Jx hI hn hi (by omega) hop
  cases ho:xL n with
  |false=>
   simp only [mz,iM]
   rw [hk1]
   refine⟨first,kinds++[[]],false,rfl,⟨[],Cv hn (by omega) (.inr ⟨?_,ho⟩)⟩,by simp⟩
   rcases hb2 with⟨_,s,_,_,_,h,_⟩|⟨_,h⟩
   ·exact⟨s,h⟩
   ·exact⟨0,h⟩
  |true=>
   simp only [iE]
   rw [hb1]
   simp only [be]
   rw [ca (by simp;omega)]
   simp only [be]
   rcases hb2 with⟨hok,s,hs,hs2,hf,hsz,hp⟩|⟨hok,h⟩
   ·subst hok
    obtain⟨a,b,ha,hb,hal,hbl,hK⟩:=I5 hI hn (by omega) hi hs hsz hp ho hop
    obtain⟨k,o,k',m1,m2,m3⟩:=Lz ⟨l,kinds,first++[f]⟩ n a b hSn hop ha hb hal hbl
    have hk1' :dE yld (bp yld tl) i n st true ⟨l,kinds,first++[f]⟩=((((qw AI n.Op).getD (fun _ _=>none)) ⟨l,kinds,first++[f]⟩ n).bind fun r3=>fH yld (bp yld tl) i st r3.1.2 r3.1.1 r3.2):=rfl
    rw [hk1',m1]
    simp only [be]
    rw [hk2]
    have hlast:((kinds.length:Int)==IntKind.i64.wrap ((l.Nodes.length:Int)-1))=((i:Int)==IntKind.i64.wrap ((l.Nodes.length:Int)-1)):=by rw [hkl]
    have hKk: ∀fu,i+1<fu→ ∃x,co fu l (i:Int)=some (x,(o&&(if n.Op=8 then(kinds.length:Int)==IntKind.i64.wrap ((l.Nodes.length:Int)-(1:Int))else true))&&decide (k.length≤16))∧(((o&&(if n.Op=8 then(kinds.length:Int)==IntKind.i64.wrap ((l.Nodes.length:Int)-(1:Int))else true))&&decide (k.length≤16))=true→x=k):=by
     intro fu hf
     rw [hK fu hf]
     unfold gc
     rw [m2]
     simp only [be]
     rw [hlast]
     cases o with
     |false=>
      simp only [Dq]
      split
      ·exact⟨_,rfl,by simp⟩
      ·exact⟨_,rfl,by simp⟩
     |true=>
      have:=m3 rfl
      subst this
      simp only [vb]
      by_cases h8:n.Op=8
      ·by_cases hL:(i:Int)=IntKind.i64.wrap ((l.Nodes.length:Int)-1)
       ·by_cases h16:k.length≤16
        ·rw [bg (by simp [←hL];omega)]
         exact⟨k,by simp [h8,hL,h16],fun _=>rfl⟩
        ·rw [bm (by simp;omega)]
         exact⟨[],by simp [h16],by simp [h16]⟩
       ·rw [bm (by simp [h8,hL])]
        exact⟨[],by simp [h8,hL],by simp [h8,hL]⟩
      ·by_cases h16:k.length≤16
       ·rw [bg (by simp [h8];omega)]
        exact⟨k,by simp [h8,h16],fun _=>rfl⟩
       ·rw [bm (by simp;omega)]
        exact⟨[],by simp [h16],by simp [h16]⟩
    refine⟨first++[f],kinds++[k],_,rfl,?_,fun hok=>?_⟩
    ·obtain⟨x,h1,_⟩:=hKk dj hF
     exact⟨x,h1⟩
    ·refine hI.push (s:=s) ⟨hs,hs2,hf,hsz,?_,fun fu hfu=>?_⟩
     ·simp at hok;exact hok.2
     ·obtain⟨x,h1,h2⟩:=hKk fu hfu
      rw [h1,h2 hok,hok]
   ·subst hok
    rw [hk1]
    exact⟨first++[f],kinds++[[]],false,rfl,⟨[],Cv hn (by omega) (.inl h)⟩,by simp⟩
 ·rw [bg hop]
  simp only [be,mz,iM]
  rw [hk1]
  refine⟨first,kinds++[[]],false,rfl,⟨[],Cv hn (by omega) (.inl fun fu hf=>?_)⟩,by simp⟩
  obtain⟨fu,rfl⟩: ∃k,fu=k+1:=⟨fu-1,by omega⟩
  unfold bZ
  rw [bg (by simp;omega),hn]
  simp only [be,kI]
  have h1: ¬n.Op=1:=fun h=>hop (by rw [h];rfl)
  have h2: ¬n.Op=2:=fun h=>hop (by rw [h];rfl)
  have h7: ¬n.Op=7:=fun h=>hop (by rw [h];rfl)
  simp [h1,h2,h7,hop]
theorem Pg(hS:nD l)(hl:l.Nodes.length≤60): ∀(tl:List M) (i:Nat) (first:List Int) (kinds:List (List Int)),Ia l i first kinds→l.Nodes.drop i=tl→i+tl.length=l.Nodes.length→
  ∃st ob,bp (xf (fun x s=>m5 x s.1 s.2.1 s.2.2)) tl i (none,(false,(0:Int),false)) ⟨l,kinds,first⟩=some (st,ob)∧ob.Logic=l∧
   ((st=(none,(false,(0:Int),false))∧Ia l l.Nodes.length ob.first ob.kinds∧eC l tl i=eC l [] l.Nodes.length)∨(∃j:Nat,st=(some 0,(false,(j:Int),true))∧eC l tl i=some (j:Int))):=by
 intro tl
 induction tl with
 |nil=>
  intro i first kinds hI hd hi
  simp only [q7,zx]at hi
  subst hi
  exact⟨_,_,rfl,rfl,.inl ⟨rfl,hI,rfl⟩⟩
 |cons n tl ih=>
  intro i first kinds hI hd hi
  simp only [gJ]at hi
  obtain⟨f',k',ok,h1,⟨x,h2⟩,h3⟩:=Ly (xf (fun x s=>m5 x s.1 s.2.1 s.2.2)) hI hd hS hl (none,(false,(0:Int),false))
  rw [h1]
  have hW:eC l (n::tl) i=if(!ok)then some (i:Int)else eC l tl (i+1):=by
   conv=>lhs;unfold eC
   rw [h2];rfl
  rw [hW]
  cases ok with
  |false=>exact⟨_,_,rfl,rfl,.inr ⟨i,rfl,rfl⟩⟩
  |true=>
   obtain⟨st,ob,g1,g2,g3⟩:=ih (i+1) f' k' (h3 rfl) (im hd).2.2 (by omega)
   refine⟨st,ob,?_,g2,?_⟩
   ·exact g1
   ·simpa using g3
theorem Ia.nil(l:bK):Ia l 0 [] []:=⟨rfl,rfl,fun j h=>absurd h (Nat.not_lt_zero _)⟩
structure CR(l:bK)(ob:aq):Prop where
 logic:ob.Logic=l
 pos:1≤l.Nodes.length
 le:l.Nodes.length≤60
 inv:Ia l l.Nodes.length ob.first ob.kinds
 whole:jr l ((l.Nodes.length:Int)-1)=some (l.Nodes.length:Int)
theorem Ph(hS:nD l): ∃ob j ok,lg l=some (ob,j,ok)∧qb l=some (if ok then -1 else j)∧(0≤j)∧(ok=true→CR l ob∧j=(l.Nodes.length:Int)-1):=by
 unfold lg qb
 by_cases h:l.Nodes.length<1∨60<l.Nodes.length
 ·rw [bm (by simp;omega),bm (by simp;omega)]
  exact⟨_,_,_,rfl,rfl,Int.le_refl _,by simp⟩
 ·rw [bg (by simp;omega),bg (by simp;omega)]
  unfold oG
  simp only [be]
  unfold ky
  obtain⟨st,ob,h1,h2,h3⟩:=Pg hS (by omega) l.Nodes 0 [] [] (Ia.nil l) rfl (by simp)
  have h1' :bp (xf (fun x s=>m5 x s.1 s.2.1 s.2.2)) (⟨l,[],[]⟩:aq).Logic.Nodes 0 (none,(false,(0:Int),false)) ⟨l,[],[]⟩=some (st,ob):=h1
  rw [h1']
  simp only [be]
  rcases h3 with⟨rfl,hI,hW⟩|⟨j,rfl,hW⟩
  ·simp only [Option.isNone_none,iE]
   rw [bP (by omega) (by omega)]
   obtain⟨f,ks,s,g1,g2,g3⟩:=hI.node (l.Nodes.length-1) (by omega)
   have e:((l.Nodes.length-1:Nat):Int)=(l.Nodes.length:Int)-1:=by omega
   have hid:cK ob.first ((l.Nodes.length:Int)-1)=some f:=by rw [←e,cg];exact g1
   rw [hid]
   simp only [be]
   have hsz:jr l ((l.Nodes.length:Int)-1)=some (s:Int):=by
    have:=g3.size dj (u4 (A4 _) (lh (by omega)))
    rw [e]at this;exact this
   have hf:=g3.fst
   refine⟨_,_,_,rfl,?_,by omega,fun hok=>?_⟩
   ·rw [hW]
    unfold eC
    rw [bP (by omega) (by omega),hsz]
    simp only [be]
    by_cases hs:s=l.Nodes.length
    ·rw [bg (by simp [hs]),bm (by simp;omega)]
    ·rw [bm (by simp;omega),bg (by simp;omega)]
   ·have hs:s=l.Nodes.length:=by simp at hok;omega
    exact⟨⟨h2,by omega,by omega,hI,by rw [hsz,hs]⟩,rfl⟩
  ·simp only [Option.isNone_some,mz,iM]
   refine⟨ob,(j:Int),false,rfl,by rw [hW];rfl,by omega,by simp⟩

theorem iK{n:Nat}(h:n≤900000):n<dj:=u4 (A4 _) (lh (by omega))
def vt(d x:Int):Int:=if 0≤x then IntKind.i64.wrap (x+d)else x
def sj(d:Int)(n:M):M:={n with A:=vt d n.A,B:=vt d n.B}
theorem iD.sh(h:iD n)(d:Int):iD (sj d n):=⟨h.cond,h.kinds,h.keys,h.aggs,h.items,h.order,h.args,h.exprs⟩
theorem iD.at(h:iD n)(a b:Int):iD {n with A:=a,B:=b}:=⟨h.cond,h.kinds,h.keys,h.aggs,h.items,h.order,h.args,h.exprs⟩
theorem C7(n:M)(d:Int):xC n d=some (sj d n):=by
 unfold xC sZ sY sj vt
 by_cases hA:0≤n.A<;>by_cases hB:0≤n.B<;>simp [hA,hB]
theorem set_same{e:α}(h:xs[i]? =some e):xs.set i e=xs:=by
 apply Dv
 intro j
 rw [List.getElem?_set]
 split
 ·rename_i hj;subst hj
  split
  ·exact h.symm
  ·rename_i h2;rw [F6 (by omega)]
 ·rfl
theorem qS(h:iD n):lE n=some n:=by
 have hK:=h.kinds
 have hk:=h.keys
 have hA:=h.aggs
 have hI:=h.items
 have hO:=h.order
 have hc:=h.cond
 have hcl: ∀{l:List aU},l.length≤5000→bC l=some l:=fun{l} hl=>by
  unfold bC;rw [ca (by simp;omega)];rfl
 unfold lE
 rw [qU _ (by omega),qU _ (by omega)]
 simp only [be]
 have e1:dz n.Order=some n.Order:=by unfold dz;rw [ca (by simp;omega)];rfl
 rw [e1]
 simp only [be]
 rw [hcl hc]
 simp only [be]
 have e2:ew n.Aggs=some n.Aggs:=by unfold ew;rw [ca (by simp;omega)];rfl
 rw [e2]
 simp only [be]
 have e3:dU n.Items=some n.Items:=by unfold dU;rw [ca (by simp;omega)];rfl
 rw [e3]
 simp only [be]
 have Ho: ∀(tl:List aT) (i:Nat),n.Items.drop i=tl→(∀e∈tl,e.Nodes.length≤5000)→lC tl i n=some n:=by
  intro tl
  induction tl with
  |nil=>intro i _ _;rfl
  |cons x tl ih=>
   intro i hd hs
   obtain⟨h1,h2,h3⟩:=im hd
   unfold lC
   rw [h1]
   simp only [be]
   rw [hcl (hs x (nm ..))]
   simp only [be,wN]
   rw [cg]at h1
   have e4:n.Items.set i ({x with Nodes:=x.Nodes}:aT)=n.Items:=set_same h1
   rw [e4]
   exact ih (i+1) h3 (fun e he=>hs e (nE _ he))
 have key1: ∀(tl:List gF) (i:Nat),n.Aggs.drop i=tl→(∀e∈tl,e.Arg.Nodes.length≤5000)→lD tl i n=some n:=by
  intro tl
  induction tl with
  |nil=>intro i _ _;exact Ho n.Items 0 rfl h.exprs
  |cons x tl ih=>
   intro i hd hs
   obtain⟨h1,h2,h3⟩:=im hd
   unfold lD
   rw [h1]
   simp only [be]
   rw [hcl (hs x (nm ..))]
   simp only [be,wN]
   rw [cg]at h1
   have e4:n.Aggs.set i ({x with Arg:=({x.Arg with Nodes:=x.Arg.Nodes}:aT)}:gF)=n.Aggs:=set_same h1
   rw [e4]
   exact ih (i+1) h3 (fun e he=>hs e (nE _ he))
 exact key1 n.Aggs 0 rfl h.args
theorem Be(h:iD n)(d:Int):qP n d=some (sj d n):=by
 unfold qP ni sj vt
 by_cases hA:0≤n.A<;>by_cases hB:0≤n.B
 ·rw [bm (by simpa using hA),bm (by simpa using hB),bm hA,bm hB]
  exact qS (h.at _ _)
 ·rw [bm (by simpa using hA),bg (by simpa using hB),bm hA,bg hB]
  exact qS (h.at _ _)
 ·rw [bg (by simpa using hA),bm (by simpa using hB),bg hA,bm hB]
  exact qS (h.at _ _)
 ·rw [bg (by simpa using hA),bg (by simpa using hB),bg hA,bg hB]
  exact qS (h.at _ _)
def qu(l:bK):Bool:=decide ((qb l).getD 0<0)
theorem GO(h:nD l):vz l=some (qu l)∧(∃j,sx l=some (if qu l then(0,0)else(j,230)))∧(∃ob j,lg l=some (ob,j,qu l)∧(qu l=true→CR l ob∧j=(l.Nodes.length:Int)-1)):=by
 obtain⟨ob,j,ok,h1,h2,h3,h4⟩:=Ph h
 have e:qu l=ok:=by
  unfold qu
  rw [h2]
  cases ok<;>simp<;>omega
 refine⟨?_,⟨j,?_⟩,ob,j,?_⟩
 ·unfold vz qu
  rw [h2];rfl
 ·unfold sx
  rw [h1,e]
  cases ok<;>rfl
 ·rw [e]
  exact⟨h1,h4⟩
theorem Gx(hA:n.A≤100000)(hB:n.B≤100000):sj 0 n=n:=by
 have h: ∀x:Int,x≤100000→vt 0 x=x:=by
  intro x hx
  unfold vt
  by_cases h:0≤x
  ·rw [bm h,Int.add_zero,bP (by omega) (by omega)]
  ·rw [bg h]
 unfold sj
 rw [h _ hA,h _ hB]
theorem Pf{d:Int}{ns:List M}(h: ∀n∈ns,iD n): ∀n∈ns.map (sj d),iD n:=by
 intro n hn
 obtain⟨m,hm,rfl⟩:=Am.1 hn
 exact(h m hm).sh d
end Go.Proofs.YtnmjbolollcokaaGreatDoor

