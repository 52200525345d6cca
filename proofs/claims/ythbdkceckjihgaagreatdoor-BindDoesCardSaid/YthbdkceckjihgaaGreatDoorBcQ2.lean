/- dm of this claim: L1, L2, L3. -/
import Derived.Test.YthbdkceckjihgaaGreatDoorBcQ1
import Derived.Test.YthbdkceckjihgaaGreatDoorBcF
import Derived.KernelRfl
set_option linter.all false
namespace Go.Proofs.YthbdkceckjihgaaGreatDoor
open Go

def kE{α:Type}{xs:List α}{i j:Int}(l m:Nat)(hi:i=(l:Int))(hj:j=(m:Int))(h:l<=m)(J:m<=xs.length):dJ xs i j=some ((xs.take m).drop l):=by
 subst hi hj;exact xu h J
def jU{α:Type}{xs:List α}{i:Int}(k:Nat)(hi:i=(k:Int)):fz xs i=xs[k]? :=by subst hi;exact jt _ _
def uB(v:cJ):Bool:=BM v&&(v.Kind !=4)
def zm(v:cJ):tP v=some (uB v):=by
 unfold tP uB
 rw [F8]
 cases BM v<;>simp
def py(v:cJ):tY v=some (uB v):=by
 unfold tY uB
 rw [GJ]
 rfl
variable{n:aD}
def LF{v:cJ}(h:uB v=true):0<=v.Kind/\v.Kind<=3:=by
 obtain⟨k,n,u,s⟩:=v
 unfold uB BM px at h
 simp only [jM,tN,ne_eq]at h
 obtain⟨H,J⟩:=h
 by_cases h0:k=0
 ·simp [h0]
 by_cases k1:k=1
 ·simp [k1]
 by_cases k2:k=2
 ·simp [k2]
 by_cases k3:k=3
 ·simp [k3]
 simp [h0,k1,k2,k3,J]at H
def pk(tag:Int):Option Nat:=if tag=1\/tag=2 then some 0 else if 4<=tag/\tag<=7 then some 1 else if 12<=tag/\tag<=23 then some 2 else none
def JW(tag:Int):Int:=match pk tag with
 |some k=>(k:Int)
 |none=> -1
def Bl(tag:Int):sY tag=some (JW tag):=by
 unfold sY JW pk
 by_cases H:tag=1\/tag=2
 ·rw [cx H,cx (by simpa using H)];rfl
 rw [cm H,cm (by simpa using H)]
 by_cases J:4<=tag/\tag<=7
 ·rw [cx J,cx (by simpa using J)];rfl
 rw [cm J,cm (by simpa using J)]
 by_cases h3:12<=tag/\tag<=23
 ·rw [cx h3,cx (by simpa using h3)];rfl
 rw [cm h3,cm (by simpa using h3)]
def rU(tag:Int):wu tag=some (JW tag):=by
 unfold wu tW JW pk
 by_cases H:tag=1\/tag=2
 ·rw [cx H];rcases H with rfl|rfl<;>rfl
 rw [cm H]
 by_cases J:4<=tag/\tag<=7
 ·rw [cx J]
  have:tag=4\/tag=5\/tag=6\/tag=7:=by omega
  rcases this with rfl|rfl|rfl|rfl<;>rfl
 rw [cm J]
 by_cases h3:12<=tag/\tag<=23
 ·rw [cx h3,cm (by simp;omega),cm (by simp;omega),cm (by simp;omega),cm (by simp;omega)];rfl
 rw [cm h3]
 by_cases h4:tag=3\/(8<=tag/\tag<=11)
 ·rw [cx (by simpa using h4)]
 rw [cm (by simpa using h4),cx (by simp;omega)]
 rfl
def EX(n:aD):Bool:=(jo n).getD false
def kU(n:aD):jo n=some (EX n):=by
 unfold EX jo
 rw [py]
 split
 ·rfl
 ·split<;>rfl
def Hm(n:aD):wQ n=some (EX n):=by
 rw [<-kU]
 unfold wQ jo
 rw [py,zm]
inductive Tr where
 |lf (n:aD)
 |un (n:aD) (a:Tr)
 |bi (n:aD) (a b:Tr)
 deriving Inhabited
def Tr.size:Tr->Nat
 | .lf _=>1
 | .un _ a=>a.size+1
 | .bi _ a b=>a.size+b.size+1
def gX(n:aD)(l r:Int):aD:={n with L:=l,R:=r}
def Tr.flat:Tr->Nat->List aD
 | .lf n,_=>[gX n (-1) (-1)]
 | .un n a,s=>a.flat s++[gX n ((s+a.size:Nat)-1) (-1)]
 | .bi n a b,s=>a.flat s++b.flat (s+a.size)++[gX n ((s+a.size:Nat)-1) ((s+a.size+b.size:Nat)-1)]
def Yf(k:Nat)(n:aD):Prop:=pk n.Tag=some k/\EX n=true/\n.L= -1/\n.R= -1
def Tr.wf:Tr->Prop
 | .lf n=>Yf 0 n
 | .un n a=>Yf 1 n/\a.wf
 | .bi n a b=>Yf 2 n/\a.wf/\b.wf
def Tr.size_pos(t:Tr):0<t.size:=by cases t<;>simp [Tr.size]
def Tr.flat_len(t:Tr): ∀s,(t.flat s).length=t.size:=by
 induction t with
 |lf n=>intro s;rfl
 |un n a ih=>intro s;simp [Tr.flat,Tr.size,ih]
 |bi n a b iha ihb=>intro s;simp [Tr.flat,Tr.size,iha,ihb];omega
def df:List Tr->Nat
 |[]=>0
 |t::st=>df st+t.size
def yR:List Tr->List aD
 |[]=>[]
 |t::st=>yR st++t.flat (df st)
def Je: ∀st:List Tr,(yR st).length=df st
 |[]=>rfl
 |t::st=>by simp [yR,df,Je st,t.flat_len]
def IL: ∀st:List Tr,st.length<=df st
 |[]=>f7 _
 |t::st=>by have:=IL st;have:=t.size_pos;simp [df];omega
def push(st:List Tr)(n:aD):Option (List Tr):=
 match pk n.Tag,st with
 |some 0,st=>if EX n&&n.L== -1&&n.R== -1 then some (.lf (gX n (-1) (-1))::st)else none
 |some 1,a::st=>if EX n&&n.L==((df st+a.size:Nat):Int)-1&&n.R== -1 then some (.un (gX n (-1) (-1)) a::st)else none
 |some 2,b::a::st=>if EX n&&n.L==((df st+a.size:Nat):Int)-1&&n.R==((df st+a.size+b.size:Nat):Int)-1 then some (.bi (gX n (-1) (-1)) a b::st)else none
 |_,_=>none
def rr:List aD->List Tr->Option (List Tr)
 |[],st=>some st
 |n::ns,st=>(push st n).bind (rr ns)
def wfs(st:List Tr):Prop:= ∀t∈st,t.wf
def At{l r:Int}(h:n.L=l)(J:n.R=r):gX (gX n (-1) (-1)) l r=n:=by subst h J;rfl
def Rl{st st' :List Tr}(h:push st n=some st')(hw:wfs st):yR st' =yR st++[n]/\df st' =df st+1/\wfs st' :=by
 unfold push at h
 split at h
 ·rename_i k st0 hk
  split at h
  ·rename_i hc
   simp only [jM,wk]at hc
   obtain⟨⟨H,J⟩,h3⟩:=hc
   cases h
   refine⟨?_,rfl,fun t M=>?_⟩
   ·simp only [yR,Tr.flat]
    rw [At J h3]
   ·rcases gn.1 M with rfl|M
    ·exact⟨hk,H,rfl,rfl⟩
    ·exact hw t M
  ·cases h
 ·rename_i k a st0 hk
  split at h
  ·rename_i hc
   simp only [jM,wk]at hc
   obtain⟨⟨H,J⟩,h3⟩:=hc
   cases h
   refine⟨?_,by simp [df,Tr.size];omega,fun t M=>?_⟩
   ·simp only [yR,Tr.flat]
    rw [At J h3,gF]
   ·rcases gn.1 M with rfl|M
    ·exact⟨⟨hk,H,rfl,rfl⟩,hw a (oh ..)⟩
    ·exact hw t (oO _ M)
  ·cases h
 ·rename_i k b a st0 hk
  split at h
  ·rename_i hc
   simp only [jM,wk]at hc
   obtain⟨⟨H,J⟩,h3⟩:=hc
   cases h
   refine⟨?_,by simp [df,Tr.size];omega,fun t M=>?_⟩
   ·simp only [yR,Tr.flat,df]
    rw [At J h3]
    simp only [gF]
   ·rcases gn.1 M with rfl|M
    ·exact⟨⟨hk,H,rfl,rfl⟩,hw a (oO _ (oh ..)),hw b (oh ..)⟩
    ·exact hw t (oO _ (oO _ M))
  ·cases h
 ·cases h
variable{ns:List aD}
def BR: ∀{ns:List aD} {st st' :List Tr},rr ns st=some st' ->wfs st->yR st' =yR st++ns/\wfs st'
 |[],st,st',h,hw=>by cases h;simp [hw]
 |n::ns,st,st',h,hw=>by
  unfold rr at h
  cases hp:push st n with
  |none=>rw [hp]at h;cases h
  |some st1=>
   rw [hp]at h
   obtain⟨H,_,h3⟩:=Rl hp hw
   obtain⟨h4,h5⟩:=BR (ns:=ns) h h3
   exact⟨by rw [h4,H];simp,h5⟩
def u6: ∀(ns ms:List aD) (st:List Tr),rr (ns++ms) st=(rr ns st).bind (rr ms)
 |[],ms,st=>rfl
 |n::ns,ms,st=>by
  simp only [yZ,rr]
  cases push st n with
  |none=>rfl
  |some st1=>exact u6 ns ms st1
def NJ(t:Tr): ∀(st:List Tr),t.wf->rr (t.flat (df st)) st=some (t::st):=by
 induction t with
 |lf n=>
  intro st ⟨H,J,h3,h4⟩
  have hn' :gX n (-1) (-1)=n:=by cases n;simp only at h3 h4;subst h3 h4;rfl
  simp only [Tr.flat,rr,push,hn']
  rw [H]
  simp [J,h3,h4,rr,hn']
 |un n a ih=>
  intro st ⟨⟨H,J,h3,h4⟩,ha⟩
  have hn' :gX n (-1) (-1)=n:=by cases n;simp only at h3 h4;subst h3 h4;rfl
  simp only [Tr.flat]
  rw [u6,ih st ha]
  simp only [bI,rr,push]
  have e1:(gX n (((df st+a.size:Nat):Int)-1) (-1)).Tag=n.Tag:=rfl
  rw [e1,H]
  have e2:EX (gX n (((df st+a.size:Nat):Int)-1) (-1))=true:=J
  rw [e2]
  simp only [gX,A4,Bool.and_self,jb,bI,rr]
  simp only [gX]at hn'
  rw [hn']
 |bi n a b iha ihb=>
  intro st ⟨⟨H,J,h3,h4⟩,ha,A⟩
  have hn' :gX n (-1) (-1)=n:=by cases n;simp only at h3 h4;subst h3 h4;rfl
  simp only [Tr.flat]
  rw [u6,u6,iha st ha]
  simp only [bI]
  have e0:df st+a.size=df (a::st):=rfl
  rw [e0,ihb (a::st) A]
  simp only [bI,rr,push]
  have e1:(gX n (((df (a::st):Nat):Int)-1) (((df (a::st)+b.size:Nat):Int)-1)).Tag=n.Tag:=rfl
  rw [e1,H]
  have e2:EX (gX n (((df (a::st):Nat):Int)-1) (((df (a::st)+b.size:Nat):Int)-1))=true:=J
  rw [e2]
  simp only [gX,df,A4,Bool.and_self,jb,bI,rr]
  simp only [gX]at hn'
  rw [hn']
def sK(ns:List aD):Option Tr:=match rr ns []with
 |some [t]=>if ns.length<=1000 then some t else none
 |_=>none
def ro{t:Tr}(h:sK ns=some t):t.wf/\ns=t.flat 0/\t.size<=1000:=by
 unfold sK at h
 split at h
 ·rename_i t0 hp
  split at h
  ·rename_i hl
   cases h
   obtain⟨H,J⟩:=BR hp (fun t M=>by cases M)
   simp only [yR,df,qo]at H
   exact⟨J t (oh ..),H.symm,by rw [<-t.flat_len 0,H];exact hl⟩
  ·cases h
 ·cases h
def zn{t:Tr}(h:t.wf)(hs:t.size<=1000):sK (t.flat 0)=some t:=by
 unfold sK
 have h0:=NJ t [] h
 simp only [df]at h0
 rw [h0]
 simp only [t.flat_len,hs,jb]
def fl:Tr->Nat->List Int
 | .lf _,s=>[(s:Int)]
 | .un _ a,s=>fl a s++[(s:Int)]
 | .bi _ a b,s=>fl a s++fl b (s+a.size)++[(s:Int)]
def RL:List Tr->List Int
 |[]=>[]
 |t::st=>RL st++fl t (df st)
def nO:List Tr->List Int
 |[]=>[]
 |t::st=>nO st++[((df st+t.size:Nat):Int)-1]
def yj(t:Tr): ∀s,(fl t s).length=t.size:=by
 induction t with
 |lf n=>intro s;rfl
 |un n a ih=>intro s;simp [fl,Tr.size,ih]
 |bi n a b iha ihb=>intro s;simp [fl,Tr.size,iha,ihb];omega
def wJ: ∀st:List Tr,(RL st).length=df st
 |[]=>rfl
 |t::st=>by simp [RL,df,wJ st,yj]
def ed: ∀st:List Tr,(nO st).length=st.length
 |[]=>rfl
 |t::st=>by simp [nO,ed st]
def Vj(t:Tr)(s:Nat):(fl t s)[t.size-1]? =some (s:Int):=by
 cases t with
 |lf n=>rfl
 |un n a=>simp only [fl,Tr.size];rw [xl (by rw [yj];omega),yj];simp
 |bi n a b=>simp only [fl,Tr.size];rw [xl (by simp [yj]),pg,yj,yj];simp
def G6(t:Tr)(st:List Tr)(rest:List Int):(RL st++fl t (df st)++rest)[df st+t.size-1]? =some (df st:Int):=by
 have:=t.size_pos
 rw [Cq (by rw [pg,wJ,yj];omega),xl (by rw [wJ];omega),wJ,show df st+t.size-1-df st=t.size-1 from by omega]
 exact Vj t _
def RP: ∀(ns:List aD) (st:List Tr),df st+ns.length<=100000->mb ns (df st) (RL st) (nO st)=some (match rr ns st with
   |some st' =>(RL st',decide (st'.length=1)&&decide (df st' <=1000))
   |none=>([],false)):=by
 intro ns
 induction ns with
 |nil=>
  intro st _
  simp only [mb,rr,ed,wJ]
  congr 2
  congr 1
  ·rw [xk];simp;omega
  ·rw [xk];simp;omega
 |cons n ns ih=>
  intro st hs
  simp only [ji]at hs
  have hll:=IL st
  unfold mb
  rw [Bl]
  simp only [bI,ed,Hm]
  unfold rr
  unfold push
  -- the parts
  cases hk:pk n.Tag with
  |none=>
   have e:JW n.Tag= -1:=by unfold JW;rw [hk]
   simp [e]
  |some k=>
   have e:JW n.Tag=(k:Int):=by unfold JW;rw [hk]
   have hk3:k=0\/k=1\/k=2:=by
    unfold pk at hk
    repeat' split at hk
    all_goals simp at hk
    all_goals omega
   rw [e]
   rcases hk3 with rfl|rfl|rfl
   ·-- none
    simp only []
    have c1:(decide (((0:Nat):Int)<0)||decide ((st.length:Int)<((0:Nat):Int)))=false:=by simp
    simp only [c1,Bu,jb,bI]
    cases hc:EX n with
    |false=>simp
    |true=>
     simp only [qY,kM,jh,wY]
     rw [kE st.length st.length (by rw [dW (by omega) (by omega)];omega) rfl (f7 _) (by rw [ed];exact f7 _)]
     have hd:(List.take st.length (nO st)).drop st.length=[]:=rE (by simp;omega)
     simp only [hd,bI,nt]
     by_cases hL:n.L= -1/\n.R= -1
     ·have A:(n.L== -1&&n.R== -1)=true:=by simp [hL]
      rw [cx A,cm (by simp [hL.1,hL.2])]
      rw [dF (by simp only [ji,sG,wJ];omega)]
      simp only [bI]
      rw [kE (i:=0) 0 st.length rfl (by rw [ed,dW (by omega) (by omega)];omega) (jR _) (by rw [ed];exact f7 _)]
      rw [rF (by rw [ed];exact f7 _),sF]
      simp only [bI]
      rw [dF (by simp only [ji,sG,ed];omega)]
      simp only [bI]
      have J:=ih (.lf (gX n (-1) (-1))::st) (by simp [df,Tr.size];omega)
      simp only [df,Tr.size,RL,fl,nO]at J
      rw [show(((df st+1:Nat):Int)-1)=(df st:Int)from by omega]at J
      exact J
     ·have A:(n.L== -1&&n.R== -1)=false:=by
       rw [Ix];intro h;apply hL;simpa using h
      rw [A]
      rw [cx (by
       simp only [zh,qh]
       intro h
       have H:(-1:Int)=n.L:=by injection h
       have J:(-1:Int)=n.R:=by injection h with _ h;injection h
       exact hL ⟨H.symm,J.symm⟩)]
      simp
   ·-- one
    cases st with
    |nil=>simp
    |cons a st=>
     simp only []
     have c1:(decide (((1:Nat):Int)<0)||decide (((a::st).length:Int)<((1:Nat):Int)))=false:=by simp;omega
     simp only [c1,Bu,jb,bI]
     cases hc:EX n with
     |false=>simp
     |true=>
      simp only [qY,kM,jh,wY]
      simp only [ji]at hll ⊢
      simp only [df]at hs hll
      have hap:=a.size_pos
      rw [kE st.length (st.length+1) (by rw [dW (by omega) (by omega)];omega) (by omega) (by omega) (by rw [ed];exact f7 _)]
      have hd:(List.take (st.length+1) (nO (a::st))).drop st.length=[((df st+a.size:Nat):Int)-1]:=by
       rw [rF (by rw [ed];exact f7 _)]
       simp only [nO]
       rw [MS (by rw [ed];exact f7 _),rE (by rw [ed];exact f7 _),qo]
      rw [hd]
      simp only [bI,nt]
      rw [jU (df st+a.size-1) (by omega)]
      have hf:=G6 a st []
      rw [Cn]at hf
      simp only [RL]
      rw [hf]
      simp only [bI]
      rw [jU 0 rfl]
      simp only [IB,bI]
      have hset:([(-1:Int),-1].set ((0:Nat):Int).toNat (((df st+a.size:Nat):Int)-1))=[((df st+a.size:Nat):Int)-1,-1]:=rfl
      rw [hset]
      by_cases hL:n.L=((df st+a.size:Nat):Int)-1/\n.R= -1
      ·have A:(n.L==((df st+a.size:Nat):Int)-1&&n.R== -1)=true:=by simp [hL]
       rw [cx A,cm (by rw [hL.1,hL.2];simp)]
       rw [dF (by simp only [ji,sG,pg,wJ,yj];omega)]
       simp only [bI]
       rw [kE (i:=0) 0 st.length rfl (by rw [ed,dW (by simp<;>omega) (by simp<;>omega)];simp) (jR _) (by rw [ed];simp)]
       have M:(List.take st.length (nO (a::st))).drop 0=nO st:=by
        simp only [nO,sF]
        rw [za (by rw [ed];exact f7 _),rF (by rw [ed];exact f7 _)]
       rw [M]
       simp only [bI]
       rw [dF (by simp only [ji,sG,ed];omega)]
       simp only [bI]
       have J:=ih (.un (gX n (-1) (-1)) a::st) (by simp [df,Tr.size];omega)
       simp only [df,Tr.size,RL,fl,nO]at J
       rw [show(((df st+(a.size+1):Nat):Int)-1)=((df st+a.size:Nat):Int)from by omega]at J
       have hm:min ((df (a::st):Nat):Int) (df st:Int)=(df st:Int):=by simp only [df];omega
       rw [hm]
       simp only [gF]at J ⊢
       exact J
      ·have A:(n.L==((df st+a.size:Nat):Int)-1&&n.R== -1)=false:=by
        rw [Ix];intro h;apply hL;simpa using h
       rw [A]
       rw [cx (by
        simp only [zh,qh]
        intro h
        have H:((df st+a.size:Nat):Int)-1=n.L:=by injection h
        have J:(-1:Int)=n.R:=by injection h with _ h;injection h
        exact hL ⟨H.symm,J.symm⟩)]
       simp
   ·-- two
    cases st with
    |nil=>simp
    |cons b st=>
     cases st with
     |nil=>simp
     |cons a st=>
      simp only []
      have c1:(decide (((2:Nat):Int)<0)||decide (((b::a::st).length:Int)<((2:Nat):Int)))=false:=by simp;omega
      simp only [c1,Bu,jb,bI]
      cases hc:EX n with
      |false=>simp
      |true=>
       simp only [qY,kM,jh,wY]
       simp only [ji]at hll ⊢
       simp only [df]at hs hll
       have hap:=a.size_pos
       have hbp:=b.size_pos
       rw [kE st.length (st.length+1+1) (by rw [dW (by omega) (by omega)];omega) (by omega) (by omega) (by rw [ed];exact f7 _)]
       have hd:(List.take (st.length+1+1) (nO (b::a::st))).drop st.length=[((df st+a.size:Nat):Int)-1,((df st+a.size+b.size:Nat):Int)-1]:=by
        rw [rF (by rw [ed];exact f7 _)]
        simp only [nO,df,gF]
        rw [MS (by rw [ed];exact f7 _),rE (by rw [ed];exact f7 _),qo]
        rfl
       rw [hd]
       simp only [bI,nt]
       simp only [RL,df]
       rw [jU (df st+a.size-1) (by omega)]
       rw [G6 a st (fl b (df st+a.size))]
       simp only [bI]
       rw [jU 0 rfl]
       simp only [IB,bI]
       have hset:([(-1:Int),-1].set ((0:Nat):Int).toNat (((df st+a.size:Nat):Int)-1))=[((df st+a.size:Nat):Int)-1,-1]:=rfl
       rw [hset]
       rw [jU (df st+a.size+b.size-1) (by omega)]
       have hf:=G6 b (a::st) []
       rw [Cn]at hf
       simp only [RL,df]at hf
       rw [hf]
       simp only [bI]
       rw [jU (0+1) rfl]
       simp only [List.getElem?_cons_succ,IB,bI]
       have hset2:([((df st+a.size:Nat):Int)-1,-1].set ((0+1:Nat):Int).toNat (((df st+a.size+b.size:Nat):Int)-1))=[((df st+a.size:Nat):Int)-1,((df st+a.size+b.size:Nat):Int)-1]:=rfl
       rw [hset2]
       by_cases hL:n.L=((df st+a.size:Nat):Int)-1/\n.R=((df st+a.size+b.size:Nat):Int)-1
       ·have A:(n.L==((df st+a.size:Nat):Int)-1&&n.R==((df st+a.size+b.size:Nat):Int)-1)=true:=by rw [hL.1,hL.2];simp
        rw [cx A,cm (by rw [hL.1,hL.2];simp)]
        rw [dF (by simp only [ji,sG,pg,wJ,yj];omega)]
        simp only [bI]
        rw [kE (i:=0) 0 st.length rfl (by rw [ed,dW (by simp;omega) (by simp;omega)];simp;omega) (jR _) (by rw [ed];simp;omega)]
        have M:(List.take st.length (nO (b::a::st))).drop 0=nO st:=by
         simp only [nO,sF,gF]
         rw [za (by rw [ed];exact f7 _),rF (by rw [ed];exact f7 _)]
        rw [M]
        simp only [bI]
        rw [dF (by simp only [ji,sG,ed];omega)]
        simp only [bI]
        have J:=ih (.bi (gX n (-1) (-1)) a b::st) (by simp [df,Tr.size];omega)
        simp only [df,Tr.size,RL,fl,nO]at J
        rw [show(((df st+(a.size+b.size+1):Nat):Int)-1)=((df st+a.size+b.size:Nat):Int)from by omega,show df st+(a.size+b.size+1)=df st+a.size+b.size+1 from by omega]at J
        have hm:min (min (((df st+a.size+b.size:Nat)):Int) (df st:Int)) ((df st+a.size:Nat):Int)=(df st:Int):=by omega
        rw [hm]
        simp only [gF]at J ⊢
        exact J
       ·have A:(n.L==((df st+a.size:Nat):Int)-1&&n.R==((df st+a.size+b.size:Nat):Int)-1)=false:=by
         rw [Ix];intro h;apply hL;simpa using h
        rw [A]
        rw [cx (by
         simp only [zh,qh]
         intro h
         have H:((df st+a.size:Nat):Int)-1=n.L:=by injection h
         have J:((df st+a.size+b.size:Nat):Int)-1=n.R:=by injection h with _ h;injection h
         exact hL ⟨H.symm,J.symm⟩)]
        simp

def Az{n:Nat}(h:n<=1000000):n<=fc:=by unfold fc;omega
def lS(ns:List aD):Bool:=(sK ns).isSome
def LI{st:List Tr}(h:rr ns []=some st):df st=ns.length:=by
 have:=(BR h (fun t M=>by cases M)).1
 rw [<-Je,this];simp [yR]
def tE(e:aZ)(h:e.Nodes.length<=100000):rj e=some (if lS e.Nodes then 0 else 200):=by
 unfold rj zS lS sK
 have:=RP e.Nodes [] (by simpa [df] using h)
 simp only [df,RL,nO]at this
 rw [this]
 cases hp:rr e.Nodes []with
 |none=>rfl
 |some st=>
  have hsz:=LI hp
  match st,hsz with
  |[],_=>rfl
  |[t],hsz=>
   simp only [bI,hsz]
   by_cases hl:e.Nodes.length<=1000<;>simp [hl]
  |t::t2::st,_=>simp
def UX(t:Tr):t.wf-> ∀(P R N:List aD) (fu:Nat),N=P++t.flat P.length++R->t.size<=fu->N.length<=100000->jn fu ⟨N⟩ (((P.length+t.size:Nat):Int)-1)=some (t.size:Int):=by
 induction t with
 |lf n=>
  intro⟨H,J,h3,h4⟩ P R N fu hN hf hl
  have hNl:=congrArg List.length hN
  simp only [pg,Tr.flat_len]at hNl
  simp only [Tr.size]at hf hNl ⊢
  obtain⟨fu,rfl⟩: ∃k,fu=k+1:=⟨fu-1,by omega⟩
  unfold jn
  have D:N[P.length]? =some (gX n (-1) (-1)):=by
   rw [hN,gF,xl (f7 _),FU];rfl
  rw [cm (by simp;omega),jU P.length (by omega),D]
  have e1:(gX n (-1) (-1)).Tag=n.Tag:=rfl
  simp only [bI]
  rw [e1,rU]
  have e:JW n.Tag=0:=by unfold JW;rw [H];rfl
  simp only [e,bI,kU]
  have e2:EX (gX n (-1) (-1))=true:=J
  rw [e2]
  simp [gX]
 |un n a ih=>
  intro⟨⟨H,J,h3,h4⟩,ha⟩ P R N fu hN hf hl
  obtain⟨m,hm⟩: ∃m,m=gX n (((P.length+a.size:Nat):Int)-1) (-1):=⟨_,rfl⟩
  have hNl:=congrArg List.length hN
  simp only [pg,Tr.flat_len]at hNl
  simp only [Tr.size]at hf hNl ⊢
  simp only [Tr.flat,<-hm]at hN
  obtain⟨fu,rfl⟩: ∃k,fu=k+1:=⟨fu-1,by omega⟩
  have hpos:=a.size_pos
  have hi:=ih ha P ([m]++R) N fu (by rw [hN];simp only [gF]) (by omega) hl
  unfold jn
  have D:N[P.length+a.size]? =some m:=by
   rw [hN,gF,gF,<-gF P,xl (by simp [a.flat_len])]
   simp [a.flat_len]
  rw [cm (by simp;omega),jU (P.length+a.size) (by omega),D]
  simp only [bI]
  have e1:m.Tag=n.Tag:=by rw [hm];rfl
  rw [e1,rU]
  have e:JW n.Tag=1:=by unfold JW;rw [H];rfl
  simp only [e,bI,kU]
  have e2:EX m=true:=by rw [hm];exact J
  have eL:m.L=((P.length+a.size:Nat):Int)-1:=by rw [hm];rfl
  have eR:m.R= -1:=by rw [hm];rfl
  rw [dW (n:=((P.length+(a.size+1):Nat):Int)-1-1) (by omega) (by omega),show(((P.length+(a.size+1):Nat):Int)-1-1)=(((P.length+a.size:Nat):Int)-1)from by omega]
  rw [hi]
  simp only [bI]
  rw [dW (n:=(a.size:Int)+1) (by omega) (by omega)]
  have n1: ¬a.size=0:=by omega
  simp [e2,eL,eR,n1]
 |bi n a b iha ihb=>
  intro⟨⟨H,J,h3,h4⟩,ha,A⟩ P R N fu hN hf hl
  obtain⟨m,hm⟩: ∃m,m=gX n (((P.length+a.size:Nat):Int)-1) (((P.length+a.size+b.size:Nat):Int)-1):=⟨_,rfl⟩
  have hNl:=congrArg List.length hN
  simp only [pg,Tr.flat_len]at hNl
  simp only [Tr.size]at hf hNl ⊢
  simp only [Tr.flat,<-hm]at hN
  obtain⟨fu,rfl⟩: ∃k,fu=k+1:=⟨fu-1,by omega⟩
  have hap:=a.size_pos
  have hbp:=b.size_pos
  have hi1:=iha ha P (b.flat (P.length+a.size)++[m]++R) N fu (by rw [hN];simp only [gF]) (by omega) hl
  have hi2:=ihb A (P++a.flat P.length) ([m]++R) N fu (by rw [hN];simp only [gF,pg,a.flat_len]) (by omega) hl
  rw [pg,a.flat_len]at hi2
  unfold jn
  have D:N[P.length+a.size+b.size]? =some m:=by
   rw [hN,gF,gF,<-gF P,xl (by simp [a.flat_len,b.flat_len];omega)]
   have:P.length+a.size+b.size-(P++(a.flat P.length++b.flat (P.length+a.size))).length=0:=by simp [a.flat_len,b.flat_len];omega
   rw [this];rfl
  rw [cm (by simp;omega),jU (P.length+a.size+b.size) (by omega),D]
  simp only [bI]
  have e1:m.Tag=n.Tag:=by rw [hm];rfl
  rw [e1,rU]
  have e:JW n.Tag=2:=by unfold JW;rw [H];rfl
  simp only [e,bI,kU]
  have e2:EX m=true:=by rw [hm];exact J
  have eL:m.L=((P.length+a.size:Nat):Int)-1:=by rw [hm];rfl
  have eR:m.R=((P.length+a.size+b.size:Nat):Int)-1:=by rw [hm];rfl
  rw [dW (n:=((P.length+(a.size+b.size+1):Nat):Int)-1-1) (by omega) (by omega),show(((P.length+(a.size+b.size+1):Nat):Int)-1-1)=(((P.length+a.size+b.size:Nat):Int)-1)from by omega]
  rw [hi2]
  simp only [bI]
  rw [dW (n:=((P.length+a.size+b.size:Nat):Int)-1-(b.size:Int)) (by omega) (by omega),show((P.length+a.size+b.size:Nat):Int)-1-(b.size:Int)=((P.length+a.size:Nat):Int)-1 from by omega]
  rw [hi1]
  simp only [bI]
  rw [dW (n:=(a.size:Int)+(b.size:Int)) (by omega) (by omega),dW (n:=(a.size:Int)+(b.size:Int)+1) (by omega) (by omega)]
  have n1: ¬a.size=0:=by omega
  have n2: ¬b.size=0:=by omega
  have e5:(P.length:Int)+(a.size:Int)+(b.size:Int)-1-(b.size:Int)=(P.length:Int)+(a.size:Int)-1:=by omega
  simp [e2,eL,eR,n1,n2,e5]
def UY(N:List aD)(hN:N.length<=100000): ∀(fu q:Nat),q<=N.length->q<fu-> ∃k:Nat,jn fu ⟨N⟩ ((q:Int)-1)=some (k:Int)/\(k=0\/ ∃(t:Tr) (P R:List aD),t.wf/\t.size=k/\N=P++t.flat P.length++R/\P.length+k=q):=by
 intro fu
 induction fu with
 |zero=>intro q _ h;omega
 |succ fu ih=>
  intro q hq hf
  unfold jn
  by_cases h0:q=0
  ·subst h0
   exact⟨0,by rw [cx (by simp)];rfl,.inl rfl⟩
  rw [cm (by simp;omega),jU (q-1) (by omega)]
  have hlt:q-1<N.length:=by omega
  rw [lr hlt]
  obtain⟨n,hn⟩: ∃n,n=N[q-1]:=⟨_,rfl⟩
  rw [<-hn]
  have hd:N=N.take (q-1)++([n]++N.drop q):=by
   have H:=uN (q-1) N
   rw [sH hlt,<-hn,show q-1+1=q from by omega]at H
   exact H.symm
  simp only [bI,rU,kU]
  cases hk:pk n.Tag with
  |none=>
   have e:JW n.Tag= -1:=by unfold JW;rw [hk]
   exact⟨0,by simp [e],.inl rfl⟩
  |some k=>
   have e:JW n.Tag=(k:Int):=by unfold JW;rw [hk]
   have hk3:k=0\/k=1\/k=2:=by
    unfold pk at hk
    repeat' split at hk
    all_goals simp at hk
    all_goals omega
   cases hc:EX n with
   |false=>exact⟨0,by simp [e,hc],.inl rfl⟩
   |true=>
    rcases hk3 with rfl|rfl|rfl
    ·rw [e]
     by_cases hL:n.L= -1/\n.R= -1
     ·refine⟨1,by simp [hL],.inr ⟨.lf (gX n (-1) (-1)),N.take (q-1),N.drop q,⟨hk,hc,rfl,rfl⟩,rfl,?_,by simp;omega⟩⟩
      simp only [Tr.flat]
      rw [At hL.1 hL.2,gF]
      exact hd
     ·refine⟨0,?_,.inl rfl⟩
      have:(n.L != -1||n.R != -1)=true:=by
       rw [zg,tN,tN]
       by_cases hl:n.L= -1
       ·exact .inr fun h=>hL ⟨hl,h⟩
       ·exact .inl hl
      simp [this]
    ·rw [e,dW (by omega) (by omega)]
     have e9:(((q-1:Nat):Int)-1)=(q:Int)-1-1:=by omega
     obtain⟨r2,J,h2'⟩:=ih (q-1) (by omega) (by omega)
     rw [e9]at J
     rw [J]
     rcases h2' with rfl|⟨t,P,R,hw,hs,hN2,hl⟩
     ·exact⟨0,by simp,.inl rfl⟩
     ·have hp:=t.size_pos
      by_cases hL:n.L=(q:Int)-1-1/\n.R= -1
      ·refine⟨r2+1,?_,.inr ⟨.un (gX n (-1) (-1)) t,P,N.drop q,⟨⟨hk,hc,rfl,rfl⟩,hw⟩,by simp only [Tr.size];omega,?_,by omega⟩⟩
       ·simp only [bI]
        rw [dW (n:=(r2:Int)+1) (by omega) (by omega)]
        have: ¬(r2=0):=by omega
        simp [hL,this]
       ·simp only [Tr.flat]
        rw [At (by rw [hL.1];omega) hL.2]
        have M:N.take (q-1)=P++t.flat P.length:=by
         rw [hN2,za (by simp [t.flat_len];omega),rF (by simp [t.flat_len];omega)]
        rw [M]at hd
        simpa only [gF] using hd
      ·refine⟨0,?_,.inl rfl⟩
       have:(n.L !=(q:Int)-1-1||n.R != -1)=true:=by
        rw [zg,tN,tN]
        by_cases hl:n.L=(q:Int)-1-1
        ·exact .inr fun h=>hL ⟨hl,h⟩
        ·exact .inl hl
       simp [this]
    ·rw [e,dW (n:=(q:Int)-1-1) (by omega) (by omega)]
     have e9:(((q-1:Nat):Int)-1)=(q:Int)-1-1:=by omega
     obtain⟨r2,J,h2'⟩:=ih (q-1) (by omega) (by omega)
     rw [e9]at J
     rw [J]
     rcases h2' with rfl|⟨t,P,R,hw,hs,hN2,hl⟩
     ·exact⟨0,by simp,.inl rfl⟩
     ·have hp:=t.size_pos
      simp only [bI]
      rw [dW (n:=(q:Int)-1-1-(r2:Int)) (by omega) (by omega)]
      have e8:(((q-1-r2:Nat):Int)-1)=(q:Int)-1-1-(r2:Int):=by omega
      have n2: ¬(r2=0):=by omega
      obtain⟨r3,h3,h3'⟩:=ih (q-1-r2) (by omega) (by omega)
      rw [e8]at h3
      rw [h3]
      rcases h3' with rfl|⟨t3,P3,R3,hw3,hs3,hN3,hl3⟩
      ·exact⟨0,by simp,.inl rfl⟩
      ·have hp3:=t3.size_pos
       have n3: ¬(r3=0):=by omega
       by_cases hL:n.R=(q:Int)-1-1/\n.L=(q:Int)-1-1-(r2:Int)
       ·refine⟨r3+r2+1,?_,.inr ⟨.bi (gX n (-1) (-1)) t3 t,P3,N.drop q,⟨⟨hk,hc,rfl,rfl⟩,hw3,hw⟩,by simp only [Tr.size];omega,?_,by omega⟩⟩
        ·simp only [bI]
         rw [dW (n:=(r3:Int)+(r2:Int)) (by omega) (by omega),dW (n:=(r3:Int)+(r2:Int)+1) (by omega) (by omega)]
         simp [hL,n2,n3]
        ·simp only [Tr.flat]
         rw [At (by rw [hL.2];omega) (by rw [hL.1];omega)]
         have M:N.take (q-1)=P++t.flat P.length:=by
          rw [hN2,za (by simp [t.flat_len];omega),rF (by simp [t.flat_len];omega)]
         have hP:P=N.take P.length:=by
          conv=>rhs;rw [hN2,gF,za (f7 _),rF (f7 _)]
         have hP3:P=P3++t3.flat P3.length:=by
          rw [hP]
          have:P.length=P3.length+t3.size:=by omega
          conv=>lhs;rw [this,hN3]
          rw [za (by simp [t3.flat_len]),rF (by simp [t3.flat_len])]
         have hPl:P.length=P3.length+t3.size:=by omega
         rw [M,hPl]at hd
         rw [hP3]at hd
         simpa only [gF] using hd
       ·clear ih hN2 hN3
        refine⟨0,?_,.inl rfl⟩
        have:(n.R !=(q:Int)-1-1||n.L !=(q:Int)-1-1-(r2:Int))=true:=by
         rw [zg,tN,tN]
         by_cases hl:n.R=(q:Int)-1-1
         ·exact .inr fun h=>hL ⟨hl,h⟩
         ·exact .inl hl
        have h' :=this
        rw [zg,tN,tN]at h'
        simp [n2,n3]
        intro H J
        exact absurd J (by rcases h' with h' |h';exact absurd H h';exact h')
def GE(e:aZ):wt e=some (lS e.Nodes):=by
 unfold wt lS
 by_cases h:1<=e.Nodes.length/\e.Nodes.length<=1000
 ·rw [cx (by simp;omega),dW (by omega) (by omega)]
  unfold BO
  obtain⟨k,H,J⟩:=UY e.Nodes (by omega) fc e.Nodes.length (f7 _) (Iy (Nat.lt_succ_self _) (Az (by omega)))
  have h1' :jn fc e ((e.Nodes.length:Int)-1)=some (k:Int):=H
  rw [h1']
  simp only [bI]
  congr 1
  rw [xk]
  constructor
  ·intro hk
   have hk' :k=e.Nodes.length:=by have:=eq_of_beq hk;omega
   rcases J with rfl|⟨t,P,R,hw,hs,hN,hl⟩
   ·omega
   ·have hP:P=[]:=y9 (by omega)
    subst hP
    have hR:R=[]:=by
     have:=congrArg List.length hN
     simp [t.flat_len]at this
     exact y9 (by omega)
    subst hR
    have hN' :e.Nodes=t.flat 0:=by simpa using hN
    rw [hN',zn hw (by omega)];rfl
  ·intro hi
   cases M:sK e.Nodes with
   |none=>rw [M]at hi;cases hi
   |some t=>
    obtain⟨hw,hN,hs⟩:=ro M
    have hlen:e.Nodes.length=t.size:=by rw [hN,t.flat_len]
    have h3:=UX t hw [] [] e.Nodes fc (by simpa using hN) (Az (by omega)) (by omega)
    simp only [sG,sE]at h3
    rw [<-hlen]at h3
    have h4:some (k:Int)=some (e.Nodes.length:Int):=H.symm.trans h3
    simpa using h4
 ·rw [cm (by simp;omega)]
  simp only [bI]
  congr 1
  symm
  rw [Ix]
  intro hi
  cases M:sK e.Nodes with
  |none=>rw [M]at hi;cases hi
  |some t=>
   obtain⟨hw,hN,hs⟩:=ro M
   have hlen:e.Nodes.length=t.size:=by rw [hN,t.flat_len]
   have:=t.size_pos
   omega
def NA(h:lS ns=true):1<=ns.length/\ns.length<=1000:=by
 unfold lS at h
 cases M:sK ns with
 |none=>rw [M]at h;cases h
 |some t=>
  obtain⟨hw,hN,hs⟩:=ro M
  have hlen:ns.length=t.size:=by rw [hN,t.flat_len]
  have:=t.size_pos
  omega

def OA(p:List Int)(hp:p.length<=8000)(i:Nat)(y:List Int)(hy:i+y.length=p.length): ∀(k i1:Nat) (x:List Int) (x1:Nat),i1+k=y.length->0<i1->x.length=p.length->x1+1<=i+i1->x.drop (i+i1-1)=p.drop (i+i1-1)->
  eW i y k i1 x (x1:Int)=some (x.take x1++zZ ((p[i+i1-1]?).getD 0) (p.drop (i+i1))):=by
 intro k
 induction k with
 |zero=>
  intro i1 x x1 H h0 D J h3
  simp only [eW]
  have hx1:x1<=x.length:=by omega
  rw [xu hx1 (f7 _)]
  simp only [bI,A3,Cu]
  rw [show((0:Int))=((0:Nat):Int)from rfl,xu (jR _) (by simp;omega)]
  simp only [bI,sF]
  have hn:p.drop (i+i1)=[]:=O4 (by omega)
  rw [hn,Mq,Cn,za (by simp;omega),yL,Nat.min_self]
 |succ k ih=>
  intro i1 x x1 H h0 D J h3
  have e1:x[i+i1]? =p[i+i1]? :=by
   have:=congrArg (fun l:List Int=>l[1]?) h3
   simp only [y0]at this
   rwa [show i+i1-1+1=i+i1 from by omega]at this
  have e0:x[i+i1-1]? =p[i+i1-1]? :=by
   have:=congrArg (fun l:List Int=>l[0]?) h3
   simpa only [y0,FT] using this
  have hlt:i+i1<p.length:=by omega
  have g1:Ig x (i:Int) y.length (i1:Int)=some p[i+i1]:=by
   unfold Ig
   rw [cx (by omega),show(i:Int)+(i1:Int)=((i+i1:Nat):Int)from by omega,jt,e1,lr hlt]
  have g0:Ig x (i:Int) y.length (IntKind.i64.wrap ((i1:Int)-1))=some p[i+i1-1]:=by
   rw [dW (by omega) (by omega)]
   unfold Ig
   rw [cx (by omega),show(i:Int)+((i1:Int)-1)=((i+i1-1:Nat):Int)from by omega,jt,e0,lr (by omega)]
  have hd:p.drop (i+i1)=p[i+i1]::p.drop (i+i1+1):=sH hlt
  have hp1:(p[i+i1-1]?).getD 0=p[i+i1-1]:=by rw [lr (by omega)];rfl
  simp only [eW,g1,g0,bI]
  rw [hd,hp1]
  by_cases hx2:p[i+i1]=p[i+i1-1]
  ·rw [cm (by simp [hx2])]
   have h3' :x.drop (i+(i1+1)-1)=p.drop (i+(i1+1)-1):=by
    have:=congrArg (List.drop 1) h3
    rwa [xR,xR,show i+i1-1+1=i+(i1+1)-1 from by omega]at this
   rw [ih (i1+1) x x1 (by omega) (by omega) D (by omega) h3']
   rw [Jl hx2,show i+(i1+1)-1=i+i1 from by omega,lr hlt,show i+(i1+1)=i+i1+1 from by omega]
   rfl
  ·rw [cx (by simp [hx2]),jt,lr (by omega)]
   simp only [bI,Cu]
   rw [dW (by omega) (by omega),show((x1:Int)+1)=((x1+1:Nat):Int)from by omega]
   have h3' :(x.set x1 p[i+i1]).drop (i+(i1+1)-1)=p.drop (i+(i1+1)-1):=by
    rw [List.drop_set_of_lt (by omega)]
    have:=congrArg (List.drop 1) h3
    rwa [xR,xR,show i+i1-1+1=i+(i1+1)-1 from by omega]at this
   rw [ih (i1+1) _ (x1+1) (by omega) (by omega) (by simpa using D) (by omega) h3']
   rw [Qs hx2,show i+(i1+1)-1=i+i1 from by omega,lr hlt,show i+(i1+1)=i+i1+1 from by omega]
   have M:(x.set x1 p[i+i1]).take (x1+1)=x.take x1++[p[i+i1]]:=by
    rw [MU (by simp;omega),List.take_set_of_le (by omega)]
    simp
   rw [M]
   simp
def OB(p:List Int)(hp:p.length<=8000):lv p=some (Qr p):=by
 unfold lv
 by_cases J:p.length<2
 ·rw [cx (by simp;omega)]
  match p,J with
  |[],_=>rfl
  |[x],_=>rfl
 ·rw [cm (by simp;omega)]
  have key: ∀(l:List Int) (i:Nat),p.drop i=l->0<i->i<=p.length->Qr p=p.take i++zZ ((p[i-1]?).getD 0) (p.drop i)->fS p l i=some (Qr p):=by
   intro l
   induction l with
   |nil=>
    intro i H h0 hle h3
    have:=KT.1 H
    simp only [fS]
    rw [h3,H,rF (by omega),Mq,Cn]
   |cons x t ih=>
    intro i H h0 hle h3
    have hi:i<p.length:=by
     rcases oP i p.length with h|h
     ·exact h
     ·rw [O4 h]at H;cases H
    have D:x=p[i]:=by rw [sH hi]at H;exact(Cr H).1.symm
    have M:p.drop (i+1)=t:=by rw [<-xR,H];rfl
    have hp1:(p[i-1]?).getD 0=p[i-1]:=by rw [lr (by omega)];rfl
    simp only [fS]
    rw [dW (by omega) (by omega),show(i:Int)-1=((i-1:Nat):Int)from by omega,jt,lr (by omega)]
    simp only [bI]
    by_cases he:x=p[i-1]
    ·rw [cx (by simp [he])]
     rw [xu hle (f7 _)]
     simp only [bI,A3]
     rw [OA p hp i (p.drop i) (by simp;omega) _ 1 p i (by simp;omega) (by omega) rfl (by omega) (by simp)]
     rw [h3,H,hp1,Jl he,<-M,D]
     rw [show i+1-1=i from by omega,lr hi];rfl
    ·rw [cm (by simp [he])]
     refine ih (i+1) M (by omega) (by omega) ?_
     rw [h3,H,hp1,Qs he,MU hi,<-M,D,show i+1-1=i from by omega,lr hi]
     rw [gF];rfl
  have hpc:p=p[0]::p.drop 1:=by
   have:=sH (l:=p) (i:=0) (by omega)
   simpa using this
  refine key (p.drop 1) 1 rfl (by omega) (by omega) ?_
  have e:(p[1-1]?).getD 0=p[0]:=by simp [lr (show 0<p.length by omega)]
  rw [e]
  conv=>lhs;rw [hpc]
  have e2:p.take 1=[p[0]]:=by
   conv=>lhs;rw [hpc]
   rfl
  rw [e2];rfl

def Rz(l:List Int)(z:Int):z∈sortI l↔z∈l:=by unfold sortI;simp
def Ck: ∀(ns:List aD) (out:List Int),out.length+ns.length<=8000-> ∃cs,n7 ns out=some cs/\ ∀c,c∈cs↔c∈out\/ ∃n∈ns,n.Tag=2/\n.Col=c
 |[],out,h=>by
  unfold n7;rw [IJ]
  rw [cx (by simp at h;omega)]
  simp only [bI]
  rw [OB _ (by rw [DI];simpa using h)]
  exact⟨_,rfl,fun c=>by rw [RA,Rz];simp⟩
 |n::ns,out,h=>by
  simp only [ji]at h
  unfold n7
  by_cases M:n.Tag=2
  ·rw [cx (by simp [M]),dF (by simp;omega)]
   simp only [bI]
   obtain⟨cs,H,J⟩:=Ck ns (out++[n.Col]) (by simp;omega)
   exact⟨cs,H,fun c=>by rw [J];simp [M,or_assoc,eq_comm]⟩
  ·rw [cm (by simp [M])]
   obtain⟨cs,H,J⟩:=Ck ns out (by omega)
   exact⟨cs,H,fun c=>by rw [J];simp [M]⟩
def Kw(e:aZ)(h:lS e.Nodes=true): ∃cs,xH e=some cs/\ ∀c,c∈cs↔ ∃n∈e.Nodes,n.Tag=2/\n.Col=c:=by
 have hl:=NA h
 unfold xH
 rw [tE e (by omega),h]
 obtain⟨cs,H,J⟩:=Ck e.Nodes [] (by simp;omega)
 exact⟨cs,by simpa using H,fun c=>by rw [J];simp⟩
def kn(tag l r:Int):Int×Bool:=(sP tag l r).getD (0,false)
def Bd(tag l r:Int):sP tag l r=some (kn tag l r):=by
 unfold kn sP q8
 simp only [bI]
 repeat' split
 all_goals simp
def k4(k:Int):Prop:=k=0\/k=1\/k=2\/k=3
def Xe(tag l r:Int):k4 (kn tag l r).1:=by
 unfold kn sP q8
 simp only [bI]
 repeat' split
 all_goals simp [k4]
def OU(kinds:List Int)(n:aD)(x:Int)(D:k4 x)(hk:pk n.Tag=some 1):kA kinds n [x]=some (if(kn n.Tag x 0).2 then((kn n.Tag x 0).1,0)else(0,201)):=by
 obtain⟨tag,L,R,col,v⟩:=n
 have M:tag=4\/tag=5\/tag=6\/tag=7:=by
  unfold pk at hk
  repeat' split at hk
  all_goals simp at hk
  rename_i h
  have h:4<=tag/\tag<=7:=h
  omega
 rcases M with rfl|rfl|rfl|rfl<;>rcases D with rfl|rfl|rfl|rfl<;>rfl
def OT(kinds:List Int)(n:aD)(x y:Int)(D:k4 x)(hy:k4 y)(hk:pk n.Tag=some 2):kA kinds n [x,y]=some (if(kn n.Tag x y).2 then((kn n.Tag x y).1,0)else(0,201)):=by
 obtain⟨tag,L,R,col,v⟩:=n
 have M:tag=12\/tag=13\/tag=14\/tag=15\/tag=16\/tag=17\/tag=18\/tag=19\/tag=20\/tag=21\/tag=22\/tag=23:=by
  unfold pk at hk
  repeat' split at hk
  all_goals simp at hk
  rename_i h
  have h:12<=tag/\tag<=23:=h
  omega
 rcases M with rfl|rfl|rfl|rfl|rfl|rfl|rfl|rfl|rfl|rfl|rfl|rfl<;>rcases D with rfl|rfl|rfl|rfl<;>rcases hy with rfl|rfl|rfl|rfl<;>rfl
def kd(kinds:List Int):Tr->Option Int
 | .lf n=>if n.Tag=1 then some n.Value.Kind else some ((kinds[n.Col.toNat]?).getD 0)
 | .un n a=>(kd kinds a).bind fun x=>if(kn n.Tag x 0).2 then some (kn n.Tag x 0).1 else none
 | .bi n a b=>(kd kinds a).bind fun x=>(kd kinds b).bind fun y=>if(kn n.Tag x y).2 then some (kn n.Tag x y).1 else none
def LZ(kinds:List Int)(n:aD)(a:Tr):kd kinds (.un n a)=(kd kinds a).bind fun x=>if(kn n.Tag x 0).2 then some (kn n.Tag x 0).1 else none:=rfl
def I7(kinds:List Int)(n:aD)(a b:Tr):kd kinds (.bi n a b)=(kd kinds a).bind fun x=>(kd kinds b).bind fun y=>if(kn n.Tag x y).2 then some (kn n.Tag x y).1 else none:=rfl
def Hv(m:Nat):Tr->Prop
 | .lf n=>n.Tag=2->n.Col<m
 | .un _ a=>Hv m a
 | .bi _ a b=>Hv m a/\Hv m b
def pk0{tag:Int}(h:pk tag=some 0):tag=1\/tag=2:=by
 unfold pk at h
 repeat' split at h
 all_goals simp at h
 assumption
def acl(h:EX n=true)(M:n.Tag=1):uB n.Value=true:=by
 have J:=kU n
 rw [h]at J
 unfold jo at J
 rw [cx (by simp [M]),py]at J
 simp at J
 exact J.1
def Zn(h:EX n=true)(M:n.Tag=2):0<=n.Col/\n.Col<16:=by
 have J:=kU n
 rw [h]at J
 unfold jo at J
 rw [cm (by simp [M]),cx (by simp [M])]at J
 simp at J
 exact⟨J.1.2,J.2⟩
def PK{kinds:List Int}(hk: ∀k∈kinds,k4 k): ∀(t:Tr),t.wf-> ∀{k},kd kinds t=some k->k4 k
 | .lf n,⟨H,J,_,_⟩,k,h=>by
  unfold kd at h
  split at h
  ·rename_i M
   have:=LF (acl J M)
   cases h;unfold k4;omega
  ·injection h with h
   subst h
   cases hc:kinds[n.Col.toNat]? with
   |none=>exact .inl rfl
   |some z=>exact hk z (uo hc)
 | .un n a,_,k,h=>by
  unfold kd at h
  cases ha:kd kinds a with
  |none=>rw [ha]at h;cases h
  |some x=>
   rw [ha,bI]at h
   split at h
   ·cases h;exact Xe ..
   ·cases h
 | .bi n a b,_,k,h=>by
  unfold kd at h
  cases ha:kd kinds a with
  |none=>rw [ha]at h;cases h
  |some x=>
   cases A:kd kinds b with
   |none=>rw [ha,A]at h;cases h
   |some y=>
    rw [ha,A]at h
    simp only [bI]at h
    split at h
    ·cases h;exact Xe ..
    ·cases h
def NK(stack l:List Int)(h:stack.length+l.length<=100000):qV (stack++l) (l.length:Int)=some (l,stack):=by
 unfold qV mA
 have e:IntKind.i64.wrap (((stack++l).length:Int)-(l.length:Int))=(stack.length:Int):=by
  rw [pg,dW (by omega) (by omega)];omega
 rw [e,kE stack.length (stack++l).length rfl rfl (by simp) (f7 _)]
 simp only [bI,A3,MS (f7 _),List.drop_length,qo]
 rw [dF (by simp;omega)]
 simp only [bI,qo]
 rw [kE (i:=0) 0 stack.length rfl rfl (jR _) (by simp)]
 simp
def LK(stack:List Int){b:Int}(h:b≠0):nr b stack=some (0,b):=by
 unfold nr;rw [cx (by simpa using h)]
def xi{tag:Int}{k:Nat}(h:pk tag=some k):sY tag=some (k:Int):=by
 rw [Bl];unfold JW;rw [h]
def Rq(kinds:List Int)(hk: ∀k∈kinds,k4 k)(t:Tr):t.wf->Hv kinds.length t-> ∀(s:Nat) (rest:List aD) (stack:List Int),stack.length+t.size<=50000->
  iU (kA kinds) (t.flat s++rest) 0 stack=match kd kinds t with
   |some k=>iU (kA kinds) rest 0 (stack++[k])
   |none=>some (0,201):=by
 induction t with
 |lf n=>
  intro⟨H,J,h3,h4⟩ hc s rest stack hl
  simp only [Tr.flat,Tr.size,yZ,qo]at hl ⊢
  rw [iU]
  have e1:(gX n (-1) (-1)).Tag=n.Tag:=rfl
  rw [e1,xi H]
  have h0:=NK stack [] (by simp;omega)
  simp only [Cn,sG]at h0
  simp only [bI]
  rw [h0]
  simp only [bI]
  have hv:kA kinds (gX n (-1) (-1)) []=(kd kinds (.lf n)).map (fun k=>(k,(0:Int))):=by
   unfold kA nu kd
   simp only [e1]
   rcases pk0 H with M|M
   ·rw [cx (by simp [M]),cx M];rfl
   ·rw [cm (by simp [M]),cx (by simp [M]),cm (by simp [M])]
    have A:=Zn J M
    have hm:n.Col<kinds.length:=hc M
    have e2:(gX n (-1) (-1)).Col=n.Col:=rfl
    rw [e2,jU n.Col.toNat (by omega),lr (by omega)]
    rfl
  rw [hv]
  have: ∃k,kd kinds (.lf n)=some k:=by unfold kd;split<;>exact⟨_,rfl⟩
  obtain⟨k,hk1⟩:=this
  rw [hk1]
  simp only [Is,bI]
  rw [cm (by simp),dF (by simp;omega)]
  rfl
 |un n a ih=>
  intro⟨⟨H,J,h3,h4⟩,ha⟩ hc s rest stack hl
  simp only [Tr.flat,Tr.size,gF]at hl ⊢
  rw [LZ,ih ha hc s _ stack (by omega)]
  cases D:kd kinds a with
  |none=>rfl
  |some x=>
   have hx4:=PK hk a ha D
   simp only [bI,yZ,qo]
   rw [iU]
   have e1:(gX n (((s+a.size:Nat):Int)-1) (-1)).Tag=n.Tag:=rfl
   rw [e1,xi H]
   have h0:=NK stack [x] (by simp;omega)
   simp only [bI]
   have e0:(([x]:List Int).length:Int)=((1:Nat):Int):=rfl
   rw [<-e0,h0]
   simp only [bI]
   rw [OU kinds _ x hx4 (by rw [e1];exact H),e1]
   cases A:(kn n.Tag x 0).2 with
   |true=>
    simp only [jb,bI]
    rw [cm (by simp),dF (by simp;omega)]
    rfl
   |false=>
    simp only [kM,jh,bI]
    rw [cx (by decide),LK _ (by decide)]
 |bi n a b iha ihb=>
  intro⟨⟨H,J,h3,h4⟩,ha,A⟩ ⟨hca,hcb⟩ s rest stack hl
  simp only [Tr.flat,Tr.size,gF]at hl ⊢
  rw [I7,iha ha hca s _ stack (by omega)]
  cases D:kd kinds a with
  |none=>rfl
  |some x=>
   have hx4:=PK hk a ha D
   simp only [bI]
   rw [ihb A hcb (s+a.size) _ (stack++[x]) (by have:=a.size_pos;simp;omega)]
   cases hy:kd kinds b with
   |none=>rfl
   |some y=>
    have hy4:=PK hk b A hy
    have hap:=a.size_pos
    simp only [bI,yZ,qo]
    rw [iU]
    have e1:(gX n (((s+a.size:Nat):Int)-1) (((s+a.size+b.size:Nat):Int)-1)).Tag=n.Tag:=rfl
    rw [e1,xi H]
    have h0:=NK stack [x,y] (by simp;omega)
    simp only [bI]
    have e0:(([x,y]:List Int).length:Int)=((2:Nat):Int):=rfl
    have e9:stack++[x]++[y]=stack++[x,y]:=by simp
    rw [<-e0,e9,h0]
    simp only [bI]
    rw [OT kinds _ x y hx4 hy4 (by rw [e1];exact H),e1]
    cases A:(kn n.Tag x y).2 with
    |true=>
     simp only [jb,bI]
     rw [cm (by simp),dF (by simp;omega)]
     rfl
    |false=>
     simp only [kM,jh,bI]
     rw [cx (by decide),LK _ (by decide)]
def SN(kinds:List Int)(hk: ∀k∈kinds,k4 k)(t:Tr):t.wf->Hv kinds.length t-> ∀(rest:List aD) (own:List Int),own.length+t.size<=50000->
  (kd kinds t=none/\dP kinds (t.flat own.length++rest) own=some (0,201))\/
  (∃k w,kd kinds t=some k/\w.length+1=t.size/\dP kinds (t.flat own.length++rest) own=dP kinds rest (own++w++[k])):=by
 induction t with
 |lf n=>
  intro⟨H,J,h3,h4⟩ hc rest own hl
  simp only [Tr.flat,Tr.size,yZ,qo]at hl ⊢
  refine .inr ?_
  have e1:(gX n (-1) (-1)).Tag=n.Tag:=rfl
  unfold kd
  rcases pk0 H with M|M
  ·refine⟨_,[],cx M,rfl,?_⟩
   rw [dP]
   rw [e1,cx (by simp [M]),dF (by simp;omega)]
   simp only [bI,Cn]
   rfl
  ·refine⟨_,[],cm (by simp [M]),rfl,?_⟩
   have A:=Zn J M
   have hm:n.Col<kinds.length:=hc M
   have e2:(gX n (-1) (-1)).Col=n.Col:=rfl
   rw [dP]
   rw [e1,cm (by simp [M]),cx (by simp [M]),e2,jU n.Col.toNat (by omega),lr (by omega)]
   simp only [bI,Cn,Option.getD_some]
   rw [dF (by simp;omega)]
   rfl
 |un n a ih=>
  intro⟨⟨H,J,h3,h4⟩,ha⟩ hc rest own hl
  have hap:=a.size_pos
  simp only [Tr.flat,Tr.size,gF]at hl ⊢
  rcases ih ha hc ([gX n (((own.length+a.size:Nat):Int)-1) (-1)]++rest) own (by omega)with⟨D,he⟩|⟨x,w,D,hw,he⟩
  ·exact .inl ⟨by rw [LZ,D];rfl,by rw [he]⟩
  ·rw [he]
   rw [LZ,D]
   simp only [bI,yZ,qo]
   have e1:(gX n (((own.length+a.size:Nat):Int)-1) (-1)).Tag=n.Tag:=rfl
   have n1:n.Tag≠1:=fun h=>by rw [h]at H;simp [pk]at H
   have n2:n.Tag≠2:=fun h=>by rw [h]at H;simp [pk]at H
   have hstep:dP kinds (gX n (((own.length+a.size:Nat):Int)-1) (-1)::rest) (own++w++[x])=if(kn n.Tag x 0).2 then dP kinds rest (own++w++[x]++[(kn n.Tag x 0).1])else some (0,201):=by
    rw [dP]
    rw [e1,cm (by simpa using n1),cm (by simpa using n2)]
    have eL:(gX n (((own.length+a.size:Nat):Int)-1) (-1)).L=((own.length+a.size:Nat):Int)-1:=rfl
    have eR:(gX n (((own.length+a.size:Nat):Int)-1) (-1)).R= -1:=rfl
    rw [eL,eR,jU (own++w).length (by simp;omega),xl (f7 _),FU]
    simp only [IB,bI]
    rw [cm (by decide)]
    unfold qA
    rw [e1,Bd]
    simp only [bI]
    cases A:(kn n.Tag x 0).2 with
    |true=>
     simp only [qY,kM,jh,jb]
     rw [dF (by simp;omega)];rfl
    |false=>rfl
   rw [hstep]
   cases A:(kn n.Tag x 0).2 with
   |true=>exact .inr ⟨(kn n.Tag x 0).1,w++[x],by simp,by simp;omega,by simp⟩
   |false=>exact .inl ⟨by simp,by simp⟩
 |bi n a b iha ihb=>
  intro⟨⟨H,J,h3,h4⟩,ha,A⟩ ⟨hca,hcb⟩ rest own hl
  have hap:=a.size_pos
  have hbp:=b.size_pos
  simp only [Tr.flat,Tr.size,gF]at hl ⊢
  obtain⟨m,hm⟩: ∃m,m=gX n (((own.length+a.size:Nat):Int)-1) (((own.length+a.size+b.size:Nat):Int)-1):=⟨_,rfl⟩
  rw [<-hm]
  rcases iha ha hca (b.flat (own.length+a.size)++([m]++rest)) own (by omega)with⟨D,he⟩|⟨x,w,D,hw,he⟩
  ·exact .inl ⟨by rw [I7,D];rfl,by rw [he]⟩
  ·rw [he]
   have hl2:(own++w++[x]).length=own.length+a.size:=by simp;omega
   rw [<-hl2]
   rcases ihb A hcb ([m]++rest) (own++w++[x]) (by rw [hl2];omega)with⟨hy,he2⟩|⟨y,w2,hy,hw2,he2⟩
   ·exact .inl ⟨by rw [I7,D,hy];rfl,by rw [he2]⟩
   ·rw [he2]
    rw [I7,D,hy]
    simp only [bI,yZ,qo]
    have e1:m.Tag=n.Tag:=by rw [hm];rfl
    have eL:m.L=((own.length+a.size:Nat):Int)-1:=by rw [hm];rfl
    have eR:m.R=((own.length+a.size+b.size:Nat):Int)-1:=by rw [hm];rfl
    have n1:n.Tag≠1:=fun h=>by rw [h]at H;simp [pk]at H
    have n2:n.Tag≠2:=fun h=>by rw [h]at H;simp [pk]at H
    have hstep:dP kinds (m::rest) (own++w++[x]++w2++[y])=if(kn n.Tag x y).2 then dP kinds rest (own++w++[x]++w2++[y]++[(kn n.Tag x y).1])else some (0,201):=by
     rw [dP]
     rw [e1,cm (by simpa using n1),cm (by simpa using n2)]
     rw [eL,eR,jU (own++w).length (by simp;omega)]
     have g1:(own++w++[x]++w2++[y])[(own++w).length]? =some x:=by
      rw [gF,gF,xl (f7 _),FU];rfl
     rw [g1]
     simp only [bI]
     rw [cx (by rw [mV];omega),jU (own++w++[x]++w2).length (by simp;omega)]
     have g2:(own++w++[x]++w2++[y])[(own++w++[x]++w2).length]? =some y:=by
      rw [xl (f7 _),FU];rfl
     rw [g2]
     simp only [bI]
     unfold qA
     rw [e1,Bd]
     simp only [bI]
     cases A:(kn n.Tag x y).2 with
     |true=>
      simp only [qY,kM,jh,jb]
      rw [dF (by simp;omega)];rfl
     |false=>rfl
    rw [hstep]
    cases A:(kn n.Tag x y).2 with
    |true=>exact .inr ⟨(kn n.Tag x y).1,w++[x]++w2++[y],by simp,by simp;omega,by simp⟩
    |false=>exact .inl ⟨by simp,by simp⟩
def n8(m:Nat)(ns:List aD):Bool:=ns.all fun n=> !((n.Tag==2)&&decide ((m:Int)<=n.Col))
def Ms(m:Nat)(n:aD)(ns:List aD):n8 m (n::ns)=(!((n.Tag==2)&&decide ((m:Int)<=n.Col))&&n8 m ns):=rfl
def z1(m:Nat)(t:Tr):t.wf-> ∀s,n8 m (t.flat s)=true->Hv m t:=by
 induction t with
 |lf n=>
  intro _ s h M
  simp only [n8,Tr.flat,tI,List.all_nil,Bool.and_true]at h
  have e1:(gX n (-1) (-1)).Tag=n.Tag:=rfl
  have e2:(gX n (-1) (-1)).Col=n.Col:=rfl
  simp [e1,e2,M]at h
  exact h
 |un n a ih=>
  intro⟨_,ha⟩ s h
  simp only [n8,Tr.flat,List.all_append,jM]at h
  exact ih ha s h.1
 |bi n a b iha ihb=>
  intro⟨_,ha,A⟩ s h
  simp only [n8,Tr.flat,List.all_append,jM]at h
  exact⟨iha ha s h.1.1,ihb A _ h.1.2⟩
def Sl(kinds:List Int):Bool:=kinds.all fun k=>decide (0<=k)&&decide (k<=3)
def L0(k:Int)(ks:List Int):Sl (k::ks)=((decide (0<=k)&&decide (k<=3))&&Sl ks):=rfl
def PL{kinds:List Int}(h:Sl kinds=true){k:Int}(hk:k∈kinds):k4 k:=by
 have:=ph.1 h k hk
 simp at this
 unfold k4;omega
def gC(e:aZ)(kinds:List Int):Int×Int:=
 if lS e.Nodes then if Sl kinds then if n8 kinds.length e.Nodes then match (sK e.Nodes).bind (kd kinds)with
  |some k=>(k,0)
  |none=>(0,201)else(0,2)else(0,2)else(0,200)
def HR(e:aZ)(kinds:List Int): ∀cs:List Int,n6 e kinds cs=if cs.all (fun c=>decide (c<(kinds.length:Int)))then qJ e (kA kinds)else some (0,2)
 |[]=>by
  unfold n6
  cases qJ e (kA kinds)<;>rfl
 |c::cs=>by
  unfold n6
  rw [HR e kinds cs]
  by_cases h:(kinds.length:Int)<=c
  ·rw [cx (by simpa using h),cm (by simp;omega)]
  ·rw [cm (by simpa using h)]
   have:c<(kinds.length:Int):=by omega
   simp [this]
def ve(e:aZ)(kinds:List Int)(hl:e.Nodes.length<=50000):s0 e kinds=some (gC e kinds):=by
 unfold s0 gC
 rw [tE e (by omega)]
 cases hr:lS e.Nodes with
 |false=>rfl
 |true=>
  simp only [jb,bI]
  rw [cm (by decide)]
  have key: ∀ks:List Int,sl e kinds ks=if Sl ks then(xH e).bind (n6 e kinds)else some (0,2):=by
   intro ks
   induction ks with
   |nil=>rfl
   |cons k ks ih=>
    unfold sl
    rw [ih]
    by_cases h:k<0\/3<k
    ·rw [cx (by simpa using h),cm (by simp [Sl];omega)]
    ·rw [cm (by simpa using h)]
     have H:(decide (0<=k)&&decide (k<=3))=true:=by simp;omega
     rw [L0,H,wY]
  rw [key]
  cases hk:Sl kinds with
  |false=>rfl
  |true=>
   simp only [jb]
   obtain⟨cs,H,J⟩:=Kw e hr
   rw [H,bI,HR]
   have hci:cs.all (fun c=>decide (c<(kinds.length:Int)))=n8 kinds.length e.Nodes:=by
    rw [xk]
    simp only [ph,mV,n8,zh,Bool.and_eq_false_iff,KS,qh]
    constructor
    ·intro h n hn
     by_cases M:n.Tag=2
     ·exact .inr (by have:=h _ ((J n.Col).2 ⟨n,hn,M,rfl⟩);omega)
     ·exact .inl M
    ·intro h c hc
     obtain⟨n,hn,M,rfl⟩:=(J c).1 hc
     rcases h n hn with h|h
     ·exact absurd M h
     ·omega
   rw [hci]
   cases hc:n8 kinds.length e.Nodes with
   |false=>rfl
   |true=>
    simp only [jb]
    cases M:sK e.Nodes with
    |none=>unfold lS at hr;rw [M]at hr;cases hr
    |some t=>
     obtain⟨hw,hN,hs⟩:=ro M
     have hct:=z1 kinds.length t hw 0 (by rw [<-hN];exact hc)
     have:=Rq kinds (fun k=>PL hk) t hw hct 0 [] [] (by simp;omega)
     rw [Cn,<-hN]at this
     unfold qJ
     rw [this]
     simp only [bI]
     cases kd kinds t with
     |none=>rfl
     |some k=>rfl
def qB(e:aZ)(kinds:List Int):q9 e kinds=some (gC e kinds):=by
 unfold q9 gC
 rw [GE e]
 cases hr:lS e.Nodes with
 |false=>rfl
 |true=>
  simp only [jb,bI,qY,kM,jh]
  have aab: ∀ns:List aD,oJ e kinds ns=if n8 kinds.length ns then dP kinds e.Nodes []else some (0,2):=by
   intro ns
   induction ns with
   |nil=>rfl
   |cons n ns ih=>
    unfold oJ
    rw [ih,Ms]
    cases ((n.Tag==2)&&decide ((kinds.length:Int)<=n.Col))<;>simp
  have key: ∀ks:List Int,qz e kinds ks=if Sl ks then oJ e kinds e.Nodes else some (0,2):=by
   intro ks
   induction ks with
   |nil=>rfl
   |cons k ks ih=>
    unfold qz
    rw [ih]
    by_cases h:k<0\/3<k
    ·rw [cx (by simpa using h),cm (by simp [Sl];omega)]
    ·rw [cm (by simpa using h)]
     have H:(decide (0<=k)&&decide (k<=3))=true:=by simp;omega
     rw [L0,H,wY]
  rw [key,aab]
  cases hk:Sl kinds with
  |false=>rfl
  |true=>
   cases hc:n8 kinds.length e.Nodes with
   |false=>rfl
   |true=>
    simp only [jb]
    cases M:sK e.Nodes with
    |none=>unfold lS at hr;rw [M]at hr;cases hr
    |some t=>
     obtain⟨hw,hN,hs⟩:=ro M
     have hct:=z1 kinds.length t hw 0 (by rw [<-hN];exact hc)
     have:=SN kinds (fun k=>PL hk) t hw hct [] [] (by simp;omega)
     rw [Cn,sG,<-hN]at this
     simp only [bI]
     rcases this with⟨H,J⟩|⟨k,w,H,J,h3⟩
     ·rw [H,J]
     ·rw [H,h3]
      unfold dP
      have hls:t.size<=1000:=hs
      rw [qo,jU w.length (by rw [dW (by simp<;>omega) (by simp<;>omega)];simp),xl (f7 _),FU]
      rfl
end Go.Proofs.YthbdkceckjihgaaGreatDoor

