/- cm of this claim: L1, L2, L3. -/
import Derived.Test.YthbdkceckjihgaaGreatDoorBdQ1
import Derived.Test.YthbdkceckjihgaaGreatDoorBdF
import Derived.KernelRfl
set_option linter.all false
namespace Go.Proofs.YthbdkceckjihgaaGreatDoor
open Go

def iE{α:Type}{xs:List α}{i j:Int}(l m:Nat)(hi:i=(l:Int))(hj:j=(m:Int))(h:l<=m)(V:m<=xs.length):cE xs i j=some ((xs.take m).drop l):=by
 subst hi hj;exact qh h V
def jk{α:Type}{xs:List α}{i:Int}(k:Nat)(hi:i=(k:Int)):fE xs i=xs[k]? :=by subst hi;exact mK _ _
def pP(v:bZ):Bool:=xa v&&(v.Kind !=4)
def uC(v:bZ):pm v=some (pP v):=by
 unfold pm pP
 rw [Cb]
 cases xa v<;>simp
def n6(v:bZ):uP v=some (pP v):=by
 unfold uP pP
 rw [CB]
 rfl
variable{n:ap}
def HA{v:bZ}(h:pP v=true):0<=v.Kind/\v.Kind<=3:=by
 obtain⟨k,n,u,s⟩:=v
 unfold pP xa nG at h
 simp only [gM,xR,ne_eq]at h
 obtain⟨A,V⟩:=h
 by_cases h0:k=0
 ·simp [h0]
 by_cases k1:k=1
 ·simp [k1]
 by_cases k2:k=2
 ·simp [k2]
 by_cases k3:k=3
 ·simp [k3]
 simp [h0,k1,k2,k3,V]at A
def pk(tag:Int):Option Nat:=if tag=1\/tag=2 then some 0 else if 4<=tag/\tag<=7 then some 1 else if 12<=tag/\tag<=23 then some 2 else none
def FZ(tag:Int):Int:=match pk tag with
 |some k=>(k:Int)
 |none=> -1
def wC(tag:Int):oT tag=some (FZ tag):=by
 unfold oT FZ pk
 by_cases A:tag=1\/tag=2
 ·rw [bK A,bK (by simpa using A)];rfl
 rw [bG A,bG (by simpa using A)]
 by_cases V:4<=tag/\tag<=7
 ·rw [bK V,bK (by simpa using V)];rfl
 rw [bG V,bG (by simpa using V)]
 by_cases h3:12<=tag/\tag<=23
 ·rw [bK h3,bK (by simpa using h3)];rfl
 rw [bG h3,bG (by simpa using h3)]
def n5(tag:Int):uO tag=some (FZ tag):=by
 unfold uO AJ FZ pk
 by_cases A:tag=1\/tag=2
 ·rw [bK A];rcases A with rfl|rfl<;>rfl
 rw [bG A]
 by_cases V:4<=tag/\tag<=7
 ·rw [bK V]
  have:tag=4\/tag=5\/tag=6\/tag=7:=by omega
  rcases this with rfl|rfl|rfl|rfl<;>rfl
 rw [bG V]
 by_cases h3:12<=tag/\tag<=23
 ·rw [bK h3,bG (by simp;omega),bG (by simp;omega),bG (by simp;omega),bG (by simp;omega)];rfl
 rw [bG h3]
 by_cases h4:tag=3\/(8<=tag/\tag<=11)
 ·rw [bK (by simpa using h4)]
 rw [bG (by simpa using h4),bK (by simp;omega)]
 rfl
def AX(n:ap):Bool:=(ib n).getD false
def iS(n:ap):ib n=some (AX n):=by
 unfold AX ib
 rw [n6]
 split
 ·rfl
 ·split<;>rfl
def De(n:ap):rF n=some (AX n):=by
 rw [<-iS]
 unfold rF ib
 rw [n6,uC]
inductive Tr where
 |lf (n:ap)
 |un (n:ap) (a:Tr)
 |bi (n:ap) (a b:Tr)
 deriving Inhabited
def Tr.size:Tr->Nat
 | .lf _=>1
 | .un _ a=>a.size+1
 | .bi _ a b=>a.size+b.size+1
def fy(n:ap)(l r:Int):ap:={n with L:=l,R:=r}
def Tr.flat:Tr->Nat->List ap
 | .lf n,_=>[fy n (-1) (-1)]
 | .un n a,s=>a.flat s++[fy n ((s+a.size:Nat)-1) (-1)]
 | .bi n a b,s=>a.flat s++b.flat (s+a.size)++[fy n ((s+a.size:Nat)-1) ((s+a.size+b.size:Nat)-1)]
def Tw(k:Nat)(n:ap):Prop:=pk n.Tag=some k/\AX n=true/\n.L= -1/\n.R= -1
def Tr.wf:Tr->Prop
 | .lf n=>Tw 0 n
 | .un n a=>Tw 1 n/\a.wf
 | .bi n a b=>Tw 2 n/\a.wf/\b.wf
def Tr.size_pos(t:Tr):0<t.size:=by cases t<;>simp [Tr.size]
def Tr.flat_len(t:Tr): ∀s,(t.flat s).length=t.size:=by
 induction t with
 |lf n=>intro s;rfl
 |un n a ih=>intro s;simp [Tr.flat,Tr.size,ih]
 |bi n a b iha ihb=>intro s;simp [Tr.flat,Tr.size,iha,ihb];omega
def cb:List Tr->Nat
 |[]=>0
 |t::st=>cb st+t.size
def ua:List Tr->List ap
 |[]=>[]
 |t::st=>ua st++t.flat (cb st)
def E1: ∀st:List Tr,(ua st).length=cb st
 |[]=>rfl
 |t::st=>by simp [ua,cb,E1 st,t.flat_len]
def Ex: ∀st:List Tr,st.length<=cb st
 |[]=>eX _
 |t::st=>by have:=Ex st;have:=t.size_pos;simp [cb];omega
def push(st:List Tr)(n:ap):Option (List Tr):=
 match pk n.Tag,st with
 |some 0,st=>if AX n&&n.L== -1&&n.R== -1 then some (.lf (fy n (-1) (-1))::st)else none
 |some 1,a::st=>if AX n&&n.L==((cb st+a.size:Nat):Int)-1&&n.R== -1 then some (.un (fy n (-1) (-1)) a::st)else none
 |some 2,b::a::st=>if AX n&&n.L==((cb st+a.size:Nat):Int)-1&&n.R==((cb st+a.size+b.size:Nat):Int)-1 then some (.bi (fy n (-1) (-1)) a b::st)else none
 |_,_=>none
def nI:List ap->List Tr->Option (List Tr)
 |[],st=>some st
 |n::ns,st=>(push st n).bind (nI ns)
def WI(st:List Tr):Prop:= ∀t∈st,t.wf
def vE{l r:Int}(h:n.L=l)(V:n.R=r):fy (fy n (-1) (-1)) l r=n:=by subst h V;rfl
def MB{st st' :List Tr}(h:push st n=some st')(hw:WI st):ua st' =ua st++[n]/\cb st' =cb st+1/\WI st' :=by
 unfold push at h
 split at h
 ·rename_i k st0 hk
  split at h
  ·rename_i hc
   simp only [gM,sv]at hc
   obtain⟨⟨A,V⟩,h3⟩:=hc
   cases h
   refine⟨?_,rfl,fun t M=>?_⟩
   ·simp only [ua,Tr.flat]
    rw [vE V h3]
   ·rcases lK.1 M with rfl|M
    ·exact⟨hk,A,rfl,rfl⟩
    ·exact hw t M
  ·cases h
 ·rename_i k a st0 hk
  split at h
  ·rename_i hc
   simp only [gM,sv]at hc
   obtain⟨⟨A,V⟩,h3⟩:=hc
   cases h
   refine⟨?_,by simp [cb,Tr.size];omega,fun t M=>?_⟩
   ·simp only [ua,Tr.flat]
    rw [vE V h3,gQ]
   ·rcases lK.1 M with rfl|M
    ·exact⟨⟨hk,A,rfl,rfl⟩,hw a (ln ..)⟩
    ·exact hw t (lH _ M)
  ·cases h
 ·rename_i k b a st0 hk
  split at h
  ·rename_i hc
   simp only [gM,sv]at hc
   obtain⟨⟨A,V⟩,h3⟩:=hc
   cases h
   refine⟨?_,by simp [cb,Tr.size];omega,fun t M=>?_⟩
   ·simp only [ua,Tr.flat,cb]
    rw [vE V h3]
    simp only [gQ]
   ·rcases lK.1 M with rfl|M
    ·exact⟨⟨hk,A,rfl,rfl⟩,hw a (lH _ (ln ..)),hw b (ln ..)⟩
    ·exact hw t (lH _ (lH _ M))
  ·cases h
 ·cases h
variable{ns:List ap}
def xc: ∀{ns:List ap} {st st' :List Tr},nI ns st=some st' ->WI st->ua st' =ua st++ns/\WI st'
 |[],st,st',h,hw=>by cases h;simp [hw]
 |n::ns,st,st',h,hw=>by
  unfold nI at h
  cases hp:push st n with
  |none=>rw [hp]at h;cases h
  |some st1=>
   rw [hp]at h
   obtain⟨A,_,h3⟩:=MB hp hw
   obtain⟨h4,h5⟩:=xc (ns:=ns) h h3
   exact⟨by rw [h4,A];simp,h5⟩
def p8: ∀(ns ms:List ap) (st:List Tr),nI (ns++ms) st=(nI ns st).bind (nI ms)
 |[],ms,st=>rfl
 |n::ns,ms,st=>by
  simp only [xN,nI]
  cases push st n with
  |none=>rfl
  |some st1=>exact p8 ns ms st1
def Jq(t:Tr): ∀(st:List Tr),t.wf->nI (t.flat (cb st)) st=some (t::st):=by
 induction t with
 |lf n=>
  intro st ⟨A,V,h3,h4⟩
  have hn' :fy n (-1) (-1)=n:=by cases n;simp only at h3 h4;subst h3 h4;rfl
  simp only [Tr.flat,nI,push,hn']
  rw [A]
  simp [V,h3,h4,nI,hn']
 |un n a ih=>
  intro st ⟨⟨A,V,h3,h4⟩,ha⟩
  have hn' :fy n (-1) (-1)=n:=by cases n;simp only at h3 h4;subst h3 h4;rfl
  simp only [Tr.flat]
  rw [p8,ih st ha]
  simp only [aX,nI,push]
  have e1:(fy n (((cb st+a.size:Nat):Int)-1) (-1)).Tag=n.Tag:=rfl
  rw [e1,A]
  have e2:AX (fy n (((cb st+a.size:Nat):Int)-1) (-1))=true:=V
  rw [e2]
  simp only [fy,Ay,Bool.and_self,gO,aX,nI]
  simp only [fy]at hn'
  rw [hn']
 |bi n a b iha ihb=>
  intro st ⟨⟨A,V,h3,h4⟩,ha,H⟩
  have hn' :fy n (-1) (-1)=n:=by cases n;simp only at h3 h4;subst h3 h4;rfl
  simp only [Tr.flat]
  rw [p8,p8,iha st ha]
  simp only [aX]
  have e0:cb st+a.size=cb (a::st):=rfl
  rw [e0,ihb (a::st) H]
  simp only [aX,nI,push]
  have e1:(fy n (((cb (a::st):Nat):Int)-1) (((cb (a::st)+b.size:Nat):Int)-1)).Tag=n.Tag:=rfl
  rw [e1,A]
  have e2:AX (fy n (((cb (a::st):Nat):Int)-1) (((cb (a::st)+b.size:Nat):Int)-1))=true:=V
  rw [e2]
  simp only [fy,cb,Ay,Bool.and_self,gO,aX,nI]
  simp only [fy]at hn'
  rw [hn']
def oH(ns:List ap):Option Tr:=match nI ns []with
 |some [t]=>if ns.length<=1000 then some t else none
 |_=>none
def nE{t:Tr}(h:oH ns=some t):t.wf/\ns=t.flat 0/\t.size<=1000:=by
 unfold oH at h
 split at h
 ·rename_i t0 hp
  split at h
  ·rename_i hl
   cases h
   obtain⟨A,V⟩:=xc hp (fun t M=>by cases M)
   simp only [ua,cb,nj]at A
   exact⟨V t (ln ..),A.symm,by rw [<-t.flat_len 0,A];exact hl⟩
  ·cases h
 ·cases h
def uD{t:Tr}(h:t.wf)(hs:t.size<=1000):oH (t.flat 0)=some t:=by
 unfold oH
 have h0:=Jq t [] h
 simp only [cb]at h0
 rw [h0]
 simp only [t.flat_len,hs,gO]
def fl:Tr->Nat->List Int
 | .lf _,s=>[(s:Int)]
 | .un _ a,s=>fl a s++[(s:Int)]
 | .bi _ a b,s=>fl a s++fl b (s+a.size)++[(s:Int)]
def Na:List Tr->List Int
 |[]=>[]
 |t::st=>Na st++fl t (cb st)
def kS:List Tr->List Int
 |[]=>[]
 |t::st=>kS st++[((cb st+t.size:Nat):Int)-1]
def tk(t:Tr): ∀s,(fl t s).length=t.size:=by
 induction t with
 |lf n=>intro s;rfl
 |un n a ih=>intro s;simp [fl,Tr.size,ih]
 |bi n a b iha ihb=>intro s;simp [fl,Tr.size,iha,ihb];omega
def ry: ∀st:List Tr,(Na st).length=cb st
 |[]=>rfl
 |t::st=>by simp [Na,cb,ry st,tk]
def cY: ∀st:List Tr,(kS st).length=st.length
 |[]=>rfl
 |t::st=>by simp [kS,cY st]
def QW(t:Tr)(s:Nat):(fl t s)[t.size-1]? =some (s:Int):=by
 cases t with
 |lf n=>rfl
 |un n a=>simp only [fl,Tr.size];rw [uw (by rw [tk];omega),tk];simp
 |bi n a b=>simp only [fl,Tr.size];rw [uw (by simp [tk]),mY,tk,tk];simp
def CX(t:Tr)(st:List Tr)(rest:List Int):(Na st++fl t (cb st)++rest)[cb st+t.size-1]? =some (cb st:Int):=by
 have:=t.size_pos
 rw [xP (by rw [mY,ry,tk];omega),uw (by rw [ry];omega),ry,show cb st+t.size-1-cb st=t.size-1 from by omega]
 exact QW t _
def Ng: ∀(ns:List ap) (st:List Tr),cb st+ns.length<=100000->jF ns (cb st) (Na st) (kS st)=some (match nI ns st with
   |some st' =>(Na st',decide (st'.length=1)&&decide (cb st' <=1000))
   |none=>([],false)):=by
 intro ns
 induction ns with
 |nil=>
  intro st _
  simp only [jF,nI,cY,ry]
  congr 2
  congr 1
  ·rw [wJ];simp;omega
  ·rw [wJ];simp;omega
 |cons n ns ih=>
  intro st hs
  simp only [gq]at hs
  have hll:=Ex st
  unfold jF
  rw [wC]
  simp only [aX,cY,De]
  unfold nI
  unfold push
  -- the parts
  cases hk:pk n.Tag with
  |none=>
   have e:FZ n.Tag= -1:=by unfold FZ;rw [hk]
   simp [e]
  |some k=>
   have e:FZ n.Tag=(k:Int):=by unfold FZ;rw [hk]
   have hk3:k=0\/k=1\/k=2:=by
    unfold pk at hk
    repeat' split at hk
    all_goals simp at hk
    all_goals omega
   rw [e]
   rcases hk3 with rfl|rfl|rfl
   ·-- none
    simp only []
    have c1:(decide (((0:Nat):Int)<0)||decide ((st.length:Int)<((0:Nat):Int)))=false:=by simp
    simp only [c1,xJ,gO,aX]
    cases hc:AX n with
    |false=>simp
    |true=>
     simp only [pi,j0,iB,ut]
     rw [iE st.length st.length (by rw [dS (by omega) (by omega)];omega) rfl (eX _) (by rw [cY];exact eX _)]
     have hd:(List.take st.length (kS st)).drop st.length=[]:=su (by simp;omega)
     simp only [hd,aX,kD]
     by_cases hL:n.L= -1/\n.R= -1
     ·have H:(n.L== -1&&n.R== -1)=true:=by simp [hL]
      rw [bK H,bG (by simp [hL.1,hL.2])]
      rw [cW (by simp only [gq,pj,ry];omega)]
      simp only [aX]
      rw [iE (i:=0) 0 st.length rfl (by rw [cY,dS (by omega) (by omega)];omega) (jM _) (by rw [cY];exact eX _)]
      rw [pJ (by rw [cY];exact eX _),sq]
      simp only [aX]
      rw [cW (by simp only [gq,pj,cY];omega)]
      simp only [aX]
      have V:=ih (.lf (fy n (-1) (-1))::st) (by simp [cb,Tr.size];omega)
      simp only [cb,Tr.size,Na,fl,kS]at V
      rw [show(((cb st+1:Nat):Int)-1)=(cb st:Int)from by omega]at V
      exact V
     ·have H:(n.L== -1&&n.R== -1)=false:=by
       rw [GO];intro h;apply hL;simpa using h
      rw [H]
      rw [bK (by
       simp only [zj,qt]
       intro h
       have A:(-1:Int)=n.L:=by injection h
       have V:(-1:Int)=n.R:=by injection h with _ h;injection h
       exact hL ⟨A.symm,V.symm⟩)]
      simp
   ·-- one
    cases st with
    |nil=>simp
    |cons a st=>
     simp only []
     have c1:(decide (((1:Nat):Int)<0)||decide (((a::st).length:Int)<((1:Nat):Int)))=false:=by simp;omega
     simp only [c1,xJ,gO,aX]
     cases hc:AX n with
     |false=>simp
     |true=>
      simp only [pi,j0,iB,ut]
      simp only [gq]at hll ⊢
      simp only [cb]at hs hll
      have hap:=a.size_pos
      rw [iE st.length (st.length+1) (by rw [dS (by omega) (by omega)];omega) (by omega) (by omega) (by rw [cY];exact eX _)]
      have hd:(List.take (st.length+1) (kS (a::st))).drop st.length=[((cb st+a.size:Nat):Int)-1]:=by
       rw [pJ (by rw [cY];exact eX _)]
       simp only [kS]
       rw [IR (by rw [cY];exact eX _),su (by rw [cY];exact eX _),nj]
      rw [hd]
      simp only [aX,kD]
      rw [jk (cb st+a.size-1) (by omega)]
      have hf:=CX a st []
      rw [xL]at hf
      simp only [Na]
      rw [hf]
      simp only [aX]
      rw [jk 0 rfl]
      simp only [Em,aX]
      have hset:([(-1:Int),-1].set ((0:Nat):Int).toNat (((cb st+a.size:Nat):Int)-1))=[((cb st+a.size:Nat):Int)-1,-1]:=rfl
      rw [hset]
      by_cases hL:n.L=((cb st+a.size:Nat):Int)-1/\n.R= -1
      ·have H:(n.L==((cb st+a.size:Nat):Int)-1&&n.R== -1)=true:=by simp [hL]
       rw [bK H,bG (by rw [hL.1,hL.2];simp)]
       rw [cW (by simp only [gq,pj,mY,ry,tk];omega)]
       simp only [aX]
       rw [iE (i:=0) 0 st.length rfl (by rw [cY,dS (by simp<;>omega) (by simp<;>omega)];simp) (jM _) (by rw [cY];simp)]
       have M:(List.take st.length (kS (a::st))).drop 0=kS st:=by
        simp only [kS,sq]
        rw [xQ (by rw [cY];exact eX _),pJ (by rw [cY];exact eX _)]
       rw [M]
       simp only [aX]
       rw [cW (by simp only [gq,pj,cY];omega)]
       simp only [aX]
       have V:=ih (.un (fy n (-1) (-1)) a::st) (by simp [cb,Tr.size];omega)
       simp only [cb,Tr.size,Na,fl,kS]at V
       rw [show(((cb st+(a.size+1):Nat):Int)-1)=((cb st+a.size:Nat):Int)from by omega]at V
       have hm:min ((cb (a::st):Nat):Int) (cb st:Int)=(cb st:Int):=by simp only [cb];omega
       rw [hm]
       simp only [gQ]at V ⊢
       exact V
      ·have H:(n.L==((cb st+a.size:Nat):Int)-1&&n.R== -1)=false:=by
        rw [GO];intro h;apply hL;simpa using h
       rw [H]
       rw [bK (by
        simp only [zj,qt]
        intro h
        have A:((cb st+a.size:Nat):Int)-1=n.L:=by injection h
        have V:(-1:Int)=n.R:=by injection h with _ h;injection h
        exact hL ⟨A.symm,V.symm⟩)]
       simp
   ·-- two
    cases st with
    |nil=>simp
    |cons b st=>
     cases st with
     |nil=>simp
     |cons a st=>
      simp only []
      have c1:(decide (((2:Nat):Int)<0)||decide (((b::a::st).length:Int)<((2:Nat):Int)))=false:=by simp;omega
      simp only [c1,xJ,gO,aX]
      cases hc:AX n with
      |false=>simp
      |true=>
       simp only [pi,j0,iB,ut]
       simp only [gq]at hll ⊢
       simp only [cb]at hs hll
       have hap:=a.size_pos
       have hbp:=b.size_pos
       rw [iE st.length (st.length+1+1) (by rw [dS (by omega) (by omega)];omega) (by omega) (by omega) (by rw [cY];exact eX _)]
       have hd:(List.take (st.length+1+1) (kS (b::a::st))).drop st.length=[((cb st+a.size:Nat):Int)-1,((cb st+a.size+b.size:Nat):Int)-1]:=by
        rw [pJ (by rw [cY];exact eX _)]
        simp only [kS,cb,gQ]
        rw [IR (by rw [cY];exact eX _),su (by rw [cY];exact eX _),nj]
        rfl
       rw [hd]
       simp only [aX,kD]
       simp only [Na,cb]
       rw [jk (cb st+a.size-1) (by omega)]
       rw [CX a st (fl b (cb st+a.size))]
       simp only [aX]
       rw [jk 0 rfl]
       simp only [Em,aX]
       have hset:([(-1:Int),-1].set ((0:Nat):Int).toNat (((cb st+a.size:Nat):Int)-1))=[((cb st+a.size:Nat):Int)-1,-1]:=rfl
       rw [hset]
       rw [jk (cb st+a.size+b.size-1) (by omega)]
       have hf:=CX b (a::st) []
       rw [xL]at hf
       simp only [Na,cb]at hf
       rw [hf]
       simp only [aX]
       rw [jk (0+1) rfl]
       simp only [List.getElem?_cons_succ,Em,aX]
       have hset2:([((cb st+a.size:Nat):Int)-1,-1].set ((0+1:Nat):Int).toNat (((cb st+a.size+b.size:Nat):Int)-1))=[((cb st+a.size:Nat):Int)-1,((cb st+a.size+b.size:Nat):Int)-1]:=rfl
       rw [hset2]
       by_cases hL:n.L=((cb st+a.size:Nat):Int)-1/\n.R=((cb st+a.size+b.size:Nat):Int)-1
       ·have H:(n.L==((cb st+a.size:Nat):Int)-1&&n.R==((cb st+a.size+b.size:Nat):Int)-1)=true:=by rw [hL.1,hL.2];simp
        rw [bK H,bG (by rw [hL.1,hL.2];simp)]
        rw [cW (by simp only [gq,pj,mY,ry,tk];omega)]
        simp only [aX]
        rw [iE (i:=0) 0 st.length rfl (by rw [cY,dS (by simp;omega) (by simp;omega)];simp;omega) (jM _) (by rw [cY];simp;omega)]
        have M:(List.take st.length (kS (b::a::st))).drop 0=kS st:=by
         simp only [kS,sq,gQ]
         rw [xQ (by rw [cY];exact eX _),pJ (by rw [cY];exact eX _)]
        rw [M]
        simp only [aX]
        rw [cW (by simp only [gq,pj,cY];omega)]
        simp only [aX]
        have V:=ih (.bi (fy n (-1) (-1)) a b::st) (by simp [cb,Tr.size];omega)
        simp only [cb,Tr.size,Na,fl,kS]at V
        rw [show(((cb st+(a.size+b.size+1):Nat):Int)-1)=((cb st+a.size+b.size:Nat):Int)from by omega,show cb st+(a.size+b.size+1)=cb st+a.size+b.size+1 from by omega]at V
        have hm:min (min (((cb st+a.size+b.size:Nat)):Int) (cb st:Int)) ((cb st+a.size:Nat):Int)=(cb st:Int):=by omega
        rw [hm]
        simp only [gQ]at V ⊢
        exact V
       ·have H:(n.L==((cb st+a.size:Nat):Int)-1&&n.R==((cb st+a.size+b.size:Nat):Int)-1)=false:=by
         rw [GO];intro h;apply hL;simpa using h
        rw [H]
        rw [bK (by
         simp only [zj,qt]
         intro h
         have A:((cb st+a.size:Nat):Int)-1=n.L:=by injection h
         have V:((cb st+a.size+b.size:Nat):Int)-1=n.R:=by injection h with _ h;injection h
         exact hL ⟨A.symm,V.symm⟩)]
        simp

def BF{n:Nat}(h:n<=1000000):n<=nA:=by unfold nA;omega
def jx(ns:List ap):Bool:=(oH ns).isSome
def HC{st:List Tr}(h:nI ns []=some st):cb st=ns.length:=by
 have:=(xc h (fun t M=>by cases M)).1
 rw [<-E1,this];simp [ua]
def pf(e:aB)(h:e.Nodes.length<=100000):ny e=some (if jx e.Nodes then 0 else 200):=by
 unfold ny vb jx oH
 have:=Ng e.Nodes [] (by simpa [cb] using h)
 simp only [cb,Na,kS]at this
 rw [this]
 cases hp:nI e.Nodes []with
 |none=>rfl
 |some st=>
  have hsz:=HC hp
  match st,hsz with
  |[],_=>rfl
  |[t],hsz=>
   simp only [aX,hsz]
   by_cases hl:e.Nodes.length<=1000<;>simp [hl]
  |t::t2::st,_=>simp
def Qx(t:Tr):t.wf-> ∀(P R N:List ap) (fu:Nat),N=P++t.flat P.length++R->t.size<=fu->N.length<=100000->ia fu ⟨N⟩ (((P.length+t.size:Nat):Int)-1)=some (t.size:Int):=by
 induction t with
 |lf n=>
  intro⟨A,V,h3,h4⟩ P R N fu hN hf hl
  have hNl:=congrArg List.length hN
  simp only [mY,Tr.flat_len]at hNl
  simp only [Tr.size]at hf hNl ⊢
  obtain⟨fu,rfl⟩: ∃k,fu=k+1:=⟨fu-1,by omega⟩
  unfold ia
  have D:N[P.length]? =some (fy n (-1) (-1)):=by
   rw [hN,gQ,uw (eX _),Nat.sub_self];rfl
  rw [bG (by simp;omega),jk P.length (by omega),D]
  have e1:(fy n (-1) (-1)).Tag=n.Tag:=rfl
  simp only [aX]
  rw [e1,n5]
  have e:FZ n.Tag=0:=by unfold FZ;rw [A];rfl
  simp only [e,aX,iS]
  have e2:AX (fy n (-1) (-1))=true:=V
  rw [e2]
  simp [fy]
 |un n a ih=>
  intro⟨⟨A,V,h3,h4⟩,ha⟩ P R N fu hN hf hl
  obtain⟨m,hm⟩: ∃m,m=fy n (((P.length+a.size:Nat):Int)-1) (-1):=⟨_,rfl⟩
  have hNl:=congrArg List.length hN
  simp only [mY,Tr.flat_len]at hNl
  simp only [Tr.size]at hf hNl ⊢
  simp only [Tr.flat,<-hm]at hN
  obtain⟨fu,rfl⟩: ∃k,fu=k+1:=⟨fu-1,by omega⟩
  have hpos:=a.size_pos
  have hi:=ih ha P ([m]++R) N fu (by rw [hN];simp only [gQ]) (by omega) hl
  unfold ia
  have D:N[P.length+a.size]? =some m:=by
   rw [hN,gQ,gQ,<-gQ P,uw (by simp [a.flat_len])]
   simp [a.flat_len]
  rw [bG (by simp;omega),jk (P.length+a.size) (by omega),D]
  simp only [aX]
  have e1:m.Tag=n.Tag:=by rw [hm];rfl
  rw [e1,n5]
  have e:FZ n.Tag=1:=by unfold FZ;rw [A];rfl
  simp only [e,aX,iS]
  have e2:AX m=true:=by rw [hm];exact V
  have eL:m.L=((P.length+a.size:Nat):Int)-1:=by rw [hm];rfl
  have eR:m.R= -1:=by rw [hm];rfl
  rw [dS (n:=((P.length+(a.size+1):Nat):Int)-1-1) (by omega) (by omega),show(((P.length+(a.size+1):Nat):Int)-1-1)=(((P.length+a.size:Nat):Int)-1)from by omega]
  rw [hi]
  simp only [aX]
  rw [dS (n:=(a.size:Int)+1) (by omega) (by omega)]
  have n1: ¬a.size=0:=by omega
  simp [e2,eL,eR,n1]
 |bi n a b iha ihb=>
  intro⟨⟨A,V,h3,h4⟩,ha,H⟩ P R N fu hN hf hl
  obtain⟨m,hm⟩: ∃m,m=fy n (((P.length+a.size:Nat):Int)-1) (((P.length+a.size+b.size:Nat):Int)-1):=⟨_,rfl⟩
  have hNl:=congrArg List.length hN
  simp only [mY,Tr.flat_len]at hNl
  simp only [Tr.size]at hf hNl ⊢
  simp only [Tr.flat,<-hm]at hN
  obtain⟨fu,rfl⟩: ∃k,fu=k+1:=⟨fu-1,by omega⟩
  have hap:=a.size_pos
  have hbp:=b.size_pos
  have hi1:=iha ha P (b.flat (P.length+a.size)++[m]++R) N fu (by rw [hN];simp only [gQ]) (by omega) hl
  have hi2:=ihb H (P++a.flat P.length) ([m]++R) N fu (by rw [hN];simp only [gQ,mY,a.flat_len]) (by omega) hl
  rw [mY,a.flat_len]at hi2
  unfold ia
  have D:N[P.length+a.size+b.size]? =some m:=by
   rw [hN,gQ,gQ,<-gQ P,uw (by simp [a.flat_len,b.flat_len];omega)]
   have:P.length+a.size+b.size-(P++(a.flat P.length++b.flat (P.length+a.size))).length=0:=by simp [a.flat_len,b.flat_len];omega
   rw [this];rfl
  rw [bG (by simp;omega),jk (P.length+a.size+b.size) (by omega),D]
  simp only [aX]
  have e1:m.Tag=n.Tag:=by rw [hm];rfl
  rw [e1,n5]
  have e:FZ n.Tag=2:=by unfold FZ;rw [A];rfl
  simp only [e,aX,iS]
  have e2:AX m=true:=by rw [hm];exact V
  have eL:m.L=((P.length+a.size:Nat):Int)-1:=by rw [hm];rfl
  have eR:m.R=((P.length+a.size+b.size:Nat):Int)-1:=by rw [hm];rfl
  rw [dS (n:=((P.length+(a.size+b.size+1):Nat):Int)-1-1) (by omega) (by omega),show(((P.length+(a.size+b.size+1):Nat):Int)-1-1)=(((P.length+a.size+b.size:Nat):Int)-1)from by omega]
  rw [hi2]
  simp only [aX]
  rw [dS (n:=((P.length+a.size+b.size:Nat):Int)-1-(b.size:Int)) (by omega) (by omega),show((P.length+a.size+b.size:Nat):Int)-1-(b.size:Int)=((P.length+a.size:Nat):Int)-1 from by omega]
  rw [hi1]
  simp only [aX]
  rw [dS (n:=(a.size:Int)+(b.size:Int)) (by omega) (by omega),dS (n:=(a.size:Int)+(b.size:Int)+1) (by omega) (by omega)]
  have n1: ¬a.size=0:=by omega
  have n2: ¬b.size=0:=by omega
  have e5:(P.length:Int)+(a.size:Int)+(b.size:Int)-1-(b.size:Int)=(P.length:Int)+(a.size:Int)-1:=by omega
  simp [e2,eL,eR,n1,n2,e5]
def Qy(N:List ap)(hN:N.length<=100000): ∀(fu q:Nat),q<=N.length->q<fu-> ∃k:Nat,ia fu ⟨N⟩ ((q:Int)-1)=some (k:Int)/\(k=0\/ ∃(t:Tr) (P R:List ap),t.wf/\t.size=k/\N=P++t.flat P.length++R/\P.length+k=q):=by
 intro fu
 induction fu with
 |zero=>intro q _ h;omega
 |succ fu ih=>
  intro q hq hf
  unfold ia
  by_cases h0:q=0
  ·subst h0
   exact⟨0,by rw [bK (by simp)];rfl,.inl rfl⟩
  rw [bG (by simp;omega),jk (q-1) (by omega)]
  have hlt:q-1<N.length:=by omega
  rw [kQ hlt]
  obtain⟨n,hn⟩: ∃n,n=N[q-1]:=⟨_,rfl⟩
  rw [<-hn]
  have hd:N=N.take (q-1)++([n]++N.drop q):=by
   have A:=rX (q-1) N
   rw [wN hlt,<-hn,show q-1+1=q from by omega]at A
   exact A.symm
  simp only [aX,n5,iS]
  cases hk:pk n.Tag with
  |none=>
   have e:FZ n.Tag= -1:=by unfold FZ;rw [hk]
   exact⟨0,by simp [e],.inl rfl⟩
  |some k=>
   have e:FZ n.Tag=(k:Int):=by unfold FZ;rw [hk]
   have hk3:k=0\/k=1\/k=2:=by
    unfold pk at hk
    repeat' split at hk
    all_goals simp at hk
    all_goals omega
   cases hc:AX n with
   |false=>exact⟨0,by simp [e,hc],.inl rfl⟩
   |true=>
    rcases hk3 with rfl|rfl|rfl
    ·rw [e]
     by_cases hL:n.L= -1/\n.R= -1
     ·refine⟨1,by simp [hL],.inr ⟨.lf (fy n (-1) (-1)),N.take (q-1),N.drop q,⟨hk,hc,rfl,rfl⟩,rfl,?_,by simp;omega⟩⟩
      simp only [Tr.flat]
      rw [vE hL.1 hL.2,gQ]
      exact hd
     ·refine⟨0,?_,.inl rfl⟩
      have:(n.L != -1||n.R != -1)=true:=by
       rw [ze,xR,xR]
       by_cases hl:n.L= -1
       ·exact .inr fun h=>hL ⟨hl,h⟩
       ·exact .inl hl
      simp [this]
    ·rw [e,dS (by omega) (by omega)]
     have e9:(((q-1:Nat):Int)-1)=(q:Int)-1-1:=by omega
     obtain⟨r2,V,h2'⟩:=ih (q-1) (by omega) (by omega)
     rw [e9]at V
     rw [V]
     rcases h2' with rfl|⟨t,P,R,hw,hs,hN2,hl⟩
     ·exact⟨0,by simp,.inl rfl⟩
     ·have hp:=t.size_pos
      by_cases hL:n.L=(q:Int)-1-1/\n.R= -1
      ·refine⟨r2+1,?_,.inr ⟨.un (fy n (-1) (-1)) t,P,N.drop q,⟨⟨hk,hc,rfl,rfl⟩,hw⟩,by simp only [Tr.size];omega,?_,by omega⟩⟩
       ·simp only [aX]
        rw [dS (n:=(r2:Int)+1) (by omega) (by omega)]
        have: ¬(r2=0):=by omega
        simp [hL,this]
       ·simp only [Tr.flat]
        rw [vE (by rw [hL.1];omega) hL.2]
        have M:N.take (q-1)=P++t.flat P.length:=by
         rw [hN2,xQ (by simp [t.flat_len];omega),pJ (by simp [t.flat_len];omega)]
        rw [M]at hd
        simpa only [gQ] using hd
      ·refine⟨0,?_,.inl rfl⟩
       have:(n.L !=(q:Int)-1-1||n.R != -1)=true:=by
        rw [ze,xR,xR]
        by_cases hl:n.L=(q:Int)-1-1
        ·exact .inr fun h=>hL ⟨hl,h⟩
        ·exact .inl hl
       simp [this]
    ·rw [e,dS (n:=(q:Int)-1-1) (by omega) (by omega)]
     have e9:(((q-1:Nat):Int)-1)=(q:Int)-1-1:=by omega
     obtain⟨r2,V,h2'⟩:=ih (q-1) (by omega) (by omega)
     rw [e9]at V
     rw [V]
     rcases h2' with rfl|⟨t,P,R,hw,hs,hN2,hl⟩
     ·exact⟨0,by simp,.inl rfl⟩
     ·have hp:=t.size_pos
      simp only [aX]
      rw [dS (n:=(q:Int)-1-1-(r2:Int)) (by omega) (by omega)]
      have e8:(((q-1-r2:Nat):Int)-1)=(q:Int)-1-1-(r2:Int):=by omega
      have n2: ¬(r2=0):=by omega
      obtain⟨r3,h3,h3'⟩:=ih (q-1-r2) (by omega) (by omega)
      rw [e8]at h3
      rw [h3]
      rcases h3' with rfl|⟨t3,P3,R3,hw3,hs3,hN3,hl3⟩
      ·exact⟨0,by simp,.inl rfl⟩
      ·have hp3:=t3.size_pos
       have n3: ¬(r3=0):=by omega
       by_cases hL:n.R=(q:Int)-1-1/\n.L=(q:Int)-1-1-(r2:Int)
       ·refine⟨r3+r2+1,?_,.inr ⟨.bi (fy n (-1) (-1)) t3 t,P3,N.drop q,⟨⟨hk,hc,rfl,rfl⟩,hw3,hw⟩,by simp only [Tr.size];omega,?_,by omega⟩⟩
        ·simp only [aX]
         rw [dS (n:=(r3:Int)+(r2:Int)) (by omega) (by omega),dS (n:=(r3:Int)+(r2:Int)+1) (by omega) (by omega)]
         simp [hL,n2,n3]
        ·simp only [Tr.flat]
         rw [vE (by rw [hL.2];omega) (by rw [hL.1];omega)]
         have M:N.take (q-1)=P++t.flat P.length:=by
          rw [hN2,xQ (by simp [t.flat_len];omega),pJ (by simp [t.flat_len];omega)]
         have hP:P=N.take P.length:=by
          conv=>rhs;rw [hN2,gQ,xQ (eX _),pJ (eX _)]
         have hP3:P=P3++t3.flat P3.length:=by
          rw [hP]
          have:P.length=P3.length+t3.size:=by omega
          conv=>lhs;rw [this,hN3]
          rw [xQ (by simp [t3.flat_len]),pJ (by simp [t3.flat_len])]
         have hPl:P.length=P3.length+t3.size:=by omega
         rw [M,hPl]at hd
         rw [hP3]at hd
         simpa only [gQ] using hd
       ·clear ih hN2 hN3
        refine⟨0,?_,.inl rfl⟩
        have:(n.R !=(q:Int)-1-1||n.L !=(q:Int)-1-1-(r2:Int))=true:=by
         rw [ze,xR,xR]
         by_cases hl:n.R=(q:Int)-1-1
         ·exact .inr fun h=>hL ⟨hl,h⟩
         ·exact .inl hl
        have h' :=this
        rw [ze,xR,xR]at h'
        simp [n2,n3]
        intro A V
        exact absurd V (by rcases h' with h' |h';exact absurd A h';exact h')
def CA(e:aB):uN e=some (jx e.Nodes):=by
 unfold uN jx
 by_cases h:1<=e.Nodes.length/\e.Nodes.length<=1000
 ·rw [bK (by simp;omega),dS (by omega) (by omega)]
  unfold Cz
  obtain⟨k,A,V⟩:=Qy e.Nodes (by omega) nA e.Nodes.length (eX _) (GT (Nat.lt_succ_self _) (BF (by omega)))
  have h1' :ia nA e ((e.Nodes.length:Int)-1)=some (k:Int):=A
  rw [h1']
  simp only [aX]
  congr 1
  rw [wJ]
  constructor
  ·intro hk
   have hk' :k=e.Nodes.length:=by have:=eq_of_beq hk;omega
   rcases V with rfl|⟨t,P,R,hw,hs,hN,hl⟩
   ·omega
   ·have hP:P=[]:=sW (by omega)
    subst hP
    have hR:R=[]:=by
     have:=congrArg List.length hN
     simp [t.flat_len]at this
     exact sW (by omega)
    subst hR
    have hN' :e.Nodes=t.flat 0:=by simpa using hN
    rw [hN',uD hw (by omega)];rfl
  ·intro hi
   cases M:oH e.Nodes with
   |none=>rw [M]at hi;cases hi
   |some t=>
    obtain⟨hw,hN,hs⟩:=nE M
    have hlen:e.Nodes.length=t.size:=by rw [hN,t.flat_len]
    have h3:=Qx t hw [] [] e.Nodes nA (by simpa using hN) (BF (by omega)) (by omega)
    simp only [pj,ph]at h3
    rw [<-hlen]at h3
    have h4:some (k:Int)=some (e.Nodes.length:Int):=A.symm.trans h3
    simpa using h4
 ·rw [bG (by simp;omega)]
  simp only [aX]
  congr 1
  symm
  rw [GO]
  intro hi
  cases M:oH e.Nodes with
  |none=>rw [M]at hi;cases hi
  |some t=>
   obtain⟨hw,hN,hs⟩:=nE M
   have hlen:e.Nodes.length=t.size:=by rw [hN,t.flat_len]
   have:=t.size_pos
   omega
def Jk(h:jx ns=true):1<=ns.length/\ns.length<=1000:=by
 unfold jx at h
 cases M:oH ns with
 |none=>rw [M]at h;cases h
 |some t=>
  obtain⟨hw,hN,hs⟩:=nE M
  have hlen:ns.length=t.size:=by rw [hN,t.flat_len]
  have:=t.size_pos
  omega

def J7(p:List Int)(hp:p.length<=8000)(i:Nat)(y:List Int)(hy:i+y.length=p.length): ∀(k i1:Nat) (x:List Int) (x1:Nat),i1+k=y.length->0<i1->x.length=p.length->x1+1<=i+i1->x.drop (i+i1-1)=p.drop (i+i1-1)->
  dN i y k i1 x (x1:Int)=some (x.take x1++vh ((p[i+i1-1]?).getD 0) (p.drop (i+i1))):=by
 intro k
 induction k with
 |zero=>
  intro i1 x x1 A h0 D V h3
  simp only [dN]
  have hx1:x1<=x.length:=by omega
  rw [qh hx1 (eX _)]
  simp only [aX,xU,Ft]
  rw [show((0:Int))=((0:Nat):Int)from rfl,qh (jM _) (by simp;omega)]
  simp only [aX,sq]
  have hn:p.drop (i+i1)=[]:=KA (by omega)
  rw [hn,Io,xL,xQ (by simp;omega),A2,Nat.min_self]
 |succ k ih=>
  intro i1 x x1 A h0 D V h3
  have e1:x[i+i1]? =p[i+i1]? :=by
   have:=congrArg (fun l:List Int=>l[1]?) h3
   simp only [ul]at this
   rwa [show i+i1-1+1=i+i1 from by omega]at this
  have e0:x[i+i1-1]? =p[i+i1-1]? :=by
   have:=congrArg (fun l:List Int=>l[0]?) h3
   simpa only [ul,BS] using this
  have hlt:i+i1<p.length:=by omega
  have g1:D8 x (i:Int) y.length (i1:Int)=some p[i+i1]:=by
   unfold D8
   rw [bK (by omega),show(i:Int)+(i1:Int)=((i+i1:Nat):Int)from by omega,mK,e1,kQ hlt]
  have g0:D8 x (i:Int) y.length (IntKind.i64.wrap ((i1:Int)-1))=some p[i+i1-1]:=by
   rw [dS (by omega) (by omega)]
   unfold D8
   rw [bK (by omega),show(i:Int)+((i1:Int)-1)=((i+i1-1:Nat):Int)from by omega,mK,e0,kQ (by omega)]
  have hd:p.drop (i+i1)=p[i+i1]::p.drop (i+i1+1):=wN hlt
  have hp1:(p[i+i1-1]?).getD 0=p[i+i1-1]:=by rw [kQ (by omega)];rfl
  simp only [dN,g1,g0,aX]
  rw [hd,hp1]
  by_cases hx2:p[i+i1]=p[i+i1-1]
  ·rw [bG (by simp [hx2])]
   have h3' :x.drop (i+(i1+1)-1)=p.drop (i+(i1+1)-1):=by
    have:=congrArg (List.drop 1) h3
    rwa [sR,sR,show i+i1-1+1=i+(i1+1)-1 from by omega]at this
   rw [ih (i1+1) x x1 (by omega) (by omega) D (by omega) h3']
   rw [Fc hx2,show i+(i1+1)-1=i+i1 from by omega,kQ hlt,show i+(i1+1)=i+i1+1 from by omega]
   rfl
  ·rw [bK (by simp [hx2]),mK,kQ (by omega)]
   simp only [aX,Ft]
   rw [dS (by omega) (by omega),show((x1:Int)+1)=((x1+1:Nat):Int)from by omega]
   have h3' :(x.set x1 p[i+i1]).drop (i+(i1+1)-1)=p.drop (i+(i1+1)-1):=by
    rw [List.drop_set_of_lt (by omega)]
    have:=congrArg (List.drop 1) h3
    rwa [sR,sR,show i+i1-1+1=i+(i1+1)-1 from by omega]at this
   rw [ih (i1+1) _ (x1+1) (by omega) (by omega) (by simpa using D) (by omega) h3']
   rw [LI hx2,show i+(i1+1)-1=i+i1 from by omega,kQ hlt,show i+(i1+1)=i+i1+1 from by omega]
   have M:(x.set x1 p[i+i1]).take (x1+1)=x.take x1++[p[i+i1]]:=by
    rw [KE (by simp;omega),List.take_set_of_le (by omega)]
    simp
   rw [M]
   simp
def J8(p:List Int)(hp:p.length<=8000):jf p=some (LH p):=by
 unfold jf
 by_cases V:p.length<2
 ·rw [bK (by simp;omega)]
  match p,V with
  |[],_=>rfl
  |[x],_=>rfl
 ·rw [bG (by simp;omega)]
  have key: ∀(l:List Int) (i:Nat),p.drop i=l->0<i->i<=p.length->LH p=p.take i++vh ((p[i-1]?).getD 0) (p.drop i)->er p l i=some (LH p):=by
   intro l
   induction l with
   |nil=>
    intro i A h0 hle h3
    have:=GV.1 A
    simp only [er]
    rw [h3,A,pJ (by omega),Io,xL]
   |cons x t ih=>
    intro i A h0 hle h3
    have hi:i<p.length:=by
     rcases lI i p.length with h|h
     ·exact h
     ·rw [KA h]at A;cases A
    have D:x=p[i]:=by rw [wN hi]at A;exact(xS A).1.symm
    have M:p.drop (i+1)=t:=by rw [<-sR,A];rfl
    have hp1:(p[i-1]?).getD 0=p[i-1]:=by rw [kQ (by omega)];rfl
    simp only [er]
    rw [dS (by omega) (by omega),show(i:Int)-1=((i-1:Nat):Int)from by omega,mK,kQ (by omega)]
    simp only [aX]
    by_cases he:x=p[i-1]
    ·rw [bK (by simp [he])]
     rw [qh hle (eX _)]
     simp only [aX,xU]
     rw [J7 p hp i (p.drop i) (by simp;omega) _ 1 p i (by simp;omega) (by omega) rfl (by omega) (by simp)]
     rw [h3,A,hp1,Fc he,<-M,D]
     rw [show i+1-1=i from by omega,kQ hi];rfl
    ·rw [bG (by simp [he])]
     refine ih (i+1) M (by omega) (by omega) ?_
     rw [h3,A,hp1,LI he,KE hi,<-M,D,show i+1-1=i from by omega,kQ hi]
     rw [gQ];rfl
  have hpc:p=p[0]::p.drop 1:=by
   have:=wN (l:=p) (i:=0) (by omega)
   simpa using this
  refine key (p.drop 1) 1 rfl (by omega) (by omega) ?_
  have e:(p[1-1]?).getD 0=p[0]:=by simp [kQ (show 0<p.length by omega)]
  rw [e]
  conv=>lhs;rw [hpc]
  have e2:p.take 1=[p[0]]:=by
   conv=>lhs;rw [hpc]
   rfl
  rw [e2];rfl

def MN(l:List Int)(z:Int):z∈sortI l↔z∈l:=by unfold sortI;simp
def xG: ∀(ns:List ap) (out:List Int),out.length+ns.length<=8000-> ∃cs,lb ns out=some cs/\ ∀c,c∈cs↔c∈out\/ ∃n∈ns,n.Tag=2/\n.Col=c
 |[],out,h=>by
  unfold lb;rw [Ew]
  rw [bK (by simp at h;omega)]
  simp only [aX]
  rw [J8 _ (by rw [zx];simpa using h)]
  exact⟨_,rfl,fun c=>by rw [MO,MN];simp⟩
 |n::ns,out,h=>by
  simp only [gq]at h
  unfold lb
  by_cases M:n.Tag=2
  ·rw [bK (by simp [M]),cW (by simp;omega)]
   simp only [aX]
   obtain⟨cs,A,V⟩:=xG ns (out++[n.Col]) (by simp;omega)
   exact⟨cs,A,fun c=>by rw [V];simp [M,or_assoc,eq_comm]⟩
  ·rw [bG (by simp [M])]
   obtain⟨cs,A,V⟩:=xG ns out (by omega)
   exact⟨cs,A,fun c=>by rw [V];simp [M]⟩
def Gw(e:aB)(h:jx e.Nodes=true): ∃cs,sM e=some cs/\ ∀c,c∈cs↔ ∃n∈e.Nodes,n.Tag=2/\n.Col=c:=by
 have hl:=Jk h
 unfold sM
 rw [pf e (by omega),h]
 obtain⟨cs,A,V⟩:=xG e.Nodes [] (by simp;omega)
 exact⟨cs,by simpa using A,fun c=>by rw [V];simp⟩
def kn(tag l r:Int):Int×Bool:=(qE tag l r).getD (0,false)
def ww(tag l r:Int):qE tag l r=some (kn tag l r):=by
 unfold kn qE oK
 simp only [aX]
 repeat' split
 all_goals simp
def k4(k:Int):Prop:=k=0\/k=1\/k=2\/k=3
def Su(tag l r:Int):k4 (kn tag l r).1:=by
 unfold kn qE oK
 simp only [aX]
 repeat' split
 all_goals simp [k4]
def Kr(kinds:List Int)(n:ap)(x:Int)(D:k4 x)(hk:pk n.Tag=some 1):iv kinds n [x]=some (if(kn n.Tag x 0).2 then((kn n.Tag x 0).1,0)else(0,201)):=by
 obtain⟨tag,L,R,col,v⟩:=n
 have M:tag=4\/tag=5\/tag=6\/tag=7:=by
  unfold pk at hk
  repeat' split at hk
  all_goals simp at hk
  rename_i h
  have h:4<=tag/\tag<=7:=h
  omega
 rcases M with rfl|rfl|rfl|rfl<;>rcases D with rfl|rfl|rfl|rfl<;>rfl
def Kq(kinds:List Int)(n:ap)(x y:Int)(D:k4 x)(hy:k4 y)(hk:pk n.Tag=some 2):iv kinds n [x,y]=some (if(kn n.Tag x y).2 then((kn n.Tag x y).1,0)else(0,201)):=by
 obtain⟨tag,L,R,col,v⟩:=n
 have M:tag=12\/tag=13\/tag=14\/tag=15\/tag=16\/tag=17\/tag=18\/tag=19\/tag=20\/tag=21\/tag=22\/tag=23:=by
  unfold pk at hk
  repeat' split at hk
  all_goals simp at hk
  rename_i h
  have h:12<=tag/\tag<=23:=h
  omega
 rcases M with rfl|rfl|rfl|rfl|rfl|rfl|rfl|rfl|rfl|rfl|rfl|rfl<;>rcases D with rfl|rfl|rfl|rfl<;>rcases hy with rfl|rfl|rfl|rfl<;>rfl
def kd(kinds:List Int):Tr->Option Int
 | .lf n=>if n.Tag=1 then some n.Value.Kind else some ((kinds[n.Col.toNat]?).getD 0)
 | .un n a=>(kd kinds a).bind fun x=>if(kn n.Tag x 0).2 then some (kn n.Tag x 0).1 else none
 | .bi n a b=>(kd kinds a).bind fun x=>(kd kinds b).bind fun y=>if(kn n.Tag x y).2 then some (kn n.Tag x y).1 else none
def HW(kinds:List Int)(n:ap)(a:Tr):kd kinds (.un n a)=(kd kinds a).bind fun x=>if(kn n.Tag x 0).2 then some (kn n.Tag x 0).1 else none:=rfl
def ER(kinds:List Int)(n:ap)(a b:Tr):kd kinds (.bi n a b)=(kd kinds a).bind fun x=>(kd kinds b).bind fun y=>if(kn n.Tag x y).2 then some (kn n.Tag x y).1 else none:=rfl
def Dl(m:Nat):Tr->Prop
 | .lf n=>n.Tag=2->n.Col<m
 | .un _ a=>Dl m a
 | .bi _ a b=>Dl m a/\Dl m b
def WV{tag:Int}(h:pk tag=some 0):tag=1\/tag=2:=by
 unfold pk at h
 repeat' split at h
 all_goals simp at h
 assumption
def Xr(h:AX n=true)(M:n.Tag=1):pP n.Value=true:=by
 have V:=iS n
 rw [h]at V
 unfold ib at V
 rw [bK (by simp [M]),n6]at V
 simp at V
 exact V.1
def Ux(h:AX n=true)(M:n.Tag=2):0<=n.Col/\n.Col<16:=by
 have V:=iS n
 rw [h]at V
 unfold ib at V
 rw [bG (by simp [M]),bK (by simp [M])]at V
 simp at V
 exact⟨V.1.2,V.2⟩
def Lh{kinds:List Int}(hk: ∀k∈kinds,k4 k): ∀(t:Tr),t.wf-> ∀{k},kd kinds t=some k->k4 k
 | .lf n,⟨A,V,_,_⟩,k,h=>by
  unfold kd at h
  split at h
  ·rename_i M
   have:=HA (Xr V M)
   cases h;unfold k4;omega
  ·injection h with h
   subst h
   cases hc:kinds[n.Col.toNat]? with
   |none=>exact .inl rfl
   |some z=>exact hk z (rb hc)
 | .un n a,_,k,h=>by
  unfold kd at h
  cases ha:kd kinds a with
  |none=>rw [ha]at h;cases h
  |some x=>
   rw [ha,aX]at h
   split at h
   ·cases h;exact Su ..
   ·cases h
 | .bi n a b,_,k,h=>by
  unfold kd at h
  cases ha:kd kinds a with
  |none=>rw [ha]at h;cases h
  |some x=>
   cases H:kd kinds b with
   |none=>rw [ha,H]at h;cases h
   |some y=>
    rw [ha,H]at h
    simp only [aX]at h
    split at h
    ·cases h;exact Su ..
    ·cases h
def Jr(stack l:List Int)(h:stack.length+l.length<=100000):nf (stack++l) (l.length:Int)=some (l,stack):=by
 unfold nf jU
 have e:IntKind.i64.wrap (((stack++l).length:Int)-(l.length:Int))=(stack.length:Int):=by
  rw [mY,dS (by omega) (by omega)];omega
 rw [e,iE stack.length (stack++l).length rfl rfl (by simp) (eX _)]
 simp only [aX,xU,IR (eX _),List.drop_length,nj]
 rw [cW (by simp;omega)]
 simp only [aX,nj]
 rw [iE (i:=0) 0 stack.length rfl rfl (jM _) (by simp)]
 simp
def HD(stack:List Int){b:Int}(h:b≠0):kC b stack=some (0,b):=by
 unfold kC;rw [bK (by simpa using h)]
def sk{tag:Int}{k:Nat}(h:pk tag=some k):oT tag=some (k:Int):=by
 rw [wC];unfold FZ;rw [h]
def MF(kinds:List Int)(hk: ∀k∈kinds,k4 k)(t:Tr):t.wf->Dl kinds.length t-> ∀(s:Nat) (rest:List ap) (stack:List Int),stack.length+t.size<=50000->
  gi (iv kinds) (t.flat s++rest) 0 stack=match kd kinds t with
   |some k=>gi (iv kinds) rest 0 (stack++[k])
   |none=>some (0,201):=by
 induction t with
 |lf n=>
  intro⟨A,V,h3,h4⟩ hc s rest stack hl
  simp only [Tr.flat,Tr.size,xN,nj]at hl ⊢
  rw [gi]
  have e1:(fy n (-1) (-1)).Tag=n.Tag:=rfl
  rw [e1,sk A]
  have h0:=Jr stack [] (by simp;omega)
  simp only [xL,pj]at h0
  simp only [aX]
  rw [h0]
  simp only [aX]
  have hv:iv kinds (fy n (-1) (-1)) []=(kd kinds (.lf n)).map (fun k=>(k,(0:Int))):=by
   unfold iv kE kd
   simp only [e1]
   rcases WV A with M|M
   ·rw [bK (by simp [M]),bK M];rfl
   ·rw [bG (by simp [M]),bK (by simp [M]),bG (by simp [M])]
    have H:=Ux V M
    have hm:n.Col<kinds.length:=hc M
    have e2:(fy n (-1) (-1)).Col=n.Col:=rfl
    rw [e2,jk n.Col.toNat (by omega),kQ (by omega)]
    rfl
  rw [hv]
  have: ∃k,kd kinds (.lf n)=some k:=by unfold kd;split<;>exact⟨_,rfl⟩
  obtain⟨k,hk1⟩:=this
  rw [hk1]
  simp only [Eg,aX]
  rw [bG (by simp),cW (by simp;omega)]
  rfl
 |un n a ih=>
  intro⟨⟨A,V,h3,h4⟩,ha⟩ hc s rest stack hl
  simp only [Tr.flat,Tr.size,gQ]at hl ⊢
  rw [HW,ih ha hc s _ stack (by omega)]
  cases D:kd kinds a with
  |none=>rfl
  |some x=>
   have hx4:=Lh hk a ha D
   simp only [aX,xN,nj]
   rw [gi]
   have e1:(fy n (((s+a.size:Nat):Int)-1) (-1)).Tag=n.Tag:=rfl
   rw [e1,sk A]
   have h0:=Jr stack [x] (by simp;omega)
   simp only [aX]
   have e0:(([x]:List Int).length:Int)=((1:Nat):Int):=rfl
   rw [<-e0,h0]
   simp only [aX]
   rw [Kr kinds _ x hx4 (by rw [e1];exact A),e1]
   cases H:(kn n.Tag x 0).2 with
   |true=>
    simp only [gO,aX]
    rw [bG (by simp),cW (by simp;omega)]
    rfl
   |false=>
    simp only [j0,iB,aX]
    rw [bK (by decide),HD _ (by decide)]
 |bi n a b iha ihb=>
  intro⟨⟨A,V,h3,h4⟩,ha,H⟩ ⟨hca,hcb⟩ s rest stack hl
  simp only [Tr.flat,Tr.size,gQ]at hl ⊢
  rw [ER,iha ha hca s _ stack (by omega)]
  cases D:kd kinds a with
  |none=>rfl
  |some x=>
   have hx4:=Lh hk a ha D
   simp only [aX]
   rw [ihb H hcb (s+a.size) _ (stack++[x]) (by have:=a.size_pos;simp;omega)]
   cases hy:kd kinds b with
   |none=>rfl
   |some y=>
    have hy4:=Lh hk b H hy
    have hap:=a.size_pos
    simp only [aX,xN,nj]
    rw [gi]
    have e1:(fy n (((s+a.size:Nat):Int)-1) (((s+a.size+b.size:Nat):Int)-1)).Tag=n.Tag:=rfl
    rw [e1,sk A]
    have h0:=Jr stack [x,y] (by simp;omega)
    simp only [aX]
    have e0:(([x,y]:List Int).length:Int)=((2:Nat):Int):=rfl
    have e9:stack++[x]++[y]=stack++[x,y]:=by simp
    rw [<-e0,e9,h0]
    simp only [aX]
    rw [Kq kinds _ x y hx4 hy4 (by rw [e1];exact A),e1]
    cases H:(kn n.Tag x y).2 with
    |true=>
     simp only [gO,aX]
     rw [bG (by simp),cW (by simp;omega)]
     rfl
    |false=>
     simp only [j0,iB,aX]
     rw [bK (by decide),HD _ (by decide)]
def Oo(kinds:List Int)(hk: ∀k∈kinds,k4 k)(t:Tr):t.wf->Dl kinds.length t-> ∀(rest:List ap) (own:List Int),own.length+t.size<=50000->
  (kd kinds t=none/\dg kinds (t.flat own.length++rest) own=some (0,201))\/
  (∃k w,kd kinds t=some k/\w.length+1=t.size/\dg kinds (t.flat own.length++rest) own=dg kinds rest (own++w++[k])):=by
 induction t with
 |lf n=>
  intro⟨A,V,h3,h4⟩ hc rest own hl
  simp only [Tr.flat,Tr.size,xN,nj]at hl ⊢
  refine .inr ?_
  have e1:(fy n (-1) (-1)).Tag=n.Tag:=rfl
  unfold kd
  rcases WV A with M|M
  ·refine⟨_,[],bK M,rfl,?_⟩
   rw [dg]
   rw [e1,bK (by simp [M]),cW (by simp;omega)]
   simp only [aX,xL]
   rfl
  ·refine⟨_,[],bG (by simp [M]),rfl,?_⟩
   have H:=Ux V M
   have hm:n.Col<kinds.length:=hc M
   have e2:(fy n (-1) (-1)).Col=n.Col:=rfl
   rw [dg]
   rw [e1,bG (by simp [M]),bK (by simp [M]),e2,jk n.Col.toNat (by omega),kQ (by omega)]
   simp only [aX,xL,Option.getD_some]
   rw [cW (by simp;omega)]
   rfl
 |un n a ih=>
  intro⟨⟨A,V,h3,h4⟩,ha⟩ hc rest own hl
  have hap:=a.size_pos
  simp only [Tr.flat,Tr.size,gQ]at hl ⊢
  rcases ih ha hc ([fy n (((own.length+a.size:Nat):Int)-1) (-1)]++rest) own (by omega)with⟨D,he⟩|⟨x,w,D,hw,he⟩
  ·exact .inl ⟨by rw [HW,D];rfl,by rw [he]⟩
  ·rw [he]
   rw [HW,D]
   simp only [aX,xN,nj]
   have e1:(fy n (((own.length+a.size:Nat):Int)-1) (-1)).Tag=n.Tag:=rfl
   have n1:n.Tag≠1:=fun h=>by rw [h]at A;simp [pk]at A
   have n2:n.Tag≠2:=fun h=>by rw [h]at A;simp [pk]at A
   have hstep:dg kinds (fy n (((own.length+a.size:Nat):Int)-1) (-1)::rest) (own++w++[x])=if(kn n.Tag x 0).2 then dg kinds rest (own++w++[x]++[(kn n.Tag x 0).1])else some (0,201):=by
    rw [dg]
    rw [e1,bG (by simpa using n1),bG (by simpa using n2)]
    have eL:(fy n (((own.length+a.size:Nat):Int)-1) (-1)).L=((own.length+a.size:Nat):Int)-1:=rfl
    have eR:(fy n (((own.length+a.size:Nat):Int)-1) (-1)).R= -1:=rfl
    rw [eL,eR,jk (own++w).length (by simp;omega),uw (eX _),Nat.sub_self]
    simp only [Em,aX]
    rw [bG (by decide)]
    unfold o8
    rw [e1,ww]
    simp only [aX]
    cases H:(kn n.Tag x 0).2 with
    |true=>
     simp only [pi,j0,iB,gO]
     rw [cW (by simp;omega)];rfl
    |false=>rfl
   rw [hstep]
   cases H:(kn n.Tag x 0).2 with
   |true=>exact .inr ⟨(kn n.Tag x 0).1,w++[x],by simp,by simp;omega,by simp⟩
   |false=>exact .inl ⟨by simp,by simp⟩
 |bi n a b iha ihb=>
  intro⟨⟨A,V,h3,h4⟩,ha,H⟩ ⟨hca,hcb⟩ rest own hl
  have hap:=a.size_pos
  have hbp:=b.size_pos
  simp only [Tr.flat,Tr.size,gQ]at hl ⊢
  obtain⟨m,hm⟩: ∃m,m=fy n (((own.length+a.size:Nat):Int)-1) (((own.length+a.size+b.size:Nat):Int)-1):=⟨_,rfl⟩
  rw [<-hm]
  rcases iha ha hca (b.flat (own.length+a.size)++([m]++rest)) own (by omega)with⟨D,he⟩|⟨x,w,D,hw,he⟩
  ·exact .inl ⟨by rw [ER,D];rfl,by rw [he]⟩
  ·rw [he]
   have hl2:(own++w++[x]).length=own.length+a.size:=by simp;omega
   rw [<-hl2]
   rcases ihb H hcb ([m]++rest) (own++w++[x]) (by rw [hl2];omega)with⟨hy,he2⟩|⟨y,w2,hy,hw2,he2⟩
   ·exact .inl ⟨by rw [ER,D,hy];rfl,by rw [he2]⟩
   ·rw [he2]
    rw [ER,D,hy]
    simp only [aX,xN,nj]
    have e1:m.Tag=n.Tag:=by rw [hm];rfl
    have eL:m.L=((own.length+a.size:Nat):Int)-1:=by rw [hm];rfl
    have eR:m.R=((own.length+a.size+b.size:Nat):Int)-1:=by rw [hm];rfl
    have n1:n.Tag≠1:=fun h=>by rw [h]at A;simp [pk]at A
    have n2:n.Tag≠2:=fun h=>by rw [h]at A;simp [pk]at A
    have hstep:dg kinds (m::rest) (own++w++[x]++w2++[y])=if(kn n.Tag x y).2 then dg kinds rest (own++w++[x]++w2++[y]++[(kn n.Tag x y).1])else some (0,201):=by
     rw [dg]
     rw [e1,bG (by simpa using n1),bG (by simpa using n2)]
     rw [eL,eR,jk (own++w).length (by simp;omega)]
     have g1:(own++w++[x]++w2++[y])[(own++w).length]? =some x:=by
      rw [gQ,gQ,uw (eX _),Nat.sub_self];rfl
     rw [g1]
     simp only [aX]
     rw [bK (by rw [il];omega),jk (own++w++[x]++w2).length (by simp;omega)]
     have g2:(own++w++[x]++w2++[y])[(own++w++[x]++w2).length]? =some y:=by
      rw [uw (eX _),Nat.sub_self];rfl
     rw [g2]
     simp only [aX]
     unfold o8
     rw [e1,ww]
     simp only [aX]
     cases H:(kn n.Tag x y).2 with
     |true=>
      simp only [pi,j0,iB,gO]
      rw [cW (by simp;omega)];rfl
     |false=>rfl
    rw [hstep]
    cases H:(kn n.Tag x y).2 with
    |true=>exact .inr ⟨(kn n.Tag x y).1,w++[x]++w2++[y],by simp,by simp;omega,by simp⟩
    |false=>exact .inl ⟨by simp,by simp⟩
def ld(m:Nat)(ns:List ap):Bool:=ns.all fun n=> !((n.Tag==2)&&decide ((m:Int)<=n.Col))
def Iq(m:Nat)(n:ap)(ns:List ap):ld m (n::ns)=(!((n.Tag==2)&&decide ((m:Int)<=n.Col))&&ld m ns):=rfl
def vi(m:Nat)(t:Tr):t.wf-> ∀s,ld m (t.flat s)=true->Dl m t:=by
 induction t with
 |lf n=>
  intro _ s h M
  simp only [ld,Tr.flat,uj,List.all_nil,Bool.and_true]at h
  have e1:(fy n (-1) (-1)).Tag=n.Tag:=rfl
  have e2:(fy n (-1) (-1)).Col=n.Col:=rfl
  simp [e1,e2,M]at h
  exact h
 |un n a ih=>
  intro⟨_,ha⟩ s h
  simp only [ld,Tr.flat,List.all_append,gM]at h
  exact ih ha s h.1
 |bi n a b iha ihb=>
  intro⟨_,ha,H⟩ s h
  simp only [ld,Tr.flat,List.all_append,gM]at h
  exact⟨iha ha s h.1.1,ihb H _ h.1.2⟩
def NP(kinds:List Int):Bool:=kinds.all fun k=>decide (0<=k)&&decide (k<=3)
def HX(k:Int)(ks:List Int):NP (k::ks)=((decide (0<=k)&&decide (k<=3))&&NP ks):=rfl
def Li{kinds:List Int}(h:NP kinds=true){k:Int}(hk:k∈kinds):k4 k:=by
 have:=lY.1 h k hk
 simp at this
 unfold k4;omega
def dI(e:aB)(kinds:List Int):Int×Int:=
 if jx e.Nodes then if NP kinds then if ld kinds.length e.Nodes then match (oH e.Nodes).bind (kd kinds)with
  |some k=>(k,0)
  |none=>(0,201)else(0,2)else(0,2)else(0,200)
def DG(e:aB)(kinds:List Int): ∀cs:List Int,kZ e kinds cs=if cs.all (fun c=>decide (c<(kinds.length:Int)))then m9 e (iv kinds)else some (0,2)
 |[]=>by
  unfold kZ
  cases m9 e (iv kinds)<;>rfl
 |c::cs=>by
  unfold kZ
  rw [DG e kinds cs]
  by_cases h:(kinds.length:Int)<=c
  ·rw [bK (by simpa using h),bG (by simp;omega)]
  ·rw [bG (by simpa using h)]
   have:c<(kinds.length:Int):=by omega
   simp [this]
def la(e:aB)(kinds:List Int)(hl:e.Nodes.length<=50000):lC e kinds=some (dI e kinds):=by
 unfold lC dI
 rw [pf e (by omega)]
 cases hr:jx e.Nodes with
 |false=>rfl
 |true=>
  simp only [gO,aX]
  rw [bG (by decide)]
  have key: ∀ks:List Int,oj e kinds ks=if NP ks then(sM e).bind (kZ e kinds)else some (0,2):=by
   intro ks
   induction ks with
   |nil=>rfl
   |cons k ks ih=>
    unfold oj
    rw [ih]
    by_cases h:k<0\/3<k
    ·rw [bK (by simpa using h),bG (by simp [NP];omega)]
    ·rw [bG (by simpa using h)]
     have A:(decide (0<=k)&&decide (k<=3))=true:=by simp;omega
     rw [HX,A,ut]
  rw [key]
  cases hk:NP kinds with
  |false=>rfl
  |true=>
   simp only [gO]
   obtain⟨cs,A,V⟩:=Gw e hr
   rw [A,aX,DG]
   have hci:cs.all (fun c=>decide (c<(kinds.length:Int)))=ld kinds.length e.Nodes:=by
    rw [wJ]
    simp only [lY,il,ld,zj,Bool.and_eq_false_iff,Ek,qt]
    constructor
    ·intro h n hn
     by_cases M:n.Tag=2
     ·exact .inr (by have:=h _ ((V n.Col).2 ⟨n,hn,M,rfl⟩);omega)
     ·exact .inl M
    ·intro h c hc
     obtain⟨n,hn,M,rfl⟩:=(V c).1 hc
     rcases h n hn with h|h
     ·exact absurd M h
     ·omega
   rw [hci]
   cases hc:ld kinds.length e.Nodes with
   |false=>rfl
   |true=>
    simp only [gO]
    cases M:oH e.Nodes with
    |none=>unfold jx at hr;rw [M]at hr;cases hr
    |some t=>
     obtain⟨hw,hN,hs⟩:=nE M
     have hct:=vi kinds.length t hw 0 (by rw [<-hN];exact hc)
     have:=MF kinds (fun k=>Li hk) t hw hct 0 [] [] (by simp;omega)
     rw [xL,<-hN]at this
     unfold m9
     rw [this]
     simp only [aX]
     cases kd kinds t with
     |none=>rfl
     |some k=>rfl
def m4(e:aB)(kinds:List Int):oL e kinds=some (dI e kinds):=by
 unfold oL dI
 rw [CA e]
 cases hr:jx e.Nodes with
 |false=>rfl
 |true=>
  simp only [gO,aX,pi,j0,iB]
  have Vl: ∀ns:List ap,m2 e kinds ns=if ld kinds.length ns then dg kinds e.Nodes []else some (0,2):=by
   intro ns
   induction ns with
   |nil=>rfl
   |cons n ns ih=>
    unfold m2
    rw [ih,Iq]
    cases ((n.Tag==2)&&decide ((kinds.length:Int)<=n.Col))<;>simp
  have key: ∀ks:List Int,o7 e kinds ks=if NP ks then m2 e kinds e.Nodes else some (0,2):=by
   intro ks
   induction ks with
   |nil=>rfl
   |cons k ks ih=>
    unfold o7
    rw [ih]
    by_cases h:k<0\/3<k
    ·rw [bK (by simpa using h),bG (by simp [NP];omega)]
    ·rw [bG (by simpa using h)]
     have A:(decide (0<=k)&&decide (k<=3))=true:=by simp;omega
     rw [HX,A,ut]
  rw [key,Vl]
  cases hk:NP kinds with
  |false=>rfl
  |true=>
   cases hc:ld kinds.length e.Nodes with
   |false=>rfl
   |true=>
    simp only [gO]
    cases M:oH e.Nodes with
    |none=>unfold jx at hr;rw [M]at hr;cases hr
    |some t=>
     obtain⟨hw,hN,hs⟩:=nE M
     have hct:=vi kinds.length t hw 0 (by rw [<-hN];exact hc)
     have:=Oo kinds (fun k=>Li hk) t hw hct [] [] (by simp;omega)
     rw [xL,pj,<-hN]at this
     simp only [aX]
     rcases this with⟨A,V⟩|⟨k,w,A,V,h3⟩
     ·rw [A,V]
     ·rw [A,h3]
      unfold dg
      have hls:t.size<=1000:=hs
      rw [nj,jk w.length (by rw [dS (by simp<;>omega) (by simp<;>omega)];simp),uw (eX _),Nat.sub_self]
      rfl
end Go.Proofs.YthbdkceckjihgaaGreatDoor

