/- cu of this claim: L1, L2, L3. -/
import Derived.Test.YthbdkceckjihgaaGreatDoorBeQ1
import Derived.Test.YthbdkceckjihgaaGreatDoorBeF
import Derived.KernelRfl
set_option linter.all false
namespace Go.Proofs.YthbdkceckjihgaaGreatDoor
open Go

def iQ{α:Type}{xs:List α}{i j:Int}(l m:Nat)(hi:i=(l:Int))(hj:j=(m:Int))(h:l<=m)(D:m<=xs.length):cO xs i j=some ((xs.take m).drop l):=by
 subst hi hj;exact t8 h D
def gY{α:Type}{xs:List α}{i:Int}(k:Nat)(hi:i=(k:Int)):fg xs i=xs[k]? :=by subst hi;exact iu _ _
def qM(v:bO):Bool:=yX v&&(v.Kind !=4)
def vU(v:bO):qm v=some (qM v):=by
 unfold qm qM
 rw [Dn]
 cases yX v<;>simp
def mD(v:bO):sN v=some (qM v):=by
 unfold sN qM
 rw [D3]
 rfl
variable{n:ap}
def IV{v:bO}(h:qM v=true):0<=v.Kind/\v.Kind<=3:=by
 obtain⟨k,n,u,s⟩:=v
 unfold qM yX oo at h
 simp only [gU,vM,ne_eq]at h
 obtain⟨A,D⟩:=h
 by_cases h0:k=0
 ·simp [h0]
 by_cases k1:k=1
 ·simp [k1]
 by_cases k2:k=2
 ·simp [k2]
 by_cases k3:k=3
 ·simp [k3]
 simp [h0,k1,k2,k3,D]at A
def pk(tag:Int):Option Nat:=if tag=1\/tag=2 then some 0 else if 4<=tag/\tag<=7 then some 1 else if 12<=tag/\tag<=23 then some 2 else none
def Hr(tag:Int):Int:=match pk tag with
 |some k=>(k:Int)
 |none=> -1
def yw(tag:Int):pS tag=some (Hr tag):=by
 unfold pS Hr pk
 by_cases A:tag=1\/tag=2
 ·rw [bD A,bD (by simpa using A)];rfl
 rw [bv A,bv (by simpa using A)]
 by_cases D:4<=tag/\tag<=7
 ·rw [bD D,bD (by simpa using D)];rfl
 rw [bv D,bv (by simpa using D)]
 by_cases h3:12<=tag/\tag<=23
 ·rw [bD h3,bD (by simpa using h3)];rfl
 rw [bv h3,bv (by simpa using h3)]
def o3(tag:Int):wk tag=some (Hr tag):=by
 unfold wk sL Hr pk
 by_cases A:tag=1\/tag=2
 ·rw [bD A];rcases A with rfl|rfl<;>rfl
 rw [bv A]
 by_cases D:4<=tag/\tag<=7
 ·rw [bD D]
  have:tag=4\/tag=5\/tag=6\/tag=7:=by omega
  rcases this with rfl|rfl|rfl|rfl<;>rfl
 rw [bv D]
 by_cases h3:12<=tag/\tag<=23
 ·rw [bD h3,bv (by simp;omega),bv (by simp;omega),bv (by simp;omega),bv (by simp;omega)];rfl
 rw [bv h3]
 by_cases h4:tag=3\/(8<=tag/\tag<=11)
 ·rw [bD (by simpa using h4)]
 rw [bv (by simpa using h4),bD (by simp;omega)]
 rfl
def Cn(n:ap):Bool:=(io n).getD false
def i9(n:ap):io n=some (Cn n):=by
 unfold Cn io
 rw [mD]
 split
 ·rfl
 ·split<;>rfl
def EH(n:ap):tf n=some (Cn n):=by
 rw [<-i9]
 unfold tf io
 rw [mD,vU]
inductive Tr where
 |lf (n:ap)
 |un (n:ap) (a:Tr)
 |bi (n:ap) (a b:Tr)
 deriving Inhabited
def Tr.size:Tr->Nat
 | .lf _=>1
 | .un _ a=>a.size+1
 | .bi _ a b=>a.size+b.size+1
def fJ(n:ap)(l r:Int):ap:={n with L:=l,R:=r}
def Tr.flat:Tr->Nat->List ap
 | .lf n,_=>[fJ n (-1) (-1)]
 | .un n a,s=>a.flat s++[fJ n ((s+a.size:Nat)-1) (-1)]
 | .bi n a b,s=>a.flat s++b.flat (s+a.size)++[fJ n ((s+a.size:Nat)-1) ((s+a.size+b.size:Nat)-1)]
def UZ(k:Nat)(n:ap):Prop:=pk n.Tag=some k/\Cn n=true/\n.L= -1/\n.R= -1
def Tr.wf:Tr->Prop
 | .lf n=>UZ 0 n
 | .un n a=>UZ 1 n/\a.wf
 | .bi n a b=>UZ 2 n/\a.wf/\b.wf
def Tr.size_pos(t:Tr):0<t.size:=by cases t<;>simp [Tr.size]
def Tr.flat_len(t:Tr): ∀s,(t.flat s).length=t.size:=by
 induction t with
 |lf n=>intro s;rfl
 |un n a ih=>intro s;simp [Tr.flat,Tr.size,ih]
 |bi n a b iha ihb=>intro s;simp [Tr.flat,Tr.size,iha,ihb];omega
def cb:List Tr->Nat
 |[]=>0
 |t::st=>cb st+t.size
def vr:List Tr->List ap
 |[]=>[]
 |t::st=>vr st++t.flat (cb st)
def Gu: ∀st:List Tr,(vr st).length=cb st
 |[]=>rfl
 |t::st=>by simp [vr,cb,Gu st,t.flat_len]
def FY: ∀st:List Tr,st.length<=cb st
 |[]=>eO _
 |t::st=>by have:=FY st;have:=t.size_pos;simp [cb];omega
def push(st:List Tr)(n:ap):Option (List Tr):=
 match pk n.Tag,st with
 |some 0,st=>if Cn n&&n.L== -1&&n.R== -1 then some (.lf (fJ n (-1) (-1))::st)else none
 |some 1,a::st=>if Cn n&&n.L==((cb st+a.size:Nat):Int)-1&&n.R== -1 then some (.un (fJ n (-1) (-1)) a::st)else none
 |some 2,b::a::st=>if Cn n&&n.L==((cb st+a.size:Nat):Int)-1&&n.R==((cb st+a.size+b.size:Nat):Int)-1 then some (.bi (fJ n (-1) (-1)) a b::st)else none
 |_,_=>none
def ot:List ap->List Tr->Option (List Tr)
 |[],st=>some st
 |n::ns,st=>(push st n).bind (ot ns)
def X8(st:List Tr):Prop:= ∀t∈st,t.wf
def xe{l r:Int}(h:n.L=l)(D:n.R=r):fJ (fJ n (-1) (-1)) l r=n:=by subst h D;rfl
def Oo{st st' :List Tr}(h:push st n=some st')(hw:X8 st):vr st' =vr st++[n]/\cb st' =cb st+1/\X8 st' :=by
 unfold push at h
 split at h
 ·rename_i k st0 hk
  split at h
  ·rename_i hc
   simp only [gU,sG]at hc
   obtain⟨⟨A,D⟩,h3⟩:=hc
   cases h
   refine⟨?_,rfl,fun t M=>?_⟩
   ·simp only [vr,Tr.flat]
    rw [xe D h3]
   ·rcases eW.1 M with rfl|M
    ·exact⟨hk,A,rfl,rfl⟩
    ·exact hw t M
  ·cases h
 ·rename_i k a st0 hk
  split at h
  ·rename_i hc
   simp only [gU,sG]at hc
   obtain⟨⟨A,D⟩,h3⟩:=hc
   cases h
   refine⟨?_,by simp [cb,Tr.size];omega,fun t M=>?_⟩
   ·simp only [vr,Tr.flat]
    rw [xe D h3,fk]
   ·rcases eW.1 M with rfl|M
    ·exact⟨⟨hk,A,rfl,rfl⟩,hw a (lL ..)⟩
    ·exact hw t (ma _ M)
  ·cases h
 ·rename_i k b a st0 hk
  split at h
  ·rename_i hc
   simp only [gU,sG]at hc
   obtain⟨⟨A,D⟩,h3⟩:=hc
   cases h
   refine⟨?_,by simp [cb,Tr.size];omega,fun t M=>?_⟩
   ·simp only [vr,Tr.flat,cb]
    rw [xe D h3]
    simp only [fk]
   ·rcases eW.1 M with rfl|M
    ·exact⟨⟨hk,A,rfl,rfl⟩,hw a (ma _ (lL ..)),hw b (lL ..)⟩
    ·exact hw t (ma _ (ma _ M))
  ·cases h
 ·cases h
variable{ns:List ap}
def y0: ∀{ns:List ap} {st st' :List Tr},ot ns st=some st' ->X8 st->vr st' =vr st++ns/\X8 st'
 |[],st,st',h,hw=>by cases h;simp [hw]
 |n::ns,st,st',h,hw=>by
  unfold ot at h
  cases hp:push st n with
  |none=>rw [hp]at h;cases h
  |some st1=>
   rw [hp]at h
   obtain⟨A,_,h3⟩:=Oo hp hw
   obtain⟨h4,h5⟩:=y0 (ns:=ns) h h3
   exact⟨by rw [h4,A];simp,h5⟩
def rj: ∀(ns ms:List ap) (st:List Tr),ot (ns++ms) st=(ot ns st).bind (ot ms)
 |[],ms,st=>rfl
 |n::ns,ms,st=>by
  simp only [tR,ot]
  cases push st n with
  |none=>rfl
  |some st1=>exact rj ns ms st1
def KK(t:Tr): ∀(st:List Tr),t.wf->ot (t.flat (cb st)) st=some (t::st):=by
 induction t with
 |lf n=>
  intro st ⟨A,D,h3,h4⟩
  have hn' :fJ n (-1) (-1)=n:=by cases n;simp only at h3 h4;subst h3 h4;rfl
  simp only [Tr.flat,ot,push,hn']
  rw [A]
  simp [D,h3,h4,ot,hn']
 |un n a ih=>
  intro st ⟨⟨A,D,h3,h4⟩,ha⟩
  have hn' :fJ n (-1) (-1)=n:=by cases n;simp only at h3 h4;subst h3 h4;rfl
  simp only [Tr.flat]
  rw [rj,ih st ha]
  simp only [aP,ot,push]
  have e1:(fJ n (((cb st+a.size:Nat):Int)-1) (-1)).Tag=n.Tag:=rfl
  rw [e1,A]
  have e2:Cn (fJ n (((cb st+a.size:Nat):Int)-1) (-1))=true:=D
  rw [e2]
  simp only [fJ,xZ,Bool.and_self,gW,aP,ot]
  simp only [fJ]at hn'
  rw [hn']
 |bi n a b iha ihb=>
  intro st ⟨⟨A,D,h3,h4⟩,ha,H⟩
  have hn' :fJ n (-1) (-1)=n:=by cases n;simp only at h3 h4;subst h3 h4;rfl
  simp only [Tr.flat]
  rw [rj,rj,iha st ha]
  simp only [aP]
  have e0:cb st+a.size=cb (a::st):=rfl
  rw [e0,ihb (a::st) H]
  simp only [aP,ot,push]
  have e1:(fJ n (((cb (a::st):Nat):Int)-1) (((cb (a::st)+b.size:Nat):Int)-1)).Tag=n.Tag:=rfl
  rw [e1,A]
  have e2:Cn (fJ n (((cb (a::st):Nat):Int)-1) (((cb (a::st)+b.size:Nat):Int)-1))=true:=D
  rw [e2]
  simp only [fJ,cb,xZ,Bool.and_self,gW,aP,ot]
  simp only [fJ]at hn'
  rw [hn']
def pH(ns:List ap):Option Tr:=match ot ns []with
 |some [t]=>if ns.length<=1000 then some t else none
 |_=>none
def oj{t:Tr}(h:pH ns=some t):t.wf/\ns=t.flat 0/\t.size<=1000:=by
 unfold pH at h
 split at h
 ·rename_i t0 hp
  split at h
  ·rename_i hl
   cases h
   obtain⟨A,D⟩:=y0 hp (fun t M=>by cases M)
   simp only [vr,cb,nu]at A
   exact⟨D t (lL ..),A.symm,by rw [<-t.flat_len 0,A];exact hl⟩
  ·cases h
 ·cases h
def vV{t:Tr}(h:t.wf)(hs:t.size<=1000):pH (t.flat 0)=some t:=by
 unfold pH
 have h0:=KK t [] h
 simp only [cb]at h0
 rw [h0]
 simp only [t.flat_len,hs,gW]
def fl:Tr->Nat->List Int
 | .lf _,s=>[(s:Int)]
 | .un _ a,s=>fl a s++[(s:Int)]
 | .bi _ a b,s=>fl a s++fl b (s+a.size)++[(s:Int)]
def OS:List Tr->List Int
 |[]=>[]
 |t::st=>OS st++fl t (cb st)
def lq:List Tr->List Int
 |[]=>[]
 |t::st=>lq st++[((cb st+t.size:Nat):Int)-1]
def uO(t:Tr): ∀s,(fl t s).length=t.size:=by
 induction t with
 |lf n=>intro s;rfl
 |un n a ih=>intro s;simp [fl,Tr.size,ih]
 |bi n a b iha ihb=>intro s;simp [fl,Tr.size,iha,ihb];omega
def s7: ∀st:List Tr,(OS st).length=cb st
 |[]=>rfl
 |t::st=>by simp [OS,cb,s7 st,uO]
def de: ∀st:List Tr,(lq st).length=st.length
 |[]=>rfl
 |t::st=>by simp [lq,de st]
def Sy(t:Tr)(s:Nat):(fl t s)[t.size-1]? =some (s:Int):=by
 cases t with
 |lf n=>rfl
 |un n a=>simp only [fl,Tr.size];rw [tX (by rw [uO];omega),uO];simp
 |bi n a b=>simp only [fl,Tr.size];rw [tX (by simp [uO]),mV,uO,uO];simp
def Eo(t:Tr)(st:List Tr)(rest:List Int):(OS st++fl t (cb st)++rest)[cb st+t.size-1]? =some (cb st:Int):=by
 have:=t.size_pos
 rw [zG (by rw [mV,s7,uO];omega),tX (by rw [s7];omega),s7,show cb st+t.size-1-cb st=t.size-1 from by omega]
 exact Sy t _
def OW: ∀(ns:List ap) (st:List Tr),cb st+ns.length<=100000->jL ns (cb st) (OS st) (lq st)=some (match ot ns st with
   |some st' =>(OS st',decide (st'.length=1)&&decide (cb st' <=1000))
   |none=>([],false)):=by
 intro ns
 induction ns with
 |nil=>
  intro st _
  simp only [jL,ot,de,s7]
  congr 2
  congr 1
  ·rw [tQ];simp;omega
  ·rw [tQ];simp;omega
 |cons n ns ih=>
  intro st hs
  simp only [gz]at hs
  have hll:=FY st
  unfold jL
  rw [yw]
  simp only [aP,de,EH]
  unfold ot
  unfold push
  -- the parts
  cases hk:pk n.Tag with
  |none=>
   have e:Hr n.Tag= -1:=by unfold Hr;rw [hk]
   simp [e]
  |some k=>
   have e:Hr n.Tag=(k:Int):=by unfold Hr;rw [hk]
   have hk3:k=0\/k=1\/k=2:=by
    unfold pk at hk
    repeat' split at hk
    all_goals simp at hk
    all_goals omega
   rw [e]
   rcases hk3 with rfl|rfl|rfl
   ·-- none
    simp only []
    have c1:(decide (((0:Nat):Int)<0)||decide ((st.length:Int)<((0:Nat):Int)))=false:=by simp
    simp only [c1,AO,gW,aP]
    cases hc:Cn n with
    |false=>simp
    |true=>
     simp only [oI,jS,ii,tw]
     rw [iQ st.length st.length (by rw [cV (by omega) (by omega)];omega) rfl (eO _) (by rw [de];exact eO _)]
     have hd:(List.take st.length (lq st)).drop st.length=[]:=oE (by simp;omega)
     simp only [hd,aP,kS]
     by_cases hL:n.L= -1/\n.R= -1
     ·have H:(n.L== -1&&n.R== -1)=true:=by simp [hL]
      rw [bD H,bv (by simp [hL.1,hL.2])]
      rw [cG (by simp only [gz,pB,s7];omega)]
      simp only [aP]
      rw [iQ (i:=0) 0 st.length rfl (by rw [de,cV (by omega) (by omega)];omega) (ij _) (by rw [de];exact eO _)]
      rw [nv (by rw [de];exact eO _),pA]
      simp only [aP]
      rw [cG (by simp only [gz,pB,de];omega)]
      simp only [aP]
      have D:=ih (.lf (fJ n (-1) (-1))::st) (by simp [cb,Tr.size];omega)
      simp only [cb,Tr.size,OS,fl,lq]at D
      rw [show(((cb st+1:Nat):Int)-1)=(cb st:Int)from by omega]at D
      exact D
     ·have H:(n.L== -1&&n.R== -1)=false:=by
       rw [FL];intro h;apply hL;simpa using h
      rw [H]
      rw [bD (by
       simp only [vO,nl]
       intro h
       have A:(-1:Int)=n.L:=by injection h
       have D:(-1:Int)=n.R:=by injection h with _ h;injection h
       exact hL ⟨A.symm,D.symm⟩)]
      simp
   ·-- one
    cases st with
    |nil=>simp
    |cons a st=>
     simp only []
     have c1:(decide (((1:Nat):Int)<0)||decide (((a::st).length:Int)<((1:Nat):Int)))=false:=by simp;omega
     simp only [c1,AO,gW,aP]
     cases hc:Cn n with
     |false=>simp
     |true=>
      simp only [oI,jS,ii,tw]
      simp only [gz]at hll ⊢
      simp only [cb]at hs hll
      have hap:=a.size_pos
      rw [iQ st.length (st.length+1) (by rw [cV (by omega) (by omega)];omega) (by omega) (by omega) (by rw [de];exact eO _)]
      have hd:(List.take (st.length+1) (lq (a::st))).drop st.length=[((cb st+a.size:Nat):Int)-1]:=by
       rw [nv (by rw [de];exact eO _)]
       simp only [lq]
       rw [J8 (by rw [de];exact eO _),oE (by rw [de];exact eO _),nu]
      rw [hd]
      simp only [aP,kS]
      rw [gY (cb st+a.size-1) (by omega)]
      have hf:=Eo a st []
      rw [zD]at hf
      simp only [OS]
      rw [hf]
      simp only [aP]
      rw [gY 0 rfl]
      simp only [FO,aP]
      have hset:([(-1:Int),-1].set ((0:Nat):Int).toNat (((cb st+a.size:Nat):Int)-1))=[((cb st+a.size:Nat):Int)-1,-1]:=rfl
      rw [hset]
      by_cases hL:n.L=((cb st+a.size:Nat):Int)-1/\n.R= -1
      ·have H:(n.L==((cb st+a.size:Nat):Int)-1&&n.R== -1)=true:=by simp [hL]
       rw [bD H,bv (by rw [hL.1,hL.2];simp)]
       rw [cG (by simp only [gz,pB,mV,s7,uO];omega)]
       simp only [aP]
       rw [iQ (i:=0) 0 st.length rfl (by rw [de,cV (by simp<;>omega) (by simp<;>omega)];simp) (ij _) (by rw [de];simp)]
       have M:(List.take st.length (lq (a::st))).drop 0=lq st:=by
        simp only [lq,pA]
        rw [vF (by rw [de];exact eO _),nv (by rw [de];exact eO _)]
       rw [M]
       simp only [aP]
       rw [cG (by simp only [gz,pB,de];omega)]
       simp only [aP]
       have D:=ih (.un (fJ n (-1) (-1)) a::st) (by simp [cb,Tr.size];omega)
       simp only [cb,Tr.size,OS,fl,lq]at D
       rw [show(((cb st+(a.size+1):Nat):Int)-1)=((cb st+a.size:Nat):Int)from by omega]at D
       have hm:min ((cb (a::st):Nat):Int) (cb st:Int)=(cb st:Int):=by simp only [cb];omega
       rw [hm]
       simp only [fk]at D ⊢
       exact D
      ·have H:(n.L==((cb st+a.size:Nat):Int)-1&&n.R== -1)=false:=by
        rw [FL];intro h;apply hL;simpa using h
       rw [H]
       rw [bD (by
        simp only [vO,nl]
        intro h
        have A:((cb st+a.size:Nat):Int)-1=n.L:=by injection h
        have D:(-1:Int)=n.R:=by injection h with _ h;injection h
        exact hL ⟨A.symm,D.symm⟩)]
       simp
   ·-- two
    cases st with
    |nil=>simp
    |cons b st=>
     cases st with
     |nil=>simp
     |cons a st=>
      simp only []
      have c1:(decide (((2:Nat):Int)<0)||decide (((b::a::st).length:Int)<((2:Nat):Int)))=false:=by simp;omega
      simp only [c1,AO,gW,aP]
      cases hc:Cn n with
      |false=>simp
      |true=>
       simp only [oI,jS,ii,tw]
       simp only [gz]at hll ⊢
       simp only [cb]at hs hll
       have hap:=a.size_pos
       have hbp:=b.size_pos
       rw [iQ st.length (st.length+1+1) (by rw [cV (by omega) (by omega)];omega) (by omega) (by omega) (by rw [de];exact eO _)]
       have hd:(List.take (st.length+1+1) (lq (b::a::st))).drop st.length=[((cb st+a.size:Nat):Int)-1,((cb st+a.size+b.size:Nat):Int)-1]:=by
        rw [nv (by rw [de];exact eO _)]
        simp only [lq,cb,fk]
        rw [J8 (by rw [de];exact eO _),oE (by rw [de];exact eO _),nu]
        rfl
       rw [hd]
       simp only [aP,kS]
       simp only [OS,cb]
       rw [gY (cb st+a.size-1) (by omega)]
       rw [Eo a st (fl b (cb st+a.size))]
       simp only [aP]
       rw [gY 0 rfl]
       simp only [FO,aP]
       have hset:([(-1:Int),-1].set ((0:Nat):Int).toNat (((cb st+a.size:Nat):Int)-1))=[((cb st+a.size:Nat):Int)-1,-1]:=rfl
       rw [hset]
       rw [gY (cb st+a.size+b.size-1) (by omega)]
       have hf:=Eo b (a::st) []
       rw [zD]at hf
       simp only [OS,cb]at hf
       rw [hf]
       simp only [aP]
       rw [gY (0+1) rfl]
       simp only [List.getElem?_cons_succ,FO,aP]
       have hset2:([((cb st+a.size:Nat):Int)-1,-1].set ((0+1:Nat):Int).toNat (((cb st+a.size+b.size:Nat):Int)-1))=[((cb st+a.size:Nat):Int)-1,((cb st+a.size+b.size:Nat):Int)-1]:=rfl
       rw [hset2]
       by_cases hL:n.L=((cb st+a.size:Nat):Int)-1/\n.R=((cb st+a.size+b.size:Nat):Int)-1
       ·have H:(n.L==((cb st+a.size:Nat):Int)-1&&n.R==((cb st+a.size+b.size:Nat):Int)-1)=true:=by rw [hL.1,hL.2];simp
        rw [bD H,bv (by rw [hL.1,hL.2];simp)]
        rw [cG (by simp only [gz,pB,mV,s7,uO];omega)]
        simp only [aP]
        rw [iQ (i:=0) 0 st.length rfl (by rw [de,cV (by simp;omega) (by simp;omega)];simp;omega) (ij _) (by rw [de];simp;omega)]
        have M:(List.take st.length (lq (b::a::st))).drop 0=lq st:=by
         simp only [lq,pA,fk]
         rw [vF (by rw [de];exact eO _),nv (by rw [de];exact eO _)]
        rw [M]
        simp only [aP]
        rw [cG (by simp only [gz,pB,de];omega)]
        simp only [aP]
        have D:=ih (.bi (fJ n (-1) (-1)) a b::st) (by simp [cb,Tr.size];omega)
        simp only [cb,Tr.size,OS,fl,lq]at D
        rw [show(((cb st+(a.size+b.size+1):Nat):Int)-1)=((cb st+a.size+b.size:Nat):Int)from by omega,show cb st+(a.size+b.size+1)=cb st+a.size+b.size+1 from by omega]at D
        have hm:min (min (((cb st+a.size+b.size:Nat)):Int) (cb st:Int)) ((cb st+a.size:Nat):Int)=(cb st:Int):=by omega
        rw [hm]
        simp only [fk]at D ⊢
        exact D
       ·have H:(n.L==((cb st+a.size:Nat):Int)-1&&n.R==((cb st+a.size+b.size:Nat):Int)-1)=false:=by
         rw [FL];intro h;apply hL;simpa using h
        rw [H]
        rw [bD (by
         simp only [vO,nl]
         intro h
         have A:((cb st+a.size:Nat):Int)-1=n.L:=by injection h
         have D:((cb st+a.size+b.size:Nat):Int)-1=n.R:=by injection h with _ h;injection h
         exact hL ⟨A.symm,D.symm⟩)]
        simp

def xn{n:Nat}(h:n<=1000000):n<=gx:=by unfold gx;omega
def jE(ns:List ap):Bool:=(pH ns).isSome
def IX{st:List Tr}(h:ot ns []=some st):cb st=ns.length:=by
 have:=(y0 h (fun t M=>by cases M)).1
 rw [<-Gu,this];simp [vr]
def qh(e:aD)(h:e.Nodes.length<=100000):oc e=some (if jE e.Nodes then 0 else 200):=by
 unfold oc wE jE pH
 have:=OW e.Nodes [] (by simpa [cb] using h)
 simp only [cb,OS,lq]at this
 rw [this]
 cases hp:ot e.Nodes []with
 |none=>rfl
 |some st=>
  have hsz:=IX hp
  match st,hsz with
  |[],_=>rfl
  |[t],hsz=>
   simp only [aP,hsz]
   by_cases hl:e.Nodes.length<=1000<;>simp [hl]
  |t::t2::st,_=>simp
def Sa(t:Tr):t.wf-> ∀(P R N:List ap) (fu:Nat),N=P++t.flat P.length++R->t.size<=fu->N.length<=100000->im fu ⟨N⟩ (((P.length+t.size:Nat):Int)-1)=some (t.size:Int):=by
 induction t with
 |lf n=>
  intro⟨A,D,h3,h4⟩ P R N fu hN hf hl
  have hNl:=congrArg List.length hN
  simp only [mV,Tr.flat_len]at hNl
  simp only [Tr.size]at hf hNl ⊢
  obtain⟨fu,rfl⟩: ∃k,fu=k+1:=⟨fu-1,by omega⟩
  unfold im
  have V:N[P.length]? =some (fJ n (-1) (-1)):=by
   rw [hN,fk,tX (eO _),Dd];rfl
  rw [bv (by simp;omega),gY P.length (by omega),V]
  have e1:(fJ n (-1) (-1)).Tag=n.Tag:=rfl
  simp only [aP]
  rw [e1,o3]
  have e:Hr n.Tag=0:=by unfold Hr;rw [A];rfl
  simp only [e,aP,i9]
  have e2:Cn (fJ n (-1) (-1))=true:=D
  rw [e2]
  simp [fJ]
 |un n a ih=>
  intro⟨⟨A,D,h3,h4⟩,ha⟩ P R N fu hN hf hl
  obtain⟨m,hm⟩: ∃m,m=fJ n (((P.length+a.size:Nat):Int)-1) (-1):=⟨_,rfl⟩
  have hNl:=congrArg List.length hN
  simp only [mV,Tr.flat_len]at hNl
  simp only [Tr.size]at hf hNl ⊢
  simp only [Tr.flat,<-hm]at hN
  obtain⟨fu,rfl⟩: ∃k,fu=k+1:=⟨fu-1,by omega⟩
  have hpos:=a.size_pos
  have hi:=ih ha P ([m]++R) N fu (by rw [hN];simp only [fk]) (by omega) hl
  unfold im
  have V:N[P.length+a.size]? =some m:=by
   rw [hN,fk,fk,<-fk P,tX (by simp [a.flat_len])]
   simp [a.flat_len]
  rw [bv (by simp;omega),gY (P.length+a.size) (by omega),V]
  simp only [aP]
  have e1:m.Tag=n.Tag:=by rw [hm];rfl
  rw [e1,o3]
  have e:Hr n.Tag=1:=by unfold Hr;rw [A];rfl
  simp only [e,aP,i9]
  have e2:Cn m=true:=by rw [hm];exact D
  have eL:m.L=((P.length+a.size:Nat):Int)-1:=by rw [hm];rfl
  have eR:m.R= -1:=by rw [hm];rfl
  rw [cV (n:=((P.length+(a.size+1):Nat):Int)-1-1) (by omega) (by omega),show(((P.length+(a.size+1):Nat):Int)-1-1)=(((P.length+a.size:Nat):Int)-1)from by omega]
  rw [hi]
  simp only [aP]
  rw [cV (n:=(a.size:Int)+1) (by omega) (by omega)]
  have n1: ¬a.size=0:=by omega
  simp [e2,eL,eR,n1]
 |bi n a b iha ihb=>
  intro⟨⟨A,D,h3,h4⟩,ha,H⟩ P R N fu hN hf hl
  obtain⟨m,hm⟩: ∃m,m=fJ n (((P.length+a.size:Nat):Int)-1) (((P.length+a.size+b.size:Nat):Int)-1):=⟨_,rfl⟩
  have hNl:=congrArg List.length hN
  simp only [mV,Tr.flat_len]at hNl
  simp only [Tr.size]at hf hNl ⊢
  simp only [Tr.flat,<-hm]at hN
  obtain⟨fu,rfl⟩: ∃k,fu=k+1:=⟨fu-1,by omega⟩
  have hap:=a.size_pos
  have hbp:=b.size_pos
  have hi1:=iha ha P (b.flat (P.length+a.size)++[m]++R) N fu (by rw [hN];simp only [fk]) (by omega) hl
  have hi2:=ihb H (P++a.flat P.length) ([m]++R) N fu (by rw [hN];simp only [fk,mV,a.flat_len]) (by omega) hl
  rw [mV,a.flat_len]at hi2
  unfold im
  have V:N[P.length+a.size+b.size]? =some m:=by
   rw [hN,fk,fk,<-fk P,tX (by simp [a.flat_len,b.flat_len];omega)]
   have:P.length+a.size+b.size-(P++(a.flat P.length++b.flat (P.length+a.size))).length=0:=by simp [a.flat_len,b.flat_len];omega
   rw [this];rfl
  rw [bv (by simp;omega),gY (P.length+a.size+b.size) (by omega),V]
  simp only [aP]
  have e1:m.Tag=n.Tag:=by rw [hm];rfl
  rw [e1,o3]
  have e:Hr n.Tag=2:=by unfold Hr;rw [A];rfl
  simp only [e,aP,i9]
  have e2:Cn m=true:=by rw [hm];exact D
  have eL:m.L=((P.length+a.size:Nat):Int)-1:=by rw [hm];rfl
  have eR:m.R=((P.length+a.size+b.size:Nat):Int)-1:=by rw [hm];rfl
  rw [cV (n:=((P.length+(a.size+b.size+1):Nat):Int)-1-1) (by omega) (by omega),show(((P.length+(a.size+b.size+1):Nat):Int)-1-1)=(((P.length+a.size+b.size:Nat):Int)-1)from by omega]
  rw [hi2]
  simp only [aP]
  rw [cV (n:=((P.length+a.size+b.size:Nat):Int)-1-(b.size:Int)) (by omega) (by omega),show((P.length+a.size+b.size:Nat):Int)-1-(b.size:Int)=((P.length+a.size:Nat):Int)-1 from by omega]
  rw [hi1]
  simp only [aP]
  rw [cV (n:=(a.size:Int)+(b.size:Int)) (by omega) (by omega),cV (n:=(a.size:Int)+(b.size:Int)+1) (by omega) (by omega)]
  have n1: ¬a.size=0:=by omega
  have n2: ¬b.size=0:=by omega
  have e5:(P.length:Int)+(a.size:Int)+(b.size:Int)-1-(b.size:Int)=(P.length:Int)+(a.size:Int)-1:=by omega
  simp [e2,eL,eR,n1,n2,e5]
def Sb(N:List ap)(hN:N.length<=100000): ∀(fu q:Nat),q<=N.length->q<fu-> ∃k:Nat,im fu ⟨N⟩ ((q:Int)-1)=some (k:Int)/\(k=0\/ ∃(t:Tr) (P R:List ap),t.wf/\t.size=k/\N=P++t.flat P.length++R/\P.length+k=q):=by
 intro fu
 induction fu with
 |zero=>intro q _ h;omega
 |succ fu ih=>
  intro q hq hf
  unfold im
  by_cases h0:q=0
  ·subst h0
   exact⟨0,by rw [bD (by simp)];rfl,.inl rfl⟩
  rw [bv (by simp;omega),gY (q-1) (by omega)]
  have hlt:q-1<N.length:=by omega
  rw [jA hlt]
  obtain⟨n,hn⟩: ∃n,n=N[q-1]:=⟨_,rfl⟩
  rw [<-hn]
  have hd:N=N.take (q-1)++([n]++N.drop q):=by
   have A:=qU (q-1) N
   rw [pC hlt,<-hn,show q-1+1=q from by omega]at A
   exact A.symm
  simp only [aP,o3,i9]
  cases hk:pk n.Tag with
  |none=>
   have e:Hr n.Tag= -1:=by unfold Hr;rw [hk]
   exact⟨0,by simp [e],.inl rfl⟩
  |some k=>
   have e:Hr n.Tag=(k:Int):=by unfold Hr;rw [hk]
   have hk3:k=0\/k=1\/k=2:=by
    unfold pk at hk
    repeat' split at hk
    all_goals simp at hk
    all_goals omega
   cases hc:Cn n with
   |false=>exact⟨0,by simp [e,hc],.inl rfl⟩
   |true=>
    rcases hk3 with rfl|rfl|rfl
    ·rw [e]
     by_cases hL:n.L= -1/\n.R= -1
     ·refine⟨1,by simp [hL],.inr ⟨.lf (fJ n (-1) (-1)),N.take (q-1),N.drop q,⟨hk,hc,rfl,rfl⟩,rfl,?_,by simp;omega⟩⟩
      simp only [Tr.flat]
      rw [xe hL.1 hL.2,fk]
      exact hd
     ·refine⟨0,?_,.inl rfl⟩
      have:(n.L != -1||n.R != -1)=true:=by
       rw [vN,vM,vM]
       by_cases hl:n.L= -1
       ·exact .inr fun h=>hL ⟨hl,h⟩
       ·exact .inl hl
      simp [this]
    ·rw [e,cV (by omega) (by omega)]
     have e9:(((q-1:Nat):Int)-1)=(q:Int)-1-1:=by omega
     obtain⟨r2,D,h2'⟩:=ih (q-1) (by omega) (by omega)
     rw [e9]at D
     rw [D]
     rcases h2' with rfl|⟨t,P,R,hw,hs,hN2,hl⟩
     ·exact⟨0,by simp,.inl rfl⟩
     ·have hp:=t.size_pos
      by_cases hL:n.L=(q:Int)-1-1/\n.R= -1
      ·refine⟨r2+1,?_,.inr ⟨.un (fJ n (-1) (-1)) t,P,N.drop q,⟨⟨hk,hc,rfl,rfl⟩,hw⟩,by simp only [Tr.size];omega,?_,by omega⟩⟩
       ·simp only [aP]
        rw [cV (n:=(r2:Int)+1) (by omega) (by omega)]
        have: ¬(r2=0):=by omega
        simp [hL,this]
       ·simp only [Tr.flat]
        rw [xe (by rw [hL.1];omega) hL.2]
        have M:N.take (q-1)=P++t.flat P.length:=by
         rw [hN2,vF (by simp [t.flat_len];omega),nv (by simp [t.flat_len];omega)]
        rw [M]at hd
        simpa only [fk] using hd
      ·refine⟨0,?_,.inl rfl⟩
       have:(n.L !=(q:Int)-1-1||n.R != -1)=true:=by
        rw [vN,vM,vM]
        by_cases hl:n.L=(q:Int)-1-1
        ·exact .inr fun h=>hL ⟨hl,h⟩
        ·exact .inl hl
       simp [this]
    ·rw [e,cV (n:=(q:Int)-1-1) (by omega) (by omega)]
     have e9:(((q-1:Nat):Int)-1)=(q:Int)-1-1:=by omega
     obtain⟨r2,D,h2'⟩:=ih (q-1) (by omega) (by omega)
     rw [e9]at D
     rw [D]
     rcases h2' with rfl|⟨t,P,R,hw,hs,hN2,hl⟩
     ·exact⟨0,by simp,.inl rfl⟩
     ·have hp:=t.size_pos
      simp only [aP]
      rw [cV (n:=(q:Int)-1-1-(r2:Int)) (by omega) (by omega)]
      have e8:(((q-1-r2:Nat):Int)-1)=(q:Int)-1-1-(r2:Int):=by omega
      have n2: ¬(r2=0):=by omega
      obtain⟨r3,h3,h3'⟩:=ih (q-1-r2) (by omega) (by omega)
      rw [e8]at h3
      rw [h3]
      rcases h3' with rfl|⟨t3,P3,R3,hw3,hs3,hN3,hl3⟩
      ·exact⟨0,by simp,.inl rfl⟩
      ·have hp3:=t3.size_pos
       have n3: ¬(r3=0):=by omega
       by_cases hL:n.R=(q:Int)-1-1/\n.L=(q:Int)-1-1-(r2:Int)
       ·refine⟨r3+r2+1,?_,.inr ⟨.bi (fJ n (-1) (-1)) t3 t,P3,N.drop q,⟨⟨hk,hc,rfl,rfl⟩,hw3,hw⟩,by simp only [Tr.size];omega,?_,by omega⟩⟩
        ·simp only [aP]
         rw [cV (n:=(r3:Int)+(r2:Int)) (by omega) (by omega),cV (n:=(r3:Int)+(r2:Int)+1) (by omega) (by omega)]
         simp [hL,n2,n3]
        ·simp only [Tr.flat]
         rw [xe (by rw [hL.2];omega) (by rw [hL.1];omega)]
         have M:N.take (q-1)=P++t.flat P.length:=by
          rw [hN2,vF (by simp [t.flat_len];omega),nv (by simp [t.flat_len];omega)]
         have hP:P=N.take P.length:=by
          conv=>rhs;rw [hN2,fk,vF (eO _),nv (eO _)]
         have hP3:P=P3++t3.flat P3.length:=by
          rw [hP]
          have:P.length=P3.length+t3.size:=by omega
          conv=>lhs;rw [this,hN3]
          rw [vF (by simp [t3.flat_len]),nv (by simp [t3.flat_len])]
         have hPl:P.length=P3.length+t3.size:=by omega
         rw [M,hPl]at hd
         rw [hP3]at hd
         simpa only [fk] using hd
       ·clear ih hN2 hN3
        refine⟨0,?_,.inl rfl⟩
        have:(n.R !=(q:Int)-1-1||n.L !=(q:Int)-1-1-(r2:Int))=true:=by
         rw [vN,vM,vM]
         by_cases hl:n.R=(q:Int)-1-1
         ·exact .inr fun h=>hL ⟨hl,h⟩
         ·exact .inl hl
        have h' :=this
        rw [vN,vM,vM]at h'
        simp [n2,n3]
        intro A D
        exact absurd D (by rcases h' with h' |h';exact absurd A h';exact h')
def DX(e:aD):wj e=some (jE e.Nodes):=by
 unfold wj jE
 by_cases h:1<=e.Nodes.length/\e.Nodes.length<=1000
 ·rw [bD (by simp;omega),cV (by omega) (by omega)]
  unfold DW
  obtain⟨k,A,D⟩:=Sb e.Nodes (by omega) gx e.Nodes.length (eO _) (FM (Nat.lt_succ_self _) (xn (by omega)))
  have h1' :im gx e ((e.Nodes.length:Int)-1)=some (k:Int):=A
  rw [h1']
  simp only [aP]
  congr 1
  rw [tQ]
  constructor
  ·intro hk
   have hk' :k=e.Nodes.length:=by have:=eq_of_beq hk;omega
   rcases D with rfl|⟨t,P,R,hw,hs,hN,hl⟩
   ·omega
   ·have hP:P=[]:=vE (by omega)
    subst hP
    have hR:R=[]:=by
     have:=congrArg List.length hN
     simp [t.flat_len]at this
     exact vE (by omega)
    subst hR
    have hN' :e.Nodes=t.flat 0:=by simpa using hN
    rw [hN',vV hw (by omega)];rfl
  ·intro hi
   cases M:pH e.Nodes with
   |none=>rw [M]at hi;cases hi
   |some t=>
    obtain⟨hw,hN,hs⟩:=oj M
    have hlen:e.Nodes.length=t.size:=by rw [hN,t.flat_len]
    have h3:=Sa t hw [] [] e.Nodes gx (by simpa using hN) (xn (by omega)) (by omega)
    simp only [pB,pz]at h3
    rw [<-hlen]at h3
    have h4:some (k:Int)=some (e.Nodes.length:Int):=A.symm.trans h3
    simpa using h4
 ·rw [bv (by simp;omega)]
  simp only [aP]
  congr 1
  symm
  rw [FL]
  intro hi
  cases M:pH e.Nodes with
  |none=>rw [M]at hi;cases hi
  |some t=>
   obtain⟨hw,hN,hs⟩:=oj M
   have hlen:e.Nodes.length=t.size:=by rw [hN,t.flat_len]
   have:=t.size_pos
   omega
def KF(h:jE ns=true):1<=ns.length/\ns.length<=1000:=by
 unfold jE at h
 cases M:pH ns with
 |none=>rw [M]at h;cases h
 |some t=>
  obtain⟨hw,hN,hs⟩:=oj M
  have hlen:ns.length=t.size:=by rw [hN,t.flat_len]
  have:=t.size_pos
  omega

def LC(p:List Int)(hp:p.length<=8000)(i:Nat)(y:List Int)(hy:i+y.length=p.length): ∀(k i1:Nat) (x:List Int) (x1:Nat),i1+k=y.length->0<i1->x.length=p.length->x1+1<=i+i1->x.drop (i+i1-1)=p.drop (i+i1-1)->
  dI i y k i1 x (x1:Int)=some (x.take x1++wK ((p[i+i1-1]?).getD 0) (p.drop (i+i1))):=by
 intro k
 induction k with
 |zero=>
  intro i1 x x1 A h0 V D h3
  simp only [dI]
  have hx1:x1<=x.length:=by omega
  rw [t8 hx1 (eO _)]
  simp only [aP,xY,zL]
  rw [show((0:Int))=((0:Nat):Int)from rfl,t8 (ij _) (by simp;omega)]
  simp only [aP,pA]
  have hn:p.drop (i+i1)=[]:=L6 (by omega)
  rw [hn,JD,zD,vF (by simp;omega),vg,Nat.min_self]
 |succ k ih=>
  intro i1 x x1 A h0 V D h3
  have e1:x[i+i1]? =p[i+i1]? :=by
   have:=congrArg (fun l:List Int=>l[1]?) h3
   simp only [vD]at this
   rwa [show i+i1-1+1=i+i1 from by omega]at this
  have e0:x[i+i1-1]? =p[i+i1-1]? :=by
   have:=congrArg (fun l:List Int=>l[0]?) h3
   simpa only [vD,Dc] using this
  have hlt:i+i1<p.length:=by omega
  have g1:Fy x (i:Int) y.length (i1:Int)=some p[i+i1]:=by
   unfold Fy
   rw [bD (by omega),show(i:Int)+(i1:Int)=((i+i1:Nat):Int)from by omega,iu,e1,jA hlt]
  have g0:Fy x (i:Int) y.length (IntKind.i64.wrap ((i1:Int)-1))=some p[i+i1-1]:=by
   rw [cV (by omega) (by omega)]
   unfold Fy
   rw [bD (by omega),show(i:Int)+((i1:Int)-1)=((i+i1-1:Nat):Int)from by omega,iu,e0,jA (by omega)]
  have hd:p.drop (i+i1)=p[i+i1]::p.drop (i+i1+1):=pC hlt
  have hp1:(p[i+i1-1]?).getD 0=p[i+i1-1]:=by rw [jA (by omega)];rfl
  simp only [dI,g1,g0,aP]
  rw [hd,hp1]
  by_cases hx2:p[i+i1]=p[i+i1-1]
  ·rw [bv (by simp [hx2])]
   have h3' :x.drop (i+(i1+1)-1)=p.drop (i+(i1+1)-1):=by
    have:=congrArg (List.drop 1) h3
    rwa [uo,uo,show i+i1-1+1=i+(i1+1)-1 from by omega]at this
   rw [ih (i1+1) x x1 (by omega) (by omega) V (by omega) h3']
   rw [GG hx2,show i+(i1+1)-1=i+i1 from by omega,jA hlt,show i+(i1+1)=i+i1+1 from by omega]
   rfl
  ·rw [bD (by simp [hx2]),iu,jA (by omega)]
   simp only [aP,zL]
   rw [cV (by omega) (by omega),show((x1:Int)+1)=((x1+1:Nat):Int)from by omega]
   have h3' :(x.set x1 p[i+i1]).drop (i+(i1+1)-1)=p.drop (i+(i1+1)-1):=by
    rw [List.drop_set_of_lt (by omega)]
    have:=congrArg (List.drop 1) h3
    rwa [uo,uo,show i+i1-1+1=i+(i1+1)-1 from by omega]at this
   rw [ih (i1+1) _ (x1+1) (by omega) (by omega) (by simpa using V) (by omega) h3']
   rw [Nu hx2,show i+(i1+1)-1=i+i1 from by omega,jA hlt,show i+(i1+1)=i+i1+1 from by omega]
   have M:(x.set x1 p[i+i1]).take (x1+1)=x.take x1++[p[i+i1]]:=by
    rw [J9 (by simp;omega),List.take_set_of_le (by omega)]
    simp
   rw [M]
   simp
def LD(p:List Int)(hp:p.length<=8000):jm p=some (Nt p):=by
 unfold jm
 by_cases D:p.length<2
 ·rw [bD (by simp;omega)]
  match p,D with
  |[],_=>rfl
  |[x],_=>rfl
 ·rw [bv (by simp;omega)]
  have key: ∀(l:List Int) (i:Nat),p.drop i=l->0<i->i<=p.length->Nt p=p.take i++wK ((p[i-1]?).getD 0) (p.drop i)->eo p l i=some (Nt p):=by
   intro l
   induction l with
   |nil=>
    intro i A h0 hle h3
    have:=Ii.1 A
    simp only [eo]
    rw [h3,A,nv (by omega),JD,zD]
   |cons x t ih=>
    intro i A h0 hle h3
    have hi:i<p.length:=by
     rcases mb i p.length with h|h
     ·exact h
     ·rw [L6 h]at A;cases A
    have V:x=p[i]:=by rw [pC hi]at A;exact(zI A).1.symm
    have M:p.drop (i+1)=t:=by rw [<-uo,A];rfl
    have hp1:(p[i-1]?).getD 0=p[i-1]:=by rw [jA (by omega)];rfl
    simp only [eo]
    rw [cV (by omega) (by omega),show(i:Int)-1=((i-1:Nat):Int)from by omega,iu,jA (by omega)]
    simp only [aP]
    by_cases he:x=p[i-1]
    ·rw [bD (by simp [he])]
     rw [t8 hle (eO _)]
     simp only [aP,xY]
     rw [LC p hp i (p.drop i) (by simp;omega) _ 1 p i (by simp;omega) (by omega) rfl (by omega) (by simp)]
     rw [h3,A,hp1,GG he,<-M,V]
     rw [show i+1-1=i from by omega,jA hi];rfl
    ·rw [bv (by simp [he])]
     refine ih (i+1) M (by omega) (by omega) ?_
     rw [h3,A,hp1,Nu he,J9 hi,<-M,V,show i+1-1=i from by omega,jA hi]
     rw [fk];rfl
  have hpc:p=p[0]::p.drop 1:=by
   have:=pC (l:=p) (i:=0) (by omega)
   simpa using this
  refine key (p.drop 1) 1 rfl (by omega) (by omega) ?_
  have e:(p[1-1]?).getD 0=p[0]:=by simp [jA (show 0<p.length by omega)]
  rw [e]
  conv=>lhs;rw [hpc]
  have e2:p.take 1=[p[0]]:=by
   conv=>lhs;rw [hpc]
   rfl
  rw [e2];rfl

def OG(l:List Int)(z:Int):z∈sortI l↔z∈l:=by unfold sortI;simp
def zA: ∀(ns:List ap) (out:List Int),out.length+ns.length<=8000-> ∃cs,lF ns out=some cs/\ ∀c,c∈cs↔c∈out\/ ∃n∈ns,n.Tag=2/\n.Col=c
 |[],out,h=>by
  unfold lF;rw [FX]
  rw [bD (by simp at h;omega)]
  simp only [aP]
  rw [LD _ (by rw [A1];simpa using h)]
  exact⟨_,rfl,fun c=>by rw [OH,OG];simp⟩
 |n::ns,out,h=>by
  simp only [gz]at h
  unfold lF
  by_cases M:n.Tag=2
  ·rw [bD (by simp [M]),cG (by simp;omega)]
   simp only [aP]
   obtain⟨cs,A,D⟩:=zA ns (out++[n.Col]) (by simp;omega)
   exact⟨cs,A,fun c=>by rw [D];simp [M,or_assoc,eq_comm]⟩
  ·rw [bv (by simp [M])]
   obtain⟨cs,A,D⟩:=zA ns out (by omega)
   exact⟨cs,A,fun c=>by rw [D];simp [M]⟩
def HW(e:aD)(h:jE e.Nodes=true): ∃cs,uj e=some cs/\ ∀c,c∈cs↔ ∃n∈e.Nodes,n.Tag=2/\n.Col=c:=by
 have hl:=KF h
 unfold uj
 rw [qh e (by omega),h]
 obtain⟨cs,A,D⟩:=zA e.Nodes [] (by simp;omega)
 exact⟨cs,by simpa using A,fun c=>by rw [D];simp⟩
def kn(tag l r:Int):Int×Bool:=(rX tag l r).getD (0,false)
def yl(tag l r:Int):rX tag l r=some (kn tag l r):=by
 unfold kn rX pL
 simp only [aP]
 repeat' split
 all_goals simp
def k4(k:Int):Prop:=k=0\/k=1\/k=2\/k=3
def T4(tag l r:Int):k4 (kn tag l r).1:=by
 unfold kn rX pL
 simp only [aP]
 repeat' split
 all_goals simp [k4]
def LV(kinds:List Int)(n:ap)(x:Int)(V:k4 x)(hk:pk n.Tag=some 1):iG kinds n [x]=some (if(kn n.Tag x 0).2 then((kn n.Tag x 0).1,0)else(0,201)):=by
 obtain⟨tag,L,R,col,v⟩:=n
 have M:tag=4\/tag=5\/tag=6\/tag=7:=by
  unfold pk at hk
  repeat' split at hk
  all_goals simp at hk
  rename_i h
  have h:4<=tag/\tag<=7:=h
  omega
 rcases M with rfl|rfl|rfl|rfl<;>rcases V with rfl|rfl|rfl|rfl<;>rfl
def LU(kinds:List Int)(n:ap)(x y:Int)(V:k4 x)(hy:k4 y)(hk:pk n.Tag=some 2):iG kinds n [x,y]=some (if(kn n.Tag x y).2 then((kn n.Tag x y).1,0)else(0,201)):=by
 obtain⟨tag,L,R,col,v⟩:=n
 have M:tag=12\/tag=13\/tag=14\/tag=15\/tag=16\/tag=17\/tag=18\/tag=19\/tag=20\/tag=21\/tag=22\/tag=23:=by
  unfold pk at hk
  repeat' split at hk
  all_goals simp at hk
  rename_i h
  have h:12<=tag/\tag<=23:=h
  omega
 rcases M with rfl|rfl|rfl|rfl|rfl|rfl|rfl|rfl|rfl|rfl|rfl|rfl<;>rcases V with rfl|rfl|rfl|rfl<;>rcases hy with rfl|rfl|rfl|rfl<;>rfl
def kd(kinds:List Int):Tr->Option Int
 | .lf n=>if n.Tag=1 then some n.Value.Kind else some ((kinds[n.Col.toNat]?).getD 0)
 | .un n a=>(kd kinds a).bind fun x=>if(kn n.Tag x 0).2 then some (kn n.Tag x 0).1 else none
 | .bi n a b=>(kd kinds a).bind fun x=>(kd kinds b).bind fun y=>if(kn n.Tag x y).2 then some (kn n.Tag x y).1 else none
def Jf(kinds:List Int)(n:ap)(a:Tr):kd kinds (.un n a)=(kd kinds a).bind fun x=>if(kn n.Tag x 0).2 then some (kn n.Tag x 0).1 else none:=rfl
def Gk(kinds:List Int)(n:ap)(a b:Tr):kd kinds (.bi n a b)=(kd kinds a).bind fun x=>(kd kinds b).bind fun y=>if(kn n.Tag x y).2 then some (kn n.Tag x y).1 else none:=rfl
def EN(m:Nat):Tr->Prop
 | .lf n=>n.Tag=2->n.Col<m
 | .un _ a=>EN m a
 | .bi _ a b=>EN m a/\EN m b
def Yk{tag:Int}(h:pk tag=some 0):tag=1\/tag=2:=by
 unfold pk at h
 repeat' split at h
 all_goals simp at h
 assumption
def YG(h:Cn n=true)(M:n.Tag=1):qM n.Value=true:=by
 have D:=i9 n
 rw [h]at D
 unfold io at D
 rw [bD (by simp [M]),mD]at D
 simp at D
 exact D.1
def VQ(h:Cn n=true)(M:n.Tag=2):0<=n.Col/\n.Col<16:=by
 have D:=i9 n
 rw [h]at D
 unfold io at D
 rw [bv (by simp [M]),bD (by simp [M])]at D
 simp at D
 exact⟨D.1.2,D.2⟩
def ML{kinds:List Int}(hk: ∀k∈kinds,k4 k): ∀(t:Tr),t.wf-> ∀{k},kd kinds t=some k->k4 k
 | .lf n,⟨A,D,_,_⟩,k,h=>by
  unfold kd at h
  split at h
  ·rename_i M
   have:=IV (YG D M)
   cases h;unfold k4;omega
  ·injection h with h
   subst h
   cases hc:kinds[n.Col.toNat]? with
   |none=>exact .inl rfl
   |some z=>exact hk z (qD hc)
 | .un n a,_,k,h=>by
  unfold kd at h
  cases ha:kd kinds a with
  |none=>rw [ha]at h;cases h
  |some x=>
   rw [ha,aP]at h
   split at h
   ·cases h;exact T4 ..
   ·cases h
 | .bi n a b,_,k,h=>by
  unfold kd at h
  cases ha:kd kinds a with
  |none=>rw [ha]at h;cases h
  |some x=>
   cases H:kd kinds b with
   |none=>rw [ha,H]at h;cases h
   |some y=>
    rw [ha,H]at h
    simp only [aP]at h
    split at h
    ·cases h;exact T4 ..
    ·cases h
def KL(stack l:List Int)(h:stack.length+l.length<=100000):nR (stack++l) (l.length:Int)=some (l,stack):=by
 unfold nR j3
 have e:IntKind.i64.wrap (((stack++l).length:Int)-(l.length:Int))=(stack.length:Int):=by
  rw [mV,cV (by omega) (by omega)];omega
 rw [e,iQ stack.length (stack++l).length rfl rfl (by simp) (eO _)]
 simp only [aP,xY,J8 (eO _),List.drop_length,nu]
 rw [cG (by simp;omega)]
 simp only [aP,nu]
 rw [iQ (i:=0) 0 stack.length rfl rfl (ij _) (by simp)]
 simp
def IZ(stack:List Int){b:Int}(h:b≠0):kR b stack=some (0,b):=by
 unfold kR;rw [bD (by simpa using h)]
def tN{tag:Int}{k:Nat}(h:pk tag=some k):pS tag=some (k:Int):=by
 rw [yw];unfold Hr;rw [h]
def Ov(kinds:List Int)(hk: ∀k∈kinds,k4 k)(t:Tr):t.wf->EN kinds.length t-> ∀(s:Nat) (rest:List ap) (stack:List Int),stack.length+t.size<=50000->
  gq (iG kinds) (t.flat s++rest) 0 stack=match kd kinds t with
   |some k=>gq (iG kinds) rest 0 (stack++[k])
   |none=>some (0,201):=by
 induction t with
 |lf n=>
  intro⟨A,D,h3,h4⟩ hc s rest stack hl
  simp only [Tr.flat,Tr.size,tR,nu]at hl ⊢
  rw [gq]
  have e1:(fJ n (-1) (-1)).Tag=n.Tag:=rfl
  rw [e1,tN A]
  have h0:=KL stack [] (by simp;omega)
  simp only [zD,pB]at h0
  simp only [aP]
  rw [h0]
  simp only [aP]
  have hv:iG kinds (fJ n (-1) (-1)) []=(kd kinds (.lf n)).map (fun k=>(k,(0:Int))):=by
   unfold iG kT kd
   simp only [e1]
   rcases Yk A with M|M
   ·rw [bD (by simp [M]),bD M];rfl
   ·rw [bv (by simp [M]),bD (by simp [M]),bv (by simp [M])]
    have H:=VQ D M
    have hm:n.Col<kinds.length:=hc M
    have e2:(fJ n (-1) (-1)).Col=n.Col:=rfl
    rw [e2,gY n.Col.toNat (by omega),jA (by omega)]
    rfl
  rw [hv]
  have: ∃k,kd kinds (.lf n)=some k:=by unfold kd;split<;>exact⟨_,rfl⟩
  obtain⟨k,hk1⟩:=this
  rw [hk1]
  simp only [De,aP]
  rw [bv (by simp),cG (by simp;omega)]
  rfl
 |un n a ih=>
  intro⟨⟨A,D,h3,h4⟩,ha⟩ hc s rest stack hl
  simp only [Tr.flat,Tr.size,fk]at hl ⊢
  rw [Jf,ih ha hc s _ stack (by omega)]
  cases V:kd kinds a with
  |none=>rfl
  |some x=>
   have hx4:=ML hk a ha V
   simp only [aP,tR,nu]
   rw [gq]
   have e1:(fJ n (((s+a.size:Nat):Int)-1) (-1)).Tag=n.Tag:=rfl
   rw [e1,tN A]
   have h0:=KL stack [x] (by simp;omega)
   simp only [aP]
   have e0:(([x]:List Int).length:Int)=((1:Nat):Int):=rfl
   rw [<-e0,h0]
   simp only [aP]
   rw [LV kinds _ x hx4 (by rw [e1];exact A),e1]
   cases H:(kn n.Tag x 0).2 with
   |true=>
    simp only [gW,aP]
    rw [bv (by simp),cG (by simp;omega)]
    rfl
   |false=>
    simp only [jS,ii,aP]
    rw [bD (by decide),IZ _ (by decide)]
 |bi n a b iha ihb=>
  intro⟨⟨A,D,h3,h4⟩,ha,H⟩ ⟨hca,hcb⟩ s rest stack hl
  simp only [Tr.flat,Tr.size,fk]at hl ⊢
  rw [Gk,iha ha hca s _ stack (by omega)]
  cases V:kd kinds a with
  |none=>rfl
  |some x=>
   have hx4:=ML hk a ha V
   simp only [aP]
   rw [ihb H hcb (s+a.size) _ (stack++[x]) (by have:=a.size_pos;simp;omega)]
   cases hy:kd kinds b with
   |none=>rfl
   |some y=>
    have hy4:=ML hk b H hy
    have hap:=a.size_pos
    simp only [aP,tR,nu]
    rw [gq]
    have e1:(fJ n (((s+a.size:Nat):Int)-1) (((s+a.size+b.size:Nat):Int)-1)).Tag=n.Tag:=rfl
    rw [e1,tN A]
    have h0:=KL stack [x,y] (by simp;omega)
    simp only [aP]
    have e0:(([x,y]:List Int).length:Int)=((2:Nat):Int):=rfl
    have e9:stack++[x]++[y]=stack++[x,y]:=by simp
    rw [<-e0,e9,h0]
    simp only [aP]
    rw [LU kinds _ x y hx4 hy4 (by rw [e1];exact A),e1]
    cases H:(kn n.Tag x y).2 with
    |true=>
     simp only [gW,aP]
     rw [bv (by simp),cG (by simp;omega)]
     rfl
    |false=>
     simp only [jS,ii,aP]
     rw [bD (by decide),IZ _ (by decide)]
def Qg(kinds:List Int)(hk: ∀k∈kinds,k4 k)(t:Tr):t.wf->EN kinds.length t-> ∀(rest:List ap) (own:List Int),own.length+t.size<=50000->
  (kd kinds t=none/\dk kinds (t.flat own.length++rest) own=some (0,201))\/
  (∃k w,kd kinds t=some k/\w.length+1=t.size/\dk kinds (t.flat own.length++rest) own=dk kinds rest (own++w++[k])):=by
 induction t with
 |lf n=>
  intro⟨A,D,h3,h4⟩ hc rest own hl
  simp only [Tr.flat,Tr.size,tR,nu]at hl ⊢
  refine .inr ?_
  have e1:(fJ n (-1) (-1)).Tag=n.Tag:=rfl
  unfold kd
  rcases Yk A with M|M
  ·refine⟨_,[],bD M,rfl,?_⟩
   rw [dk]
   rw [e1,bD (by simp [M]),cG (by simp;omega)]
   simp only [aP,zD]
   rfl
  ·refine⟨_,[],bv (by simp [M]),rfl,?_⟩
   have H:=VQ D M
   have hm:n.Col<kinds.length:=hc M
   have e2:(fJ n (-1) (-1)).Col=n.Col:=rfl
   rw [dk]
   rw [e1,bv (by simp [M]),bD (by simp [M]),e2,gY n.Col.toNat (by omega),jA (by omega)]
   simp only [aP,zD,Option.getD_some]
   rw [cG (by simp;omega)]
   rfl
 |un n a ih=>
  intro⟨⟨A,D,h3,h4⟩,ha⟩ hc rest own hl
  have hap:=a.size_pos
  simp only [Tr.flat,Tr.size,fk]at hl ⊢
  rcases ih ha hc ([fJ n (((own.length+a.size:Nat):Int)-1) (-1)]++rest) own (by omega)with⟨V,he⟩|⟨x,w,V,hw,he⟩
  ·exact .inl ⟨by rw [Jf,V];rfl,by rw [he]⟩
  ·rw [he]
   rw [Jf,V]
   simp only [aP,tR,nu]
   have e1:(fJ n (((own.length+a.size:Nat):Int)-1) (-1)).Tag=n.Tag:=rfl
   have n1:n.Tag≠1:=fun h=>by rw [h]at A;simp [pk]at A
   have n2:n.Tag≠2:=fun h=>by rw [h]at A;simp [pk]at A
   have hstep:dk kinds (fJ n (((own.length+a.size:Nat):Int)-1) (-1)::rest) (own++w++[x])=if(kn n.Tag x 0).2 then dk kinds rest (own++w++[x]++[(kn n.Tag x 0).1])else some (0,201):=by
    rw [dk]
    rw [e1,bv (by simpa using n1),bv (by simpa using n2)]
    have eL:(fJ n (((own.length+a.size:Nat):Int)-1) (-1)).L=((own.length+a.size:Nat):Int)-1:=rfl
    have eR:(fJ n (((own.length+a.size:Nat):Int)-1) (-1)).R= -1:=rfl
    rw [eL,eR,gY (own++w).length (by simp;omega),tX (eO _),Dd]
    simp only [FO,aP]
    rw [bv (by decide)]
    unfold qb
    rw [e1,yl]
    simp only [aP]
    cases H:(kn n.Tag x 0).2 with
    |true=>
     simp only [oI,jS,ii,gW]
     rw [cG (by simp;omega)];rfl
    |false=>rfl
   rw [hstep]
   cases H:(kn n.Tag x 0).2 with
   |true=>exact .inr ⟨(kn n.Tag x 0).1,w++[x],by simp,by simp;omega,by simp⟩
   |false=>exact .inl ⟨by simp,by simp⟩
 |bi n a b iha ihb=>
  intro⟨⟨A,D,h3,h4⟩,ha,H⟩ ⟨hca,hcb⟩ rest own hl
  have hap:=a.size_pos
  have hbp:=b.size_pos
  simp only [Tr.flat,Tr.size,fk]at hl ⊢
  obtain⟨m,hm⟩: ∃m,m=fJ n (((own.length+a.size:Nat):Int)-1) (((own.length+a.size+b.size:Nat):Int)-1):=⟨_,rfl⟩
  rw [<-hm]
  rcases iha ha hca (b.flat (own.length+a.size)++([m]++rest)) own (by omega)with⟨V,he⟩|⟨x,w,V,hw,he⟩
  ·exact .inl ⟨by rw [Gk,V];rfl,by rw [he]⟩
  ·rw [he]
   have hl2:(own++w++[x]).length=own.length+a.size:=by simp;omega
   rw [<-hl2]
   rcases ihb H hcb ([m]++rest) (own++w++[x]) (by rw [hl2];omega)with⟨hy,he2⟩|⟨y,w2,hy,hw2,he2⟩
   ·exact .inl ⟨by rw [Gk,V,hy];rfl,by rw [he2]⟩
   ·rw [he2]
    rw [Gk,V,hy]
    simp only [aP,tR,nu]
    have e1:m.Tag=n.Tag:=by rw [hm];rfl
    have eL:m.L=((own.length+a.size:Nat):Int)-1:=by rw [hm];rfl
    have eR:m.R=((own.length+a.size+b.size:Nat):Int)-1:=by rw [hm];rfl
    have n1:n.Tag≠1:=fun h=>by rw [h]at A;simp [pk]at A
    have n2:n.Tag≠2:=fun h=>by rw [h]at A;simp [pk]at A
    have hstep:dk kinds (m::rest) (own++w++[x]++w2++[y])=if(kn n.Tag x y).2 then dk kinds rest (own++w++[x]++w2++[y]++[(kn n.Tag x y).1])else some (0,201):=by
     rw [dk]
     rw [e1,bv (by simpa using n1),bv (by simpa using n2)]
     rw [eL,eR,gY (own++w).length (by simp;omega)]
     have g1:(own++w++[x]++w2++[y])[(own++w).length]? =some x:=by
      rw [fk,fk,tX (eO _),Dd];rfl
     rw [g1]
     simp only [aP]
     rw [bD (by rw [li];omega),gY (own++w++[x]++w2).length (by simp;omega)]
     have g2:(own++w++[x]++w2++[y])[(own++w++[x]++w2).length]? =some y:=by
      rw [tX (eO _),Dd];rfl
     rw [g2]
     simp only [aP]
     unfold qb
     rw [e1,yl]
     simp only [aP]
     cases H:(kn n.Tag x y).2 with
     |true=>
      simp only [oI,jS,ii,gW]
      rw [cG (by simp;omega)];rfl
     |false=>rfl
    rw [hstep]
    cases H:(kn n.Tag x y).2 with
    |true=>exact .inr ⟨(kn n.Tag x y).1,w++[x]++w2++[y],by simp,by simp;omega,by simp⟩
    |false=>exact .inl ⟨by simp,by simp⟩
def lH(m:Nat)(ns:List ap):Bool:=ns.all fun n=> !((n.Tag==2)&&decide ((m:Int)<=n.Col))
def JF(m:Nat)(n:ap)(ns:List ap):lH m (n::ns)=(!((n.Tag==2)&&decide ((m:Int)<=n.Col))&&lH m ns):=rfl
def wL(m:Nat)(t:Tr):t.wf-> ∀s,lH m (t.flat s)=true->EN m t:=by
 induction t with
 |lf n=>
  intro _ s h M
  simp only [lH,Tr.flat,qk,List.all_nil,Bool.and_true]at h
  have e1:(fJ n (-1) (-1)).Tag=n.Tag:=rfl
  have e2:(fJ n (-1) (-1)).Col=n.Col:=rfl
  simp [e1,e2,M]at h
  exact h
 |un n a ih=>
  intro⟨_,ha⟩ s h
  simp only [lH,Tr.flat,List.all_append,gU]at h
  exact ih ha s h.1
 |bi n a b iha ihb=>
  intro⟨_,ha,H⟩ s h
  simp only [lH,Tr.flat,List.all_append,gU]at h
  exact⟨iha ha s h.1.1,ihb H _ h.1.2⟩
def PB(kinds:List Int):Bool:=kinds.all fun k=>decide (0<=k)&&decide (k<=3)
def Jg(k:Int)(ks:List Int):PB (k::ks)=((decide (0<=k)&&decide (k<=3))&&PB ks):=rfl
def MM{kinds:List Int}(h:PB kinds=true){k:Int}(hk:k∈kinds):k4 k:=by
 have:=mo.1 h k hk
 simp at this
 unfold k4;omega
def fe(e:aD)(kinds:List Int):Int×Int:=
 if jE e.Nodes then if PB kinds then if lH kinds.length e.Nodes then match (pH e.Nodes).bind (kd kinds)with
  |some k=>(k,0)
  |none=>(0,201)else(0,2)else(0,2)else(0,200)
def Fc(e:aD)(kinds:List Int): ∀cs:List Int,lE e kinds cs=if cs.all (fun c=>decide (c<(kinds.length:Int)))then nG e (iG kinds)else some (0,2)
 |[]=>by
  unfold lE
  cases nG e (iG kinds)<;>rfl
 |c::cs=>by
  unfold lE
  rw [Fc e kinds cs]
  by_cases h:(kinds.length:Int)<=c
  ·rw [bD (by simpa using h),bv (by simp;omega)]
  ·rw [bv (by simpa using h)]
   have:c<(kinds.length:Int):=by omega
   simp [this]
def rp(e:aD)(kinds:List Int)(hl:e.Nodes.length<=50000):pU e kinds=some (fe e kinds):=by
 unfold pU fe
 rw [qh e (by omega)]
 cases hr:jE e.Nodes with
 |false=>rfl
 |true=>
  simp only [gW,aP]
  rw [bv (by decide)]
  have key: ∀ks:List Int,ph e kinds ks=if PB ks then(uj e).bind (lE e kinds)else some (0,2):=by
   intro ks
   induction ks with
   |nil=>rfl
   |cons k ks ih=>
    unfold ph
    rw [ih]
    by_cases h:k<0\/3<k
    ·rw [bD (by simpa using h),bv (by simp [PB];omega)]
    ·rw [bv (by simpa using h)]
     have A:(decide (0<=k)&&decide (k<=3))=true:=by simp;omega
     rw [Jg,A,tw]
  rw [key]
  cases hk:PB kinds with
  |false=>rfl
  |true=>
   simp only [gW]
   obtain⟨cs,A,D⟩:=HW e hr
   rw [A,aP,Fc]
   have hci:cs.all (fun c=>decide (c<(kinds.length:Int)))=lH kinds.length e.Nodes:=by
    rw [tQ]
    simp only [mo,li,lH,vO,Bool.and_eq_false_iff,Ig,nl]
    constructor
    ·intro h n hn
     by_cases M:n.Tag=2
     ·exact .inr (by have:=h _ ((D n.Col).2 ⟨n,hn,M,rfl⟩);omega)
     ·exact .inl M
    ·intro h c hc
     obtain⟨n,hn,M,rfl⟩:=(D c).1 hc
     rcases h n hn with h|h
     ·exact absurd M h
     ·omega
   rw [hci]
   cases hc:lH kinds.length e.Nodes with
   |false=>rfl
   |true=>
    simp only [gW]
    cases M:pH e.Nodes with
    |none=>unfold jE at hr;rw [M]at hr;cases hr
    |some t=>
     obtain⟨hw,hN,hs⟩:=oj M
     have hct:=wL kinds.length t hw 0 (by rw [<-hN];exact hc)
     have:=Ov kinds (fun k=>MM hk) t hw hct 0 [] [] (by simp;omega)
     rw [zD,<-hN]at this
     unfold nG
     rw [this]
     simp only [aP]
     cases kd kinds t with
     |none=>rfl
     |some k=>rfl
def nB(e:aD)(kinds:List Int):pM e kinds=some (fe e kinds):=by
 unfold pM fe
 rw [DX e]
 cases hr:jE e.Nodes with
 |false=>rfl
 |true=>
  simp only [gW,aP,oI,jS,ii]
  have Wx: ∀ns:List ap,nA e kinds ns=if lH kinds.length ns then dk kinds e.Nodes []else some (0,2):=by
   intro ns
   induction ns with
   |nil=>rfl
   |cons n ns ih=>
    unfold nA
    rw [ih,JF]
    cases ((n.Tag==2)&&decide ((kinds.length:Int)<=n.Col))<;>simp
  have key: ∀ks:List Int,qa e kinds ks=if PB ks then nA e kinds e.Nodes else some (0,2):=by
   intro ks
   induction ks with
   |nil=>rfl
   |cons k ks ih=>
    unfold qa
    rw [ih]
    by_cases h:k<0\/3<k
    ·rw [bD (by simpa using h),bv (by simp [PB];omega)]
    ·rw [bv (by simpa using h)]
     have A:(decide (0<=k)&&decide (k<=3))=true:=by simp;omega
     rw [Jg,A,tw]
  rw [key,Wx]
  cases hk:PB kinds with
  |false=>rfl
  |true=>
   cases hc:lH kinds.length e.Nodes with
   |false=>rfl
   |true=>
    simp only [gW]
    cases M:pH e.Nodes with
    |none=>unfold jE at hr;rw [M]at hr;cases hr
    |some t=>
     obtain⟨hw,hN,hs⟩:=oj M
     have hct:=wL kinds.length t hw 0 (by rw [<-hN];exact hc)
     have:=Qg kinds (fun k=>MM hk) t hw hct [] [] (by simp;omega)
     rw [zD,pB,<-hN]at this
     simp only [aP]
     rcases this with⟨A,D⟩|⟨k,w,A,D,h3⟩
     ·rw [A,D]
     ·rw [A,h3]
      unfold dk
      have hls:t.size<=1000:=hs
      rw [nu,gY w.length (by rw [cV (by simp<;>omega) (by simp<;>omega)];simp),tX (eO _),Dd]
      rfl
end Go.Proofs.YthbdkceckjihgaaGreatDoor

