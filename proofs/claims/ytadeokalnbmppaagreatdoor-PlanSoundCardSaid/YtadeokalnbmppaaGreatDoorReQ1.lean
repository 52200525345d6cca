import Derived.Test.YtadeokalnbmppaaGreatDoorReR19
import Derived.KernelRfl
import Derived.Test.YtadeokalnbmppaaGreatDoorReV4
set_option linter.all false
namespace Go.Proofs.YtadeokalnbmppaaGreatDoor
open Go IntKind
abbrev Row:=List dX
variable{α:Type}{xs:List α}
def cK{ys:List α}(h:xs.length+ys.length<=68719476736):nH xs ys=some (xs++ys):=bq h
def Ck(v:dX):Bool:=(sK v).getD false
def Hj(v:dX):sK v=some (Ck v):=by
 unfold Ck sK;repeat' split
 all_goals rfl
def GR(v:dX):xc v=some (if Ck v then 0 else 120):=by
 obtain⟨k,n,u,s⟩:=v;unfold Ck sK xc zZ;simp only [nq,tk,th,tg];by_cases h0:k=0
 ·subst h0;simp;repeat' split
  all_goals simp_all
 by_cases D:k=1
 ·subst D;by_cases n0:n=0
  ·subst n0;simp;repeat' split
   all_goals simp_all
  by_cases n1:n=1
  ·subst n1;simp;repeat' split
   all_goals simp_all
  simp [n0,n1]
 by_cases V:k=2
 ·subst V;simp;repeat' split
  all_goals simp_all
 by_cases Z:k=3
 ·subst Z;simp;repeat' split
  all_goals simp_all
 by_cases h4:k=4
 ·subst h4;simp;repeat' split
  all_goals simp_all
 simp [h0,D,V,Z,h4]
structure Cmp{α:Type}(f:α->α->Int):Prop where
 rng: ∀x y,f x y= -1\/f x y=0\/f x y=1
 anti: ∀x y,f y x= -f x y
 eq: ∀x y,f x y=0↔x=y
 trans: ∀x y z,f x y<=0->f y z<=0->f x z<=0
def key(v:dX):Int×Int×Int×ru:=(v.Kind,v.N,v.U,v.S)
section
variable{f:α->α->Int}
def ltB(f:α->α->Int)(x y:α):Bool:=decide (f x y<0)
def srt(f:α->α->Int)(l:List α):List α:=Zr (ltB f) l
def put(f:α->α->Int)(x:α):List α->List α
 |[]=>[x]
 |y::l=>if f x y<0 then x::y::l else y::put f x l
end
def AM{α:Type} [DecidableEq α]:α->List α->List α
 |_,[]=>[]
 |p,x::t=>if x=p then AM x t else x::AM x t
def NU [DecidableEq α](p:α):AM p []=[]:=by unfold AM;rfl
def JS [DecidableEq α]{p x:α}(h:x=p)(t:List α):AM p (x::t)=AM x t:=by
 conv=>lhs;unfold AM
 rw [bq h]
def RX [DecidableEq α]{p x:α}(h: ¬x=p)(t:List α):AM p (x::t)=x::AM x t:=by
 conv=>lhs;unfold AM
 rw [aZ h]
def RW{α:Type} [DecidableEq α]:List α->List α
 |[]=>[]
 |x::t=>x::AM x t
def HX{α:Type} [DecidableEq α]: ∀(p:α) (l:List α) (z:α),z∈AM p l->z∈l
 |p,x::t,z,h=>by
  unfold AM at h;split at h
  ·exact pA _ (HX x t z h)
  ·rcases iI.1 h with rfl|h
   ·exact pz ..
   ·exact pA _ (HX x t z h)
def Hz{α:Type} [DecidableEq α]: ∀(p:α) (l:List α) (z:α),z∈l->z=p\/z∈AM p l
 |p,x::t,z,h=>by
  unfold AM;by_cases I:x=p
  ·rw [bq I];rcases iI.1 h with rfl|h
   ·exact .inl I
   ·rcases Hz x t z h with h|h
    ·exact .inl (h.trans I)
    ·exact .inr h
  ·rw [aZ I];rcases iI.1 h with rfl|h
   ·exact .inr (pz ..)
   ·rcases Hz x t z h with h|h
    ·exact .inr (by rw [h];exact pz ..)
    ·exact .inr (pA _ h)
def Tp [DecidableEq α](l:List α)(z:α):z∈RW l↔z∈l:=by
 cases l with
 |nil=>exact wh
 |cons x t=>
  constructor
  ·intro h;rcases iI.1 h with rfl|h
   ·exact pz ..
   ·exact pA _ (HX x t z h)
  ·intro h;rcases iI.1 h with rfl|h
   ·exact pz ..
   ·rcases Hz x t z h with rfl|h
    ·exact pz ..
    ·exact pA _ h
structure Small(l:List Row):Prop where
 len:l.length<=8000
 row: ∀r∈l,r.length<=1000
def cJ{n:Int}(h: -9223372036854775808<=n)(V:n<=9223372036854775807):i64.wrap n=n:=by rw [wrap_i64];omega
def AX{l m:Nat}(h:l<=m)(V:m<=xs.length):fz xs (l:Int) (m:Int)=some ((xs.take m).drop l):=by
 unfold fz;rw [bq (by omega)];simp
def mo{i j:Int}(l m:Nat)(hi:i=(l:Int))(hj:j=(m:Int))(h:l<=m)(V:m<=xs.length):fz xs i j=some ((xs.take m).drop l):=by
 subst hi hj;exact AX h V
def me{i:Int}(k:Nat)(hi:i=(k:Int)):dm xs i=xs[k]? :=by subst hi;exact bR _ _
def Cq(v:dX):Bool:=Ck v&&(v.Kind !=4)
def GQ(v:dX):w9 v=some (Cq v):=by
 unfold w9 Cq;rw [GR];cases Ck v<;>simp
def wt(v:dX):Am v=some (Cq v):=by
 unfold Am Cq;rw [Hj];rfl
def MG{v:dX}(h:Cq v=true):0<=v.Kind/\v.Kind<=3:=by
 obtain⟨k,n,u,s⟩:=v;unfold Cq Ck sK at h;simp only [jJ,w7,ne_eq]at h;obtain⟨D,V⟩:=h;by_cases h0:k=0
 ·simp [h0]
 by_cases k1:k=1
 ·simp [k1]
 by_cases k2:k=2
 ·simp [k2]
 by_cases k3:k=3
 ·simp [k3]
 simp [h0,k1,k2,k3,V]at D
def pk(tag:Int):Option Nat:=if tag=1\/tag=2 then some 0 else if 4<=tag/\tag<=7 then some 1 else if 12<=tag/\tag<=23 then some 2 else none
def KI(tag:Int):Int:=match pk tag with
 |some k=>(k:Int)
 |none=> -1
def BX(tag:Int):uv tag=some (KI tag):=by
 unfold uv KI pk;by_cases D:tag=1\/tag=2
 ·rw [bq D,bq (by simpa using D)];rfl
 rw [aZ D,aZ (by simpa using D)];by_cases V:4<=tag/\tag<=7
 ·rw [bq V,bq (by simpa using V)];rfl
 rw [aZ V,aZ (by simpa using V)];by_cases Z:12<=tag/\tag<=23
 ·rw [bq Z,bq (by simpa using Z)];rfl
 rw [aZ Z,aZ (by simpa using Z)]
def tq(tag:Int):Al tag=some (KI tag):=by
 unfold Al Fj KI pk;by_cases D:tag=1\/tag=2
 ·rw [bq D];rcases D with rfl|rfl<;>rfl
 rw [aZ D];by_cases V:4<=tag/\tag<=7
 ·rw [bq V];have:tag=4\/tag=5\/tag=6\/tag=7:=by omega
  rcases this with rfl|rfl|rfl|rfl<;>rfl
 rw [aZ V];by_cases Z:12<=tag/\tag<=23
 ·rw [bq Z,aZ (by simp;omega),aZ (by simp;omega),aZ (by simp;omega),aZ (by simp;omega)];rfl
 rw [aZ Z];by_cases h4:tag=3\/(8<=tag/\tag<=11)
 ·rw [bq (by simpa using h4)]
 rw [aZ (by simpa using h4),bq (by simp;omega)];rfl
def LL(n:bw):Bool:=(pL n).getD false
def mI(n:bw):pL n=some (LL n):=by
 unfold LL pL;rw [wt];split
 ·rfl
 ·split<;>rfl
def HS(n:bw):xw n=some (LL n):=by
 rw [<-mI];unfold xw pL;rw [wt,GQ]
inductive Tr where
 |lf (n:bw)
 |un (n:bw) (a:Tr)
 |bi (n:bw) (a b:Tr)
 deriving Inhabited
def Tr.size:Tr->Nat
 | .lf _=>1
 | .un _ a=>a.size+1
 | .bi _ a b=>a.size+b.size+1
def kS(n:bw)(l r:Int):bw:={n with L:=l,R:=r}
def Tr.flat:Tr->Nat->List bw
 | .lf n,_=>[kS n (-1) (-1)]
 | .un n a,s=>a.flat s++[kS n ((s+a.size:Nat)-1) (-1)]
 | .bi n a b,s=>a.flat s++b.flat (s+a.size)++[kS n ((s+a.size:Nat)-1) ((s+a.size+b.size:Nat)-1)]
def aaF(k:Nat)(n:bw):Prop:=pk n.Tag=some k/\LL n=true/\n.L= -1/\n.R= -1
def Tr.wf:Tr->Prop
 | .lf n=>aaF 0 n
 | .un n a=>aaF 1 n/\a.wf
 | .bi n a b=>aaF 2 n/\a.wf/\b.wf
def Tr.size_pos(t:Tr):0<t.size:=by cases t<;>simp [Tr.size]
def Tr.X'(t:Tr): ∀s,(t.flat s).length=t.size:=by
 induction t with
 |lf n=>intro s;rfl
 |un n a ih=>intro s;simp [Tr.flat,Tr.size,ih]
 |bi n a b iha ihb=>intro s;simp [Tr.flat,Tr.size,iha,ihb];omega
def cS:List Tr->Nat
 |[]=>0
 |t::st=>cS st+t.size
def yo:List Tr->List bw
 |[]=>[]
 |t::st=>yo st++t.flat (cS st)
def JH: ∀st:List Tr,(yo st).length=cS st
 |[]=>rfl
 |t::st=>by simp [yo,cS,JH st,t.X']
def I5: ∀st:List Tr,st.length<=cS st
 |[]=>eX _
 |t::st=>by have:=I5 st;have:=t.size_pos;simp [cS];omega
def push(st:List Tr)(n:bw):Option (List Tr):=
 match pk n.Tag,st with
 |some 0,st=>if LL n&&n.L== -1&&n.R== -1 then some (.lf (kS n (-1) (-1))::st)else none
 |some 1,a::st=>if LL n&&n.L==((cS st+a.size:Nat):Int)-1&&n.R== -1 then some (.un (kS n (-1) (-1)) a::st)else none
 |some 2,b::a::st=>if LL n&&n.L==((cS st+a.size:Nat):Int)-1&&n.R==((cS st+a.size+b.size:Nat):Int)-1 then some (.bi (kS n (-1) (-1)) a b::st)else none
 |_,_=>none
def rC:List bw->List Tr->Option (List Tr)
 |[],st=>some st
 |n::ns,st=>(push st n).bind (rC ns)
def wfs(st:List Tr):Prop:= ∀t∈st,t.wf
def A6{n:bw}{l r:Int}(h:n.L=l)(V:n.R=r):kS (kS n (-1) (-1)) l r=n:=by subst h V;rfl
def S8{st st' :List Tr}{n:bw}(h:push st n=some st')(hw:wfs st):yo st' =yo st++[n]/\cS st' =cS st+1/\wfs st' :=by
 unfold push at h;split at h
 ·rename_i k st0 hk;split at h
  ·rename_i hc;simp only [jJ,vD]at hc;obtain⟨⟨D,V⟩,Z⟩:=hc;cases h;refine⟨?_,rfl,fun t Y=>?_⟩
   ·simp only [yo,Tr.flat];rw [A6 V Z]
   ·rcases iI.1 Y with rfl|Y
    ·exact⟨hk,D,rfl,rfl⟩
    ·exact hw t Y
  ·cases h
 ·rename_i k a st0 hk;split at h
  ·rename_i hc;simp only [jJ,vD]at hc;obtain⟨⟨D,V⟩,Z⟩:=hc;cases h;refine⟨?_,by simp [cS,Tr.size];omega,fun t Y=>?_⟩
   ·simp only [yo,Tr.flat];rw [A6 V Z,gJ]
   ·rcases iI.1 Y with rfl|Y
    ·exact⟨⟨hk,D,rfl,rfl⟩,hw a (pz ..)⟩
    ·exact hw t (pA _ Y)
  ·cases h
 ·rename_i k b a st0 hk;split at h
  ·rename_i hc;simp only [jJ,vD]at hc;obtain⟨⟨D,V⟩,Z⟩:=hc;cases h;refine⟨?_,by simp [cS,Tr.size];omega,fun t Y=>?_⟩
   ·simp only [yo,Tr.flat,cS];rw [A6 V Z];simp only [gJ]
   ·rcases iI.1 Y with rfl|Y
    ·exact⟨⟨hk,D,rfl,rfl⟩,hw a (pA _ (pz ..)),hw b (pz ..)⟩
    ·exact hw t (pA _ (pA _ Y))
  ·cases h
 ·cases h
def wx: ∀{ns:List bw} {st st' :List Tr},rC ns st=some st' ->wfs st->yo st' =yo st++ns/\wfs st'
 |[],st,st',h,hw=>by cases h;simp [hw]
 |n::ns,st,st',h,hw=>by
  unfold rC at h
  cases hp:push st n with
  |none=>rw [hp]at h;cases h
  |some st1=>
   rw [hp]at h;obtain⟨D,_,Z⟩:=S8 hp hw;obtain⟨h4,h5⟩:=wx (ns:=ns) h Z;exact⟨by rw [h4,D];simp,h5⟩
def vP: ∀(ns ms:List bw) (st:List Tr),rC (ns++ms) st=(rC ns st).bind (rC ms)
 |[],ms,st=>rfl
 |n::ns,ms,st=>by
  simp only [FR,rC]
  cases push st n with
  |none=>rfl
  |some st1=>exact vP ns ms st1
def Px(t:Tr): ∀(st:List Tr),t.wf->rC (t.flat (cS st)) st=some (t::st):=by
 induction t with
 |lf n=>
  intro st ⟨D,V,Z,h4⟩;have hn' :kS n (-1) (-1)=n:=by cases n;simp only at Z h4;subst Z h4;rfl
  simp only [Tr.flat,rC,push,hn'];rw [D];simp [V,Z,h4,rC,hn']
 |un n a ih=>
  intro st ⟨⟨D,V,Z,h4⟩,ha⟩;have hn' :kS n (-1) (-1)=n:=by cases n;simp only at Z h4;subst Z h4;rfl
  simp only [Tr.flat];rw [vP,ih st ha];simp only [bh,rC,push];have e1:(kS n (((cS st+a.size:Nat):Int)-1) (-1)).Tag=n.Tag:=rfl;rw [e1,D];have e2:LL (kS n (((cS st+a.size:Nat):Int)-1) (-1))=true:=V;rw [e2];simp only [kS,beq_self_eq_true,Bool.and_self,mF,bh,rC];simp only [kS]at hn';rw [hn']
 |bi n a b iha ihb=>
  intro st ⟨⟨D,V,Z,h4⟩,ha,K⟩;have hn' :kS n (-1) (-1)=n:=by cases n;simp only at Z h4;subst Z h4;rfl
  simp only [Tr.flat];rw [vP,vP,iha st ha];simp only [bh];have e0:cS st+a.size=cS (a::st):=rfl;rw [e0,ihb (a::st) K];simp only [bh,rC,push];have e1:(kS n (((cS (a::st):Nat):Int)-1) (((cS (a::st)+b.size:Nat):Int)-1)).Tag=n.Tag:=rfl;rw [e1,D];have e2:LL (kS n (((cS (a::st):Nat):Int)-1) (((cS (a::st)+b.size:Nat):Int)-1))=true:=V;rw [e2];simp only [kS,cS,beq_self_eq_true,Bool.and_self,mF,bh,rC];simp only [kS]at hn';rw [hn']
def qF(ns:List bw):Option Tr:=match rC ns []with
 |some [t]=>if ns.length<=1000 then some t else none
 |_=>none
def qE{ns:List bw}{t:Tr}(h:qF ns=some t):t.wf/\ns=t.flat 0/\t.size<=1000:=by
 unfold qF at h;split at h
 ·rename_i t0 hp;split at h
  ·rename_i hl;cases h;obtain⟨D,V⟩:=wx hp (fun t Y=>by cases Y);simp only [yo,cS,lz]at D;exact⟨V t (pz ..),D.symm,by rw [<-t.X' 0,D];exact hl⟩
  ·cases h
 ·cases h
def Fb{t:Tr}(h:t.wf)(hs:t.size<=1000):qF (t.flat 0)=some t:=by
 unfold qF;have h0:=Px t [] h;simp only [cS]at h0;rw [h0];simp only [t.X',hs,mF]
def fl:Tr->Nat->List Int
 | .lf _,s=>[(s:Int)]
 | .un _ a,s=>fl a s++[(s:Int)]
 | .bi _ a b,s=>fl a s++fl b (s+a.size)++[(s:Int)]
def NC:List Tr->List Int
 |[]=>[]
 |t::st=>NC st++fl t (cS st)
def o8:List Tr->List Int
 |[]=>[]
 |t::st=>o8 st++[((cS st+t.size:Nat):Int)-1]
def vu(t:Tr): ∀s,(fl t s).length=t.size:=by
 induction t with
 |lf n=>intro s;rfl
 |un n a ih=>intro s;simp [fl,Tr.size,ih]
 |bi n a b iha ihb=>intro s;simp [fl,Tr.size,iha,ihb];omega
def xu: ∀st:List Tr,(NC st).length=cS st
 |[]=>rfl
 |t::st=>by simp [NC,cS,xu st,vu]
def ei: ∀st:List Tr,(o8 st).length=st.length
 |[]=>rfl
 |t::st=>by simp [o8,ei st]
def RF(t:Tr)(s:Nat):(fl t s)[t.size-1]? =some (s:Int):=by
 cases t with
 |lf n=>rfl
 |un n a=>simp only [fl,Tr.size];rw [sE (by rw [vu];omega),vu];simp
 |bi n a b=>simp only [fl,Tr.size];rw [sE (by simp [vu]),jY,vu,vu];simp
def HJ(t:Tr)(st:List Tr)(rest:List Int):(NC st++fl t (cS st)++rest)[cS st+t.size-1]? =some (cS st:Int):=by
 have:=t.size_pos;rw [lT (by rw [jY,xu,vu];omega),sE (by rw [xu];omega),xu,show cS st+t.size-1-cS st=t.size-1 from by omega];exact RF t _
def JL: ∀(ns:List bw) (st:List Tr),cS st+ns.length<=100000->nF ns (cS st) (NC st) (o8 st)=some (match rC ns st with
   |some st' =>(NC st',decide (st'.length=1)&&decide (cS st' <=1000))
   |none=>([],false)):=by
 intro ns
 induction ns with
 |nil=>
  intro st _;simp only [nF,rC,ei,xu];congr 2;congr 1
  ·rw [uQ];simp;omega
  ·rw [uQ];simp;omega
 |cons n ns ih=>
  intro st hs;simp only [jr]at hs;have hll:=I5 st;unfold nF;rw [BX];simp only [bh,ei,HS];unfold rC;unfold push
  cases hk:pk n.Tag with
  |none=>
   have e:KI n.Tag= -1:=by unfold KI;rw [hk]
   simp [e]
  |some k=>
   have e:KI n.Tag=(k:Int):=by unfold KI;rw [hk]
   have hk3:k=0\/k=1\/k=2:=by
    unfold pk at hk;repeat' split at hk
    all_goals simp at hk
    all_goals omega
   rw [e];rcases hk3 with rfl|rfl|rfl
   ·-- none
    simp only [];have c1:(decide (((0:Nat):Int)<0)||decide ((st.length:Int)<((0:Nat):Int)))=false:=by simp
    simp only [c1,xV,mF,bh]
    cases hc:LL n with
    |false=>simp
    |true=>
     simp only [s6,qD,lS,sX];rw [mo st.length st.length (by rw [cJ (by omega) (by omega)];omega) rfl (eX _) (by rw [ei];exact eX _)];have hd:(List.take st.length (o8 st)).drop st.length=[]:=Ec (by simp;omega);simp only [hd,bh,pp];by_cases hL:n.L= -1/\n.R= -1
     ·have K:(n.L== -1&&n.R== -1)=true:=by simp [hL]
      rw [bq K,aZ (by simp [hL.1,hL.2])];rw [cK (by simp only [jr,tZ,xu];omega)];simp only [bh];rw [mo (i:=0) 0 st.length rfl (by rw [ei,cJ (by omega) (by omega)];omega) (kY _) (by rw [ei];exact eX _)];rw [s8 (by rw [ei];exact eX _),vj];simp only [bh];rw [cK (by simp only [jr,tZ,ei];omega)];simp only [bh];have V:=ih (.lf (kS n (-1) (-1))::st) (by simp [cS,Tr.size];omega);simp only [cS,Tr.size,NC,fl,o8]at V;rw [show(((cS st+1:Nat):Int)-1)=(cS st:Int)from by omega]at V;exact V
     ·have K:(n.L== -1&&n.R== -1)=false:=by
       rw [BJ];intro h;apply hL;simpa using h
      rw [K];rw [bq (by
       simp only [FS,GK];intro h;have D:(-1:Int)=n.L:=by injection h
       have V:(-1:Int)=n.R:=by injection h with _ h;injection h
       exact hL ⟨D.symm,V.symm⟩)]
      simp
   ·-- one
    cases st with
    |nil=>simp
    |cons a st=>
     simp only [];have c1:(decide (((1:Nat):Int)<0)||decide (((a::st).length:Int)<((1:Nat):Int)))=false:=by simp;omega
     simp only [c1,xV,mF,bh]
     cases hc:LL n with
     |false=>simp
     |true=>
      simp only [s6,qD,lS,sX];simp only [jr]at hll ⊢;simp only [cS]at hs hll;have hap:=a.size_pos;rw [mo st.length (st.length+1) (by rw [cJ (by omega) (by omega)];omega) (by omega) (by omega) (by rw [ei];exact eX _)];have hd:(List.take (st.length+1) (o8 (a::st))).drop st.length=[((cS st+a.size:Nat):Int)-1]:=by
       rw [s8 (by rw [ei];exact eX _)];simp only [o8];rw [LM (by rw [ei];exact eX _),Ec (by rw [ei];exact eX _),lz]
      rw [hd];simp only [bh,pp];rw [me (cS st+a.size-1) (by omega)];have Q:=HJ a st [];rw [yH]at Q;simp only [NC];rw [Q];simp only [bh];rw [me 0 rfl];simp only [J9,bh];have I_:([(-1:Int),-1].set ((0:Nat):Int).toNat (((cS st+a.size:Nat):Int)-1))=[((cS st+a.size:Nat):Int)-1,-1]:=rfl;rw [I_];by_cases hL:n.L=((cS st+a.size:Nat):Int)-1/\n.R= -1
      ·have K:(n.L==((cS st+a.size:Nat):Int)-1&&n.R== -1)=true:=by simp [hL]
       rw [bq K,aZ (by rw [hL.1,hL.2];simp)];rw [cK (by simp only [jr,tZ,jY,xu,vu];omega)];simp only [bh];rw [mo (i:=0) 0 st.length rfl (by rw [ei,cJ (by simp<;>omega) (by simp<;>omega)];simp) (kY _) (by rw [ei];simp)];have Y:(List.take st.length (o8 (a::st))).drop 0=o8 st:=by
        simp only [o8,vj];rw [Bu (by rw [ei];exact eX _),s8 (by rw [ei];exact eX _)]
       rw [Y];simp only [bh];rw [cK (by simp only [jr,tZ,ei];omega)];simp only [bh];have V:=ih (.un (kS n (-1) (-1)) a::st) (by simp [cS,Tr.size];omega);simp only [cS,Tr.size,NC,fl,o8]at V;rw [show(((cS st+(a.size+1):Nat):Int)-1)=((cS st+a.size:Nat):Int)from by omega]at V;have hm:min ((cS (a::st):Nat):Int) (cS st:Int)=(cS st:Int):=by simp only [cS];omega
       rw [hm];simp only [gJ]at V ⊢;exact V
      ·have K:(n.L==((cS st+a.size:Nat):Int)-1&&n.R== -1)=false:=by
        rw [BJ];intro h;apply hL;simpa using h
       rw [K];rw [bq (by
        simp only [FS,GK];intro h;have D:((cS st+a.size:Nat):Int)-1=n.L:=by injection h
        have V:(-1:Int)=n.R:=by injection h with _ h;injection h
        exact hL ⟨D.symm,V.symm⟩)]
       simp
   ·-- two
    cases st with
    |nil=>simp
    |cons b st=>
     cases st with
     |nil=>simp
     |cons a st=>
      simp only [];have c1:(decide (((2:Nat):Int)<0)||decide (((b::a::st).length:Int)<((2:Nat):Int)))=false:=by simp;omega
      simp only [c1,xV,mF,bh]
      cases hc:LL n with
      |false=>simp
      |true=>
       simp only [s6,qD,lS,sX];simp only [jr]at hll ⊢;simp only [cS]at hs hll;have hap:=a.size_pos;have hbp:=b.size_pos;rw [mo st.length (st.length+1+1) (by rw [cJ (by omega) (by omega)];omega) (by omega) (by omega) (by rw [ei];exact eX _)];have hd:(List.take (st.length+1+1) (o8 (b::a::st))).drop st.length=[((cS st+a.size:Nat):Int)-1,((cS st+a.size+b.size:Nat):Int)-1]:=by
        rw [s8 (by rw [ei];exact eX _)];simp only [o8,cS,gJ];rw [LM (by rw [ei];exact eX _),Ec (by rw [ei];exact eX _),lz];rfl
       rw [hd];simp only [bh,pp];simp only [NC,cS];rw [me (cS st+a.size-1) (by omega)];rw [HJ a st (fl b (cS st+a.size))];simp only [bh];rw [me 0 rfl];simp only [J9,bh];have I_:([(-1:Int),-1].set ((0:Nat):Int).toNat (((cS st+a.size:Nat):Int)-1))=[((cS st+a.size:Nat):Int)-1,-1]:=rfl;rw [I_];rw [me (cS st+a.size+b.size-1) (by omega)];have Q:=HJ b (a::st) [];rw [yH]at Q;simp only [NC,cS]at Q;rw [Q];simp only [bh];rw [me (0+1) rfl];simp only [List.getElem?_cons_succ,J9,bh];have hset2:([((cS st+a.size:Nat):Int)-1,-1].set ((0+1:Nat):Int).toNat (((cS st+a.size+b.size:Nat):Int)-1))=[((cS st+a.size:Nat):Int)-1,((cS st+a.size+b.size:Nat):Int)-1]:=rfl;rw [hset2];by_cases hL:n.L=((cS st+a.size:Nat):Int)-1/\n.R=((cS st+a.size+b.size:Nat):Int)-1
       ·have K:(n.L==((cS st+a.size:Nat):Int)-1&&n.R==((cS st+a.size+b.size:Nat):Int)-1)=true:=by rw [hL.1,hL.2];simp
        rw [bq K,aZ (by rw [hL.1,hL.2];simp)];rw [cK (by simp only [jr,tZ,jY,xu,vu];omega)];simp only [bh];rw [mo (i:=0) 0 st.length rfl (by rw [ei,cJ (by simp;omega) (by simp;omega)];simp;omega) (kY _) (by rw [ei];simp;omega)];have Y:(List.take st.length (o8 (b::a::st))).drop 0=o8 st:=by
         simp only [o8,vj,gJ];rw [Bu (by rw [ei];exact eX _),s8 (by rw [ei];exact eX _)]
        rw [Y];simp only [bh];rw [cK (by simp only [jr,tZ,ei];omega)];simp only [bh];have V:=ih (.bi (kS n (-1) (-1)) a b::st) (by simp [cS,Tr.size];omega);simp only [cS,Tr.size,NC,fl,o8]at V;rw [show(((cS st+(a.size+b.size+1):Nat):Int)-1)=((cS st+a.size+b.size:Nat):Int)from by omega,show cS st+(a.size+b.size+1)=cS st+a.size+b.size+1 from by omega]at V;have hm:min (min (((cS st+a.size+b.size:Nat)):Int) (cS st:Int)) ((cS st+a.size:Nat):Int)=(cS st:Int):=by omega
        rw [hm];simp only [gJ]at V ⊢;exact V
       ·have K:(n.L==((cS st+a.size:Nat):Int)-1&&n.R==((cS st+a.size+b.size:Nat):Int)-1)=false:=by
         rw [BJ];intro h;apply hL;simpa using h
        rw [K];rw [bq (by
         simp only [FS,GK];intro h;have D:((cS st+a.size:Nat):Int)-1=n.L:=by injection h
         have V:((cS st+a.size+b.size:Nat):Int)-1=n.R:=by injection h with _ h;injection h
         exact hL ⟨D.symm,V.symm⟩)]
        simp
