/- cE of this claim: K1, K6, K2, K3, K4, L1, L2. -/
import Derived.Test.YtdohlidddcgfjaaGreatFcF
import Derived.KernelRfl
import Derived.Test.YtdohlidddcgfjaaGreatFcV4
set_option linter.all false
namespace Go.Proofs.YtdohlidddcgfjaaGreat
open Go

abbrev Row:=List aC
variable{α:Type}{xs:List α}
def cd{ys:List α}(h:xs.length+ys.length<=68719476736):app xs ys=some (xs++ys):=bJ h
def kp(v:aC):Bool:=(jD v).getD false
def Ew(v:aC):jD v=some (kp v):=by
 unfold kp jD
 repeat' split
 all_goals rfl
variable{n:av}
def uq(v:aC):iU v=some (if kp v then 0 else 120):=by
 obtain⟨k,n,u,ac⟩:=v
 unfold kp jD iU xU
 simp only [lL,rK,rJ,rG]
 by_cases h0:k=0
 ·subst h0;simp
  repeat' split
  all_goals simp_all
 by_cases X:k=1
 ·subst X
  by_cases n0:n=0
  ·subst n0;simp
   repeat' split
   all_goals simp_all
  by_cases n1:n=1
  ·subst n1;simp
   repeat' split
   all_goals simp_all
  simp [n0,n1]
 by_cases K:k=2
 ·subst K;simp
  repeat' split
  all_goals simp_all
 by_cases h3:k=3
 ·subst h3;simp
  repeat' split
  all_goals simp_all
 by_cases h4:k=4
 ·subst h4;simp
  repeat' split
  all_goals simp_all
 simp [h0,X,K,h3,h4]

def nb(r:Nat):Nat:=if r%2=1 then(r/2)^^^2197175160 else r/2
def nb8(r:Nat):Nat:=nb (nb (nb (nb (nb (nb (nb (nb r)))))))
def vV(b:List Int):Prop:= ∀x∈b,∃c:Nat,c<256/\x=(c:Int)
def D7:List Int:=(List.range 256).map fun i=>(nb8 i:Int)
def p7{a b:List Int}(ha:vV a)(H:vV b):vV (a++b):=fun x V=>(uW.1 V).elim (ha x) (H x)
def DD(n:Int):vV [IntKind.u8.wrap n]:=fun x V=>by
 rw [zW.1 V]
 exact⟨(IntKind.u8.wrap n).toNat,by rw [zD];omega,by rw [zD];omega⟩
def PA(ac:N1):vV (mj ac):=fun x V=>by
 obtain⟨b,_,rfl⟩:=AS.1 V
 exact⟨b.toNat,UInt8.toNat_lt b,rfl⟩
def uM(n:Nat):Nat->List Int
 |0=>[]
 |k+1=>((n/256^k%256:Nat):Int)::uM n k
def Fk(n:Nat): ∀k,(uM n k).length=k
 |0=>rfl
 |k+1=>by simp [uM,Fk n k]

structure Cmp{α:Type}(f:α->α->Int):Prop where
 rng: ∀x y,f x y= -1\/f x y=0\/f x y=1
 anti: ∀x y,f y x= -f x y
 eq: ∀x y,f x y=0↔x=y
 trans: ∀x y z,f x y<=0->f y z<=0->f x z<=0
def key(v:aC):Int×Int×Int×N1:=(v.Kind,v.N,v.U,v.S)

section
variable{f:α->α->Int}
def ltB(f:α->α->Int)(x y:α):Bool:=decide (f x y<0)
def srt(f:α->α->Int)(l:List α):List α:=VG (ltB f) l
def put(f:α->α->Int)(x:α):List α->List α
 |[]=>[x]
 |y::l=>if f x y<0 then x::y::l else y::put f x l
end
def yG{α:Type} [DecidableEq α]:α->List α->List α
 |_,[]=>[]
 |p,x::t=>if x=p then yG x t else x::yG x t
def KE [DecidableEq α](p:α):yG p []=[]:=by unfold yG;rfl
def Hi [DecidableEq α]{p x:α}(h:x=p)(t:List α):yG p (x::t)=yG x t:=by
 conv=>lhs;unfold yG
 rw [bJ h]
def NN [DecidableEq α]{p x:α}(h: ¬x=p)(t:List α):yG p (x::t)=x::yG x t:=by
 conv=>lhs;unfold yG
 rw [bk h]
def NM{α:Type} [DecidableEq α]:List α->List α
 |[]=>[]
 |x::t=>x::yG x t
def Fg{α:Type} [DecidableEq α]: ∀(p:α) (l:List α) (z:α),z∈yG p l->z∈l
 |p,x::t,z,h=>by
  unfold yG at h
  split at h
  ·exact ry _ (Fg x t z h)
  ·rcases kj.1 h with rfl|h
   ·exact qa ..
   ·exact ry _ (Fg x t z h)
def EN{α:Type} [DecidableEq α]: ∀(p:α) (l:List α) (z:α),z∈l->z=p\/z∈yG p l
 |p,x::t,z,h=>by
  unfold yG
  by_cases V:x=p
  ·rw [bJ V]
   rcases kj.1 h with rfl|h
   ·exact .inl V
   ·rcases EN x t z h with h|h
    ·exact .inl (h.trans V)
    ·exact .inr h
  ·rw [bk V]
   rcases kj.1 h with rfl|h
   ·exact .inr (qa ..)
   ·rcases EN x t z h with h|h
    ·exact .inr (by rw [h];exact qa ..)
    ·exact .inr (ry _ h)
def O8 [DecidableEq α](l:List α)(z:α):z∈NM l↔z∈l:=by
 cases l with
 |nil=>exact uk
 |cons x t=>
  constructor
  ·intro h
   rcases kj.1 h with rfl|h
   ·exact qa ..
   ·exact ry _ (Fg x t z h)
  ·intro h
   rcases kj.1 h with rfl|h
   ·exact qa ..
   ·rcases EN x t z h with rfl|h
    ·exact qa ..
    ·exact ry _ h

structure Small(l:List Row):Prop where
 len:l.length<=8000
 row: ∀r∈l,r.length<=1000
def fg{n:Int}(h: -9223372036854775808<=n)(K:n<=9223372036854775807):IntKind.i64.wrap n=n:=by rw [rF];omega
def t7{l m:Nat}(h:l<=m)(K:m<=xs.length):eX xs (l:Int) (m:Int)=some ((xs.take m).drop l):=by
 unfold eX
 rw [bJ (by omega)]
 simp

def lB{i j:Int}(l m:Nat)(hi:i=(l:Int))(hj:j=(m:Int))(h:l<=m)(K:m<=xs.length):eX xs i j=some ((xs.take m).drop l):=by
 subst hi hj;exact t7 h K
def m6{i:Int}(k:Nat)(hi:i=(k:Int)):gB xs i=xs[k]? :=by subst hi;exact eu _ _
def vM(v:aC):Bool:=kp v&&(v.Kind !=4)
def D1(v:aC):u4 v=some (vM v):=by
 unfold u4 vM
 rw [uq]
 cases kp v<;>simp
def pM(v:aC):vi v=some (vM v):=by
 unfold vi vM
 rw [Ew]
 rfl
def JQ{v:aC}(h:vM v=true):0<=v.Kind/\v.Kind<=3:=by
 obtain⟨k,n,u,ac⟩:=v
 unfold vM kp jD at h
 simp only [pt,xP,ne_eq]at h
 obtain⟨X,K⟩:=h
 by_cases h0:k=0
 ·simp [h0]
 by_cases k1:k=1
 ·simp [k1]
 by_cases k2:k=2
 ·simp [k2]
 by_cases k3:k=3
 ·simp [k3]
 simp [h0,k1,k2,k3,K]at X
def pk(tag:Int):Option Nat:=if tag=1\/tag=2 then some 0 else if 4<=tag/\tag<=7 then some 1 else if 12<=tag/\tag<=23 then some 2 else none
def Ic(tag:Int):Int:=match pk tag with
 |some k=>(k:Int)
 |none=> -1
def zR(tag:Int):sO tag=some (Ic tag):=by
 unfold sO Ic pk
 by_cases X:tag=1\/tag=2
 ·rw [bJ X,bJ (by simpa using X)];rfl
 rw [bk X,bk (by simpa using X)]
 by_cases K:4<=tag/\tag<=7
 ·rw [bJ K,bJ (by simpa using K)];rfl
 rw [bk K,bk (by simpa using K)]
 by_cases h3:12<=tag/\tag<=23
 ·rw [bJ h3,bJ (by simpa using h3)];rfl
 rw [bk h3,bk (by simpa using h3)]
def rO(tag:Int):vf tag=some (Ic tag):=by
 unfold vf ye Ic pk
 by_cases X:tag=1\/tag=2
 ·rw [bJ X];rcases X with rfl|rfl<;>rfl
 rw [bk X]
 by_cases K:4<=tag/\tag<=7
 ·rw [bJ K]
  have:tag=4\/tag=5\/tag=6\/tag=7:=by omega
  rcases this with rfl|rfl|rfl|rfl<;>rfl
 rw [bk K]
 by_cases h3:12<=tag/\tag<=23
 ·rw [bJ h3,bk (by simp;omega),bk (by simp;omega),bk (by simp;omega),bk (by simp;omega)];rfl
 rw [bk h3]
 by_cases h4:tag=3\/(8<=tag/\tag<=11)
 ·rw [bJ (by simpa using h4)]
 rw [bk (by simpa using h4),bJ (by simp;omega)]
 rfl
def C7(n:av):Bool:=(ka n).getD false
def kX(n:av):ka n=some (C7 n):=by
 unfold C7 ka
 rw [pM]
 split
 ·rfl
 ·split<;>rfl
def E9(n:av):vw n=some (C7 n):=by
 rw [<-kX]
 unfold vw ka
 rw [pM,D1]
inductive Tr where
 |lf (n:av)
 |un (n:av) (a:Tr)
 |bi (n:av) (a b:Tr)
 deriving Inhabited
def Tr.size:Tr->Nat
 | .lf _=>1
 | .un _ a=>a.size+1
 | .bi _ a b=>a.size+b.size+1
def jU(n:av)(l r:Int):av:={n with L:=l,R:=r}
def Tr.flat:Tr->Nat->List av
 | .lf n,_=>[jU n (-1) (-1)]
 | .un n a,ac=>a.flat ac++[jU n ((ac+a.size:Nat)-1) (-1)]
 | .bi n a b,ac=>a.flat ac++b.flat (ac+a.size)++[jU n ((ac+a.size:Nat)-1) ((ac+a.size+b.size:Nat)-1)]
def WR(k:Nat)(n:av):Prop:=pk n.Tag=some k/\C7 n=true/\n.L= -1/\n.R= -1
def Tr.wf:Tr->Prop
 | .lf n=>WR 0 n
 | .un n a=>WR 1 n/\a.wf
 | .bi n a b=>WR 2 n/\a.wf/\b.wf
def Tr.size_pos(t:Tr):0<t.size:=by cases t<;>simp [Tr.size]
def Tr.flat_len(t:Tr): ∀ac,(t.flat ac).length=t.size:=by
 induction t with
 |lf n=>intro ac;rfl
 |un n a ih=>intro ac;simp [Tr.flat,Tr.size,ih]
 |bi n a b iha ihb=>intro ac;simp [Tr.flat,Tr.size,iha,ihb];omega
def cS:List Tr->Nat
 |[]=>0
 |t::st=>cS st+t.size
def xx:List Tr->List av
 |[]=>[]
 |t::st=>xx st++t.flat (cS st)
def Hb: ∀st:List Tr,(xx st).length=cS st
 |[]=>rfl
 |t::st=>by simp [xx,cS,Hb st,t.flat_len]
def GD: ∀st:List Tr,st.length<=cS st
 |[]=>eJ _
 |t::st=>by have:=GD st;have:=t.size_pos;simp [cS];omega
def push(st:List Tr)(n:av):Option (List Tr):=
 match pk n.Tag,st with
 |some 0,st=>if C7 n&&n.L== -1&&n.R== -1 then some (.lf (jU n (-1) (-1))::st)else none
 |some 1,a::st=>if C7 n&&n.L==((cS st+a.size:Nat):Int)-1&&n.R== -1 then some (.un (jU n (-1) (-1)) a::st)else none
 |some 2,b::a::st=>if C7 n&&n.L==((cS st+a.size:Nat):Int)-1&&n.R==((cS st+a.size+b.size:Nat):Int)-1 then some (.bi (jU n (-1) (-1)) a b::st)else none
 |_,_=>none
def rk:List av->List Tr->Option (List Tr)
 |[],st=>some st
 |n::ns,st=>(push st n).bind (rk ns)
def wfs(st:List Tr):Prop:= ∀t∈st,t.wf
def y0{l r:Int}(h:n.L=l)(K:n.R=r):jU (jU n (-1) (-1)) l r=n:=by subst h K;rfl
def IJ{l r:Int}:C7 (jU n l r)=C7 n:=rfl
def OX{st st' :List Tr}(h:push st n=some st')(hw:wfs st):xx st' =xx st++[n]/\cS st' =cS st+1/\wfs st' :=by
 unfold push at h
 split at h
 ·rename_i k st0 hk
  split at h
  ·rename_i hc
   simp only [pt,vC]at hc
   obtain⟨⟨X,K⟩,h3⟩:=hc
   cases h
   refine⟨?_,rfl,fun t D=>?_⟩
   ·simp only [xx,Tr.flat]
    rw [y0 K h3]
   ·rcases kj.1 D with rfl|D
    ·exact⟨hk,X,rfl,rfl⟩
    ·exact hw t D
  ·cases h
 ·rename_i k a st0 hk
  split at h
  ·rename_i hc
   simp only [pt,vC]at hc
   obtain⟨⟨X,K⟩,h3⟩:=hc
   cases h
   refine⟨?_,by simp [cS,Tr.size];omega,fun t D=>?_⟩
   ·simp only [xx,Tr.flat]
    rw [y0 K h3,pe]
   ·rcases kj.1 D with rfl|D
    ·exact⟨⟨hk,X,rfl,rfl⟩,hw a (qa ..)⟩
    ·exact hw t (ry _ D)
  ·cases h
 ·rename_i k b a st0 hk
  split at h
  ·rename_i hc
   simp only [pt,vC]at hc
   obtain⟨⟨X,K⟩,h3⟩:=hc
   cases h
   refine⟨?_,by simp [cS,Tr.size];omega,fun t D=>?_⟩
   ·simp only [xx,Tr.flat,cS]
    rw [y0 K h3]
    simp only [pe]
   ·rcases kj.1 D with rfl|D
    ·exact⟨⟨hk,X,rfl,rfl⟩,hw a (ry _ (qa ..)),hw b (qa ..)⟩
    ·exact hw t (ry _ (ry _ D))
  ·cases h
 ·cases h
variable{ns:List av}
def Ai: ∀{ns:List av} {st st' :List Tr},rk ns st=some st' ->wfs st->xx st' =xx st++ns/\wfs st'
 |[],st,st',h,hw=>by cases h;simp [hw]
 |n::ns,st,st',h,hw=>by
  unfold rk at h
  cases hp:push st n with
  |none=>rw [hp]at h;cases h
  |some st1=>
   rw [hp]at h
   obtain⟨X,_,h3⟩:=OX hp hw
   obtain⟨h4,h5⟩:=Ai (ns:=ns) h h3
   exact⟨by rw [h4,X];simp,h5⟩
def tP: ∀(ns ms:List av) (st:List Tr),rk (ns++ms) st=(rk ns st).bind (rk ms)
 |[],ms,st=>rfl
 |n::ns,ms,st=>by
  simp only [FJ,rk]
  cases push st n with
  |none=>rfl
  |some st1=>exact tP ns ms st1
def LA(t:Tr): ∀(st:List Tr),t.wf->rk (t.flat (cS st)) st=some (t::st):=by
 induction t with
 |lf n=>
  intro st ⟨X,K,h3,h4⟩
  have hn' :jU n (-1) (-1)=n:=by cases n;simp only at h3 h4;subst h3 h4;rfl
  simp only [Tr.flat,rk,push,hn']
  rw [X]
  simp [K,h3,h4,rk,hn']
 |un n a ih=>
  intro st ⟨⟨X,K,h3,h4⟩,ha⟩
  have hn' :jU n (-1) (-1)=n:=by cases n;simp only at h3 h4;subst h3 h4;rfl
  simp only [Tr.flat]
  rw [tP,ih st ha]
  simp only [bG,rk,push]
  have e1:(jU n (((cS st+a.size:Nat):Int)-1) (-1)).Tag=n.Tag:=rfl
  rw [e1,X]
  have e2:C7 (jU n (((cS st+a.size:Nat):Int)-1) (-1))=true:=K
  rw [e2]
  simp only [jU,beq_self_eq_true,Bool.and_self,mG,bG,rk]
  simp only [jU]at hn'
  rw [hn']
 |bi n a b iha ihb=>
  intro st ⟨⟨X,K,h3,h4⟩,ha,H⟩
  have hn' :jU n (-1) (-1)=n:=by cases n;simp only at h3 h4;subst h3 h4;rfl
  simp only [Tr.flat]
  rw [tP,tP,iha st ha]
  simp only [bG]
  have e0:cS st+a.size=cS (a::st):=rfl
  rw [e0,ihb (a::st) H]
  simp only [bG,rk,push]
  have e1:(jU n (((cS (a::st):Nat):Int)-1) (((cS (a::st)+b.size:Nat):Int)-1)).Tag=n.Tag:=rfl
  rw [e1,X]
  have e2:C7 (jU n (((cS (a::st):Nat):Int)-1) (((cS (a::st)+b.size:Nat):Int)-1))=true:=K
  rw [e2]
  simp only [jU,cS,beq_self_eq_true,Bool.and_self,mG,bG,rk]
  simp only [jU]at hn'
  rw [hn']
def sr(ns:List av):Option Tr:=match rk ns []with
 |some [t]=>if ns.length<=1000 then some t else none
 |_=>none
def nR{t:Tr}(h:sr ns=some t):t.wf/\ns=t.flat 0/\t.size<=1000:=by
 unfold sr at h
 split at h
 ·rename_i t0 hp
  split at h
  ·rename_i hl
   cases h
   obtain⟨X,K⟩:=Ai hp (fun t D=>by cases D)
   simp only [xx,cS,oY]at X
   exact⟨K t (qa ..),X.symm,by rw [<-t.flat_len 0,X];exact hl⟩
  ·cases h
 ·cases h
def Jq{t:Tr}(h:t.wf)(hs:t.size<=1000):sr (t.flat 0)=some t:=by
 unfold sr
 have h0:=LA t [] h
 simp only [cS]at h0
 rw [h0]
 simp only [t.flat_len,hs,mG]
def fl:Tr->Nat->List Int
 | .lf _,ac=>[(ac:Int)]
 | .un _ a,ac=>fl a ac++[(ac:Int)]
 | .bi _ a b,ac=>fl a ac++fl b (ac+a.size)++[(ac:Int)]
def Pp:List Tr->List Int
 |[]=>[]
 |t::st=>Pp st++fl t (cS st)
def nZ:List Tr->List Int
 |[]=>[]
 |t::st=>nZ st++[((cS st+t.size:Nat):Int)-1]
def w9(t:Tr): ∀ac,(fl t ac).length=t.size:=by
 induction t with
 |lf n=>intro ac;rfl
 |un n a ih=>intro ac;simp [fl,Tr.size,ih]
 |bi n a b iha ihb=>intro ac;simp [fl,Tr.size,iha,ihb];omega
def vp: ∀st:List Tr,(Pp st).length=cS st
 |[]=>rfl
 |t::st=>by simp [Pp,cS,vp st,w9]
def ed: ∀st:List Tr,(nZ st).length=st.length
 |[]=>rfl
 |t::st=>by simp [nZ,ed st]
def TV(t:Tr)(ac:Nat):(fl t ac)[t.size-1]? =some (ac:Int):=by
 cases t with
 |lf n=>rfl
 |un n a=>simp only [fl,Tr.size];rw [xC (by rw [w9];omega),w9];simp
 |bi n a b=>simp only [fl,Tr.size];rw [xC (by simp [w9]),mq,w9,w9];simp
def EW(t:Tr)(st:List Tr)(rest:List Int):(Pp st++fl t (cS st)++rest)[cS st+t.size-1]? =some (cS st:Int):=by
 have:=t.size_pos
 rw [AP (by rw [mq,vp,w9];omega),xC (by rw [vp];omega),vp,show cS st+t.size-1-cS st=t.size-1 from by omega]
 exact TV t _
def Pq: ∀(ns:List av) (st:List Tr),cS st+ns.length<=100000->mb ns (cS st) (Pp st) (nZ st)=some (match rk ns st with
   |some st' =>(Pp st',decide (st'.length=1)&&decide (cS st' <=1000))
   |none=>([],false)):=by
 intro ns
 induction ns with
 |nil=>
  intro st _
  simp only [mb,rk,ed,vp]
  congr 2
  congr 1
  ·rw [AJ];simp;omega
  ·rw [AJ];simp;omega
 |cons n ns ih=>
  intro st hs
  simp only [iG]at hs
  have hll:=GD st
  unfold mb
  rw [zR]
  simp only [bG,ed,E9]
  unfold rk
  unfold push
  -- the parts
  cases hk:pk n.Tag with
  |none=>
   have e:Ic n.Tag= -1:=by unfold Ic;rw [hk]
   simp [e]
  |some k=>
   have e:Ic n.Tag=(k:Int):=by unfold Ic;rw [hk]
   have hk3:k=0\/k=1\/k=2:=by
    unfold pk at hk
    repeat' split at hk
    all_goals simp at hk
    all_goals omega
   rw [e]
   rcases hk3 with rfl|rfl|rfl
   ·-- none
    simp only []
    have c1:(decide (((0:Nat):Int)<0)||decide ((st.length:Int)<((0:Nat):Int)))=false:=by simp
    simp only [c1,AU,mG,bG]
    cases hc:C7 n with
    |false=>simp
    |true=>
     simp only [ug,r0,oV,oX]
     rw [lB st.length st.length (by rw [fg (by omega) (by omega)];omega) rfl (eJ _) (by rw [ed];exact eJ _)]
     have hd:(List.take st.length (nZ st)).drop st.length=[]:=Hx (by simp;omega)
     simp only [hd,bG,nK]
     by_cases hL:n.L= -1/\n.R= -1
     ·have H:(n.L== -1&&n.R== -1)=true:=by simp [hL]
      rw [bJ H,bk (by simp [hL.1,hL.2])]
      rw [cd (by simp only [iG,vX,vp];omega)]
      simp only [bG]
      rw [lB (i:=0) 0 st.length rfl (by rw [ed,fg (by omega) (by omega)];omega) (oW _) (by rw [ed];exact eJ _)]
      rw [uj (by rw [ed];exact eJ _),zr]
      simp only [bG]
      rw [cd (by simp only [iG,vX,ed];omega)]
      simp only [bG]
      have K:=ih (.lf (jU n (-1) (-1))::st) (by simp [cS,Tr.size];omega)
      simp only [cS,Tr.size,Pp,fl,nZ]at K
      rw [show(((cS st+1:Nat):Int)-1)=(cS st:Int)from by omega]at K
      exact K
     ·have H:(n.L== -1&&n.R== -1)=false:=by
       rw [AX];intro h;apply hL;simpa using h
      rw [H]
      rw [bJ (by
       simp only [DI,MN]
       intro h
       have X:(-1:Int)=n.L:=by injection h
       have K:(-1:Int)=n.R:=by injection h with _ h;injection h
       exact hL ⟨X.symm,K.symm⟩)]
      simp
   ·-- one
    cases st with
    |nil=>simp
    |cons a st=>
     simp only []
     have c1:(decide (((1:Nat):Int)<0)||decide (((a::st).length:Int)<((1:Nat):Int)))=false:=by simp;omega
     simp only [c1,AU,mG,bG]
     cases hc:C7 n with
     |false=>simp
     |true=>
      simp only [ug,r0,oV,oX]
      simp only [iG]at hll ⊢
      simp only [cS]at hs hll
      have hap:=a.size_pos
      rw [lB st.length (st.length+1) (by rw [fg (by omega) (by omega)];omega) (by omega) (by omega) (by rw [ed];exact eJ _)]
      have hd:(List.take (st.length+1) (nZ (a::st))).drop st.length=[((cS st+a.size:Nat):Int)-1]:=by
       rw [uj (by rw [ed];exact eJ _)]
       simp only [nZ]
       rw [I6 (by rw [ed];exact eJ _),Hx (by rw [ed];exact eJ _),oY]
      rw [hd]
      simp only [bG,nK]
      rw [m6 (cS st+a.size-1) (by omega)]
      have hf:=EW a st []
      rw [qC]at hf
      simp only [Pp]
      rw [hf]
      simp only [bG]
      rw [m6 0 rfl]
      simp only [Gl,bG]
      have hset:([(-1:Int),-1].set ((0:Nat):Int).toNat (((cS st+a.size:Nat):Int)-1))=[((cS st+a.size:Nat):Int)-1,-1]:=rfl
      rw [hset]
      by_cases hL:n.L=((cS st+a.size:Nat):Int)-1/\n.R= -1
      ·have H:(n.L==((cS st+a.size:Nat):Int)-1&&n.R== -1)=true:=by simp [hL]
       rw [bJ H,bk (by rw [hL.1,hL.2];simp)]
       rw [cd (by simp only [iG,vX,mq,vp,w9];omega)]
       simp only [bG]
       rw [lB (i:=0) 0 st.length rfl (by rw [ed,fg (by simp<;>omega) (by simp<;>omega)];simp) (oW _) (by rw [ed];simp)]
       have D:(List.take st.length (nZ (a::st))).drop 0=nZ st:=by
        simp only [nZ,zr]
        rw [Dh (by rw [ed];exact eJ _),uj (by rw [ed];exact eJ _)]
       rw [D]
       simp only [bG]
       rw [cd (by simp only [iG,vX,ed];omega)]
       simp only [bG]
       have K:=ih (.un (jU n (-1) (-1)) a::st) (by simp [cS,Tr.size];omega)
       simp only [cS,Tr.size,Pp,fl,nZ]at K
       rw [show(((cS st+(a.size+1):Nat):Int)-1)=((cS st+a.size:Nat):Int)from by omega]at K
       have hm:min ((cS (a::st):Nat):Int) (cS st:Int)=(cS st:Int):=by simp only [cS];omega
       rw [hm]
       simp only [pe]at K ⊢
       exact K
      ·have H:(n.L==((cS st+a.size:Nat):Int)-1&&n.R== -1)=false:=by
        rw [AX];intro h;apply hL;simpa using h
       rw [H]
       rw [bJ (by
        simp only [DI,MN]
        intro h
        have X:((cS st+a.size:Nat):Int)-1=n.L:=by injection h
        have K:(-1:Int)=n.R:=by injection h with _ h;injection h
        exact hL ⟨X.symm,K.symm⟩)]
       simp
   ·-- two
    cases st with
    |nil=>simp
    |cons b st=>
     cases st with
     |nil=>simp
     |cons a st=>
      simp only []
      have c1:(decide (((2:Nat):Int)<0)||decide (((b::a::st).length:Int)<((2:Nat):Int)))=false:=by simp;omega
      simp only [c1,AU,mG,bG]
      cases hc:C7 n with
      |false=>simp
      |true=>
       simp only [ug,r0,oV,oX]
       simp only [iG]at hll ⊢
       simp only [cS]at hs hll
       have hap:=a.size_pos
       have hbp:=b.size_pos
       rw [lB st.length (st.length+1+1) (by rw [fg (by omega) (by omega)];omega) (by omega) (by omega) (by rw [ed];exact eJ _)]
       have hd:(List.take (st.length+1+1) (nZ (b::a::st))).drop st.length=[((cS st+a.size:Nat):Int)-1,((cS st+a.size+b.size:Nat):Int)-1]:=by
        rw [uj (by rw [ed];exact eJ _)]
        simp only [nZ,cS,pe]
        rw [I6 (by rw [ed];exact eJ _),Hx (by rw [ed];exact eJ _),oY]
        rfl
       rw [hd]
       simp only [bG,nK]
       simp only [Pp,cS]
       rw [m6 (cS st+a.size-1) (by omega)]
       rw [EW a st (fl b (cS st+a.size))]
       simp only [bG]
       rw [m6 0 rfl]
       simp only [Gl,bG]
       have hset:([(-1:Int),-1].set ((0:Nat):Int).toNat (((cS st+a.size:Nat):Int)-1))=[((cS st+a.size:Nat):Int)-1,-1]:=rfl
       rw [hset]
       rw [m6 (cS st+a.size+b.size-1) (by omega)]
       have hf:=EW b (a::st) []
       rw [qC]at hf
       simp only [Pp,cS]at hf
       rw [hf]
       simp only [bG]
       rw [m6 (0+1) rfl]
       simp only [List.getElem?_cons_succ,Gl,bG]
       have hset2:([((cS st+a.size:Nat):Int)-1,-1].set ((0+1:Nat):Int).toNat (((cS st+a.size+b.size:Nat):Int)-1))=[((cS st+a.size:Nat):Int)-1,((cS st+a.size+b.size:Nat):Int)-1]:=rfl
       rw [hset2]
       by_cases hL:n.L=((cS st+a.size:Nat):Int)-1/\n.R=((cS st+a.size+b.size:Nat):Int)-1
       ·have H:(n.L==((cS st+a.size:Nat):Int)-1&&n.R==((cS st+a.size+b.size:Nat):Int)-1)=true:=by rw [hL.1,hL.2];simp
        rw [bJ H,bk (by rw [hL.1,hL.2];simp)]
        rw [cd (by simp only [iG,vX,mq,vp,w9];omega)]
        simp only [bG]
        rw [lB (i:=0) 0 st.length rfl (by rw [ed,fg (by simp;omega) (by simp;omega)];simp;omega) (oW _) (by rw [ed];simp;omega)]
        have D:(List.take st.length (nZ (b::a::st))).drop 0=nZ st:=by
         simp only [nZ,zr,pe]
         rw [Dh (by rw [ed];exact eJ _),uj (by rw [ed];exact eJ _)]
        rw [D]
        simp only [bG]
        rw [cd (by simp only [iG,vX,ed];omega)]
        simp only [bG]
        have K:=ih (.bi (jU n (-1) (-1)) a b::st) (by simp [cS,Tr.size];omega)
        simp only [cS,Tr.size,Pp,fl,nZ]at K
        rw [show(((cS st+(a.size+b.size+1):Nat):Int)-1)=((cS st+a.size+b.size:Nat):Int)from by omega,show cS st+(a.size+b.size+1)=cS st+a.size+b.size+1 from by omega]at K
        have hm:min (min (((cS st+a.size+b.size:Nat)):Int) (cS st:Int)) ((cS st+a.size:Nat):Int)=(cS st:Int):=by omega
        rw [hm]
        simp only [pe]at K ⊢
        exact K
       ·have H:(n.L==((cS st+a.size:Nat):Int)-1&&n.R==((cS st+a.size+b.size:Nat):Int)-1)=false:=by
         rw [AX];intro h;apply hL;simpa using h
        rw [H]
        rw [bJ (by
         simp only [DI,MN]
         intro h
         have X:((cS st+a.size:Nat):Int)-1=n.L:=by injection h
         have K:((cS st+a.size+b.size:Nat):Int)-1=n.R:=by injection h with _ h;injection h
         exact hL ⟨X.symm,K.symm⟩)]
        simp

def pj{n:Nat}(h:n<=1000000):n<=dk:=by unfold dk;omega
def nw(ns:List av):Bool:=(sr ns).isSome
def JU{st:List Tr}(h:rk ns []=some st):cS st=ns.length:=by
 have:=(Ai h (fun t D=>by cases D)).1
 rw [<-Hb,this];simp [xx]
def zS(e:aW)(h:e.Nodes.length<=100000):uK e=some (if nw e.Nodes then 0 else 200):=by
 unfold uK yF nw sr
 have:=Pq e.Nodes [] (by simpa [cS] using h)
 simp only [cS,Pp,nZ]at this
 rw [this]
 cases hp:rk e.Nodes []with
 |none=>rfl
 |some st=>
  have hsz:=JU hp
  match st,hsz with
  |[],_=>rfl
  |[t],hsz=>
   simp only [bG,hsz]
   by_cases hl:e.Nodes.length<=1000<;>simp [hl]
  |t::t2::st,_=>simp
def Ti(t:Tr):t.wf-> ∀(P R N:List av) (fu:Nat),N=P++t.flat P.length++R->t.size<=fu->N.length<=100000->jj fu ⟨N⟩ (((P.length+t.size:Nat):Int)-1)=some (t.size:Int):=by
 induction t with
 |lf n=>
  intro⟨X,K,h3,h4⟩ P R N fu hN hf hl
  have hNl:=congrArg List.length hN
  simp only [mq,Tr.flat_len]at hNl
  simp only [Tr.size]at hf hNl ⊢
  obtain⟨fu,rfl⟩: ∃k,fu=k+1:=⟨fu-1,by omega⟩
  unfold jj
  have V:N[P.length]? =some (jU n (-1) (-1)):=by
   rw [hN,pe,xC (eJ _),xo];rfl
  rw [bk (by simp;omega),m6 P.length (by omega),V]
  have e1:(jU n (-1) (-1)).Tag=n.Tag:=rfl
  simp only [bG]
  rw [e1,rO]
  have e:Ic n.Tag=0:=by unfold Ic;rw [X];rfl
  simp only [e,bG,kX]
  have e2:C7 (jU n (-1) (-1))=true:=K
  rw [e2]
  simp [jU]
 |un n a ih=>
  intro⟨⟨X,K,h3,h4⟩,ha⟩ P R N fu hN hf hl
  obtain⟨m,hm⟩: ∃m,m=jU n (((P.length+a.size:Nat):Int)-1) (-1):=⟨_,rfl⟩
  have hNl:=congrArg List.length hN
  simp only [mq,Tr.flat_len]at hNl
  simp only [Tr.size]at hf hNl ⊢
  simp only [Tr.flat,<-hm]at hN
  obtain⟨fu,rfl⟩: ∃k,fu=k+1:=⟨fu-1,by omega⟩
  have hpos:=a.size_pos
  have hi:=ih ha P ([m]++R) N fu (by rw [hN];simp only [pe]) (by omega) hl
  unfold jj
  have V:N[P.length+a.size]? =some m:=by
   rw [hN,pe,pe,<-pe P,xC (by simp [a.flat_len])]
   simp [a.flat_len]
  rw [bk (by simp;omega),m6 (P.length+a.size) (by omega),V]
  simp only [bG]
  have e1:m.Tag=n.Tag:=by rw [hm];rfl
  rw [e1,rO]
  have e:Ic n.Tag=1:=by unfold Ic;rw [X];rfl
  simp only [e,bG,kX]
  have e2:C7 m=true:=by rw [hm];exact K
  have eL:m.L=((P.length+a.size:Nat):Int)-1:=by rw [hm];rfl
  have eR:m.R= -1:=by rw [hm];rfl
  rw [fg (n:=((P.length+(a.size+1):Nat):Int)-1-1) (by omega) (by omega),show(((P.length+(a.size+1):Nat):Int)-1-1)=(((P.length+a.size:Nat):Int)-1)from by omega]
  rw [hi]
  simp only [bG]
  rw [fg (n:=(a.size:Int)+1) (by omega) (by omega)]
  have n1: ¬a.size=0:=by omega
  simp [e2,eL,eR,n1]
 |bi n a b iha ihb=>
  intro⟨⟨X,K,h3,h4⟩,ha,H⟩ P R N fu hN hf hl
  obtain⟨m,hm⟩: ∃m,m=jU n (((P.length+a.size:Nat):Int)-1) (((P.length+a.size+b.size:Nat):Int)-1):=⟨_,rfl⟩
  have hNl:=congrArg List.length hN
  simp only [mq,Tr.flat_len]at hNl
  simp only [Tr.size]at hf hNl ⊢
  simp only [Tr.flat,<-hm]at hN
  obtain⟨fu,rfl⟩: ∃k,fu=k+1:=⟨fu-1,by omega⟩
  have hap:=a.size_pos
  have hbp:=b.size_pos
  have hi1:=iha ha P (b.flat (P.length+a.size)++[m]++R) N fu (by rw [hN];simp only [pe]) (by omega) hl
  have hi2:=ihb H (P++a.flat P.length) ([m]++R) N fu (by rw [hN];simp only [pe,mq,a.flat_len]) (by omega) hl
  rw [mq,a.flat_len]at hi2
  unfold jj
  have V:N[P.length+a.size+b.size]? =some m:=by
   rw [hN,pe,pe,<-pe P,xC (by simp [a.flat_len,b.flat_len];omega)]
   have:P.length+a.size+b.size-(P++(a.flat P.length++b.flat (P.length+a.size))).length=0:=by simp [a.flat_len,b.flat_len];omega
   rw [this];rfl
  rw [bk (by simp;omega),m6 (P.length+a.size+b.size) (by omega),V]
  simp only [bG]
  have e1:m.Tag=n.Tag:=by rw [hm];rfl
  rw [e1,rO]
  have e:Ic n.Tag=2:=by unfold Ic;rw [X];rfl
  simp only [e,bG,kX]
  have e2:C7 m=true:=by rw [hm];exact K
  have eL:m.L=((P.length+a.size:Nat):Int)-1:=by rw [hm];rfl
  have eR:m.R=((P.length+a.size+b.size:Nat):Int)-1:=by rw [hm];rfl
  rw [fg (n:=((P.length+(a.size+b.size+1):Nat):Int)-1-1) (by omega) (by omega),show(((P.length+(a.size+b.size+1):Nat):Int)-1-1)=(((P.length+a.size+b.size:Nat):Int)-1)from by omega]
  rw [hi2]
  simp only [bG]
  rw [fg (n:=((P.length+a.size+b.size:Nat):Int)-1-(b.size:Int)) (by omega) (by omega),show((P.length+a.size+b.size:Nat):Int)-1-(b.size:Int)=((P.length+a.size:Nat):Int)-1 from by omega]
  rw [hi1]
  simp only [bG]
  rw [fg (n:=(a.size:Int)+(b.size:Int)) (by omega) (by omega),fg (n:=(a.size:Int)+(b.size:Int)+1) (by omega) (by omega)]
  have n1: ¬a.size=0:=by omega
  have n2: ¬b.size=0:=by omega
  have e5:(P.length:Int)+(a.size:Int)+(b.size:Int)-1-(b.size:Int)=(P.length:Int)+(a.size:Int)-1:=by omega
  simp [e2,eL,eR,n1,n2,e5]
def Tj(N:List av)(hN:N.length<=100000): ∀(fu q:Nat),q<=N.length->q<fu-> ∃k:Nat,jj fu ⟨N⟩ ((q:Int)-1)=some (k:Int)/\(k=0\/ ∃(t:Tr) (P R:List av),t.wf/\t.size=k/\N=P++t.flat P.length++R/\P.length+k=q):=by
 intro fu
 induction fu with
 |zero=>intro q _ h;omega
 |succ fu ih=>
  intro q hq hf
  unfold jj
  by_cases h0:q=0
  ·subst h0
   exact⟨0,by rw [bJ (by simp)];rfl,.inl rfl⟩
  rw [bk (by simp;omega),m6 (q-1) (by omega)]
  have hlt:q-1<N.length:=by omega
  rw [lI hlt]
  obtain⟨n,hn⟩: ∃n,n=N[q-1]:=⟨_,rfl⟩
  rw [<-hn]
  have hd:N=N.take (q-1)++([n]++N.drop q):=by
   have X:=ui (q-1) N
   rw [AO hlt,<-hn,show q-1+1=q from by omega]at X
   exact X.symm
  simp only [bG,rO,kX]
  cases hk:pk n.Tag with
  |none=>
   have e:Ic n.Tag= -1:=by unfold Ic;rw [hk]
   exact⟨0,by simp [e],.inl rfl⟩
  |some k=>
   have e:Ic n.Tag=(k:Int):=by unfold Ic;rw [hk]
   have hk3:k=0\/k=1\/k=2:=by
    unfold pk at hk
    repeat' split at hk
    all_goals simp at hk
    all_goals omega
   cases hc:C7 n with
   |false=>exact⟨0,by simp [e,hc],.inl rfl⟩
   |true=>
    rcases hk3 with rfl|rfl|rfl
    ·rw [e]
     by_cases hL:n.L= -1/\n.R= -1
     ·refine⟨1,by simp [hL],.inr ⟨.lf (jU n (-1) (-1)),N.take (q-1),N.drop q,⟨hk,hc,rfl,rfl⟩,rfl,?_,by simp;omega⟩⟩
      simp only [Tr.flat]
      rw [y0 hL.1 hL.2,pe]
      exact hd
     ·refine⟨0,?_,.inl rfl⟩
      have:(n.L != -1||n.R != -1)=true:=by
       rw [AK,xP,xP]
       by_cases hl:n.L= -1
       ·exact .inr fun h=>hL ⟨hl,h⟩
       ·exact .inl hl
      simp [this]
    ·rw [e,fg (by omega) (by omega)]
     have e9:(((q-1:Nat):Int)-1)=(q:Int)-1-1:=by omega
     obtain⟨r2,K,h2'⟩:=ih (q-1) (by omega) (by omega)
     rw [e9]at K
     rw [K]
     rcases h2' with rfl|⟨t,P,R,hw,hs,hN2,hl⟩
     ·exact⟨0,by simp,.inl rfl⟩
     ·have hp:=t.size_pos
      by_cases hL:n.L=(q:Int)-1-1/\n.R= -1
      ·refine⟨r2+1,?_,.inr ⟨.un (jU n (-1) (-1)) t,P,N.drop q,⟨⟨hk,hc,rfl,rfl⟩,hw⟩,by simp only [Tr.size];omega,?_,by omega⟩⟩
       ·simp only [bG]
        rw [fg (n:=(r2:Int)+1) (by omega) (by omega)]
        have: ¬(r2=0):=by omega
        simp [hL,this]
       ·simp only [Tr.flat]
        rw [y0 (by rw [hL.1];omega) hL.2]
        have D:N.take (q-1)=P++t.flat P.length:=by
         rw [hN2,Dh (by simp [t.flat_len];omega),uj (by simp [t.flat_len];omega)]
        rw [D]at hd
        simpa only [pe] using hd
      ·refine⟨0,?_,.inl rfl⟩
       have:(n.L !=(q:Int)-1-1||n.R != -1)=true:=by
        rw [AK,xP,xP]
        by_cases hl:n.L=(q:Int)-1-1
        ·exact .inr fun h=>hL ⟨hl,h⟩
        ·exact .inl hl
       simp [this]
    ·rw [e,fg (n:=(q:Int)-1-1) (by omega) (by omega)]
     have e9:(((q-1:Nat):Int)-1)=(q:Int)-1-1:=by omega
     obtain⟨r2,K,h2'⟩:=ih (q-1) (by omega) (by omega)
     rw [e9]at K
     rw [K]
     rcases h2' with rfl|⟨t,P,R,hw,hs,hN2,hl⟩
     ·exact⟨0,by simp,.inl rfl⟩
     ·have hp:=t.size_pos
      simp only [bG]
      rw [fg (n:=(q:Int)-1-1-(r2:Int)) (by omega) (by omega)]
      have e8:(((q-1-r2:Nat):Int)-1)=(q:Int)-1-1-(r2:Int):=by omega
      have n2: ¬(r2=0):=by omega
      obtain⟨r3,h3,h3'⟩:=ih (q-1-r2) (by omega) (by omega)
      rw [e8]at h3
      rw [h3]
      rcases h3' with rfl|⟨t3,P3,R3,hw3,hs3,hN3,hl3⟩
      ·exact⟨0,by simp,.inl rfl⟩
      ·have hp3:=t3.size_pos
       have n3: ¬(r3=0):=by omega
       by_cases hL:n.R=(q:Int)-1-1/\n.L=(q:Int)-1-1-(r2:Int)
       ·refine⟨r3+r2+1,?_,.inr ⟨.bi (jU n (-1) (-1)) t3 t,P3,N.drop q,⟨⟨hk,hc,rfl,rfl⟩,hw3,hw⟩,by simp only [Tr.size];omega,?_,by omega⟩⟩
        ·simp only [bG]
         rw [fg (n:=(r3:Int)+(r2:Int)) (by omega) (by omega),fg (n:=(r3:Int)+(r2:Int)+1) (by omega) (by omega)]
         simp [hL,n2,n3]
        ·simp only [Tr.flat]
         rw [y0 (by rw [hL.2];omega) (by rw [hL.1];omega)]
         have D:N.take (q-1)=P++t.flat P.length:=by
          rw [hN2,Dh (by simp [t.flat_len];omega),uj (by simp [t.flat_len];omega)]
         have hP:P=N.take P.length:=by
          conv=>rhs;rw [hN2,pe,Dh (eJ _),uj (eJ _)]
         have hP3:P=P3++t3.flat P3.length:=by
          rw [hP]
          have:P.length=P3.length+t3.size:=by omega
          conv=>lhs;rw [this,hN3]
          rw [Dh (by simp [t3.flat_len]),uj (by simp [t3.flat_len])]
         have hPl:P.length=P3.length+t3.size:=by omega
         rw [D,hPl]at hd
         rw [hP3]at hd
         simpa only [pe] using hd
       ·clear ih hN2 hN3
        refine⟨0,?_,.inl rfl⟩
        have:(n.R !=(q:Int)-1-1||n.L !=(q:Int)-1-1-(r2:Int))=true:=by
         rw [AK,xP,xP]
         by_cases hl:n.R=(q:Int)-1-1
         ·exact .inr fun h=>hL ⟨hl,h⟩
         ·exact .inl hl
        have h' :=this
        rw [AK,xP,xP]at h'
        simp [n2,n3]
        intro X K
        exact absurd K (by rcases h' with h' |h';exact absurd X h';exact h')
def Eu(e:aW):ve e=some (nw e.Nodes):=by
 unfold ve nw
 by_cases h:1<=e.Nodes.length/\e.Nodes.length<=1000
 ·rw [bJ (by simp;omega),fg (by omega) (by omega)]
  unfold Ah
  obtain⟨k,X,K⟩:=Tj e.Nodes (by omega) dk e.Nodes.length (eJ _) (xN (B4 _) (pj (by omega)))
  have h1' :jj dk e ((e.Nodes.length:Int)-1)=some (k:Int):=X
  rw [h1']
  simp only [bG]
  congr 1
  rw [AJ]
  constructor
  ·intro hk
   have hk' :k=e.Nodes.length:=by have:=eq_of_beq hk;omega
   rcases K with rfl|⟨t,P,R,hw,hs,hN,hl⟩
   ·omega
   ·have hP:P=[]:=tH (by omega)
    subst hP
    have hR:R=[]:=by
     have:=congrArg List.length hN
     simp [t.flat_len]at this
     exact tH (by omega)
    subst hR
    have hN' :e.Nodes=t.flat 0:=by simpa using hN
    rw [hN',Jq hw (by omega)];rfl
  ·intro hi
   cases D:sr e.Nodes with
   |none=>rw [D]at hi;cases hi
   |some t=>
    obtain⟨hw,hN,hs⟩:=nR D
    have hlen:e.Nodes.length=t.size:=by rw [hN,t.flat_len]
    have h3:=Ti t hw [] [] e.Nodes dk (by simpa using hN) (pj (by omega)) (by omega)
    simp only [vX,uT]at h3
    rw [<-hlen]at h3
    have h4:some (k:Int)=some (e.Nodes.length:Int):=X.symm.trans h3
    simpa using h4
 ·rw [bk (by simp;omega)]
  simp only [bG]
  congr 1
  symm
  rw [AX]
  intro hi
  cases D:sr e.Nodes with
  |none=>rw [D]at hi;cases hi
  |some t=>
   obtain⟨hw,hN,hs⟩:=nR D
   have hlen:e.Nodes.length=t.size:=by rw [hN,t.flat_len]
   have:=t.size_pos
   omega
def Lu(h:nw ns=true):1<=ns.length/\ns.length<=1000:=by
 unfold nw at h
 cases D:sr ns with
 |none=>rw [D]at h;cases h
 |some t=>
  obtain⟨hw,hN,hs⟩:=nR D
  have hlen:ns.length=t.size:=by rw [hN,t.flat_len]
  have:=t.size_pos
  omega
end Go.Proofs.YtdohlidddcgfjaaGreat

