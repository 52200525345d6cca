/- bR of this claim: K1, K6, K2, K3, K4, L1, L2. -/
import Derived.Test.YtdohlidddcgfjaaGreatFbF
import Derived.KernelRfl
import Derived.Test.YtdohlidddcgfjaaGreatFbV4
set_option linter.all false
namespace Go.Proofs.YtdohlidddcgfjaaGreat
open Go

abbrev Row:=List ap
variable{α:Type}{xs:List α}
def cy{ys:List α}(h:xs.length+ys.length<=68719476736):jb xs ys=some (xs++ys):=bu h
def jG(v:ap):Bool:=(oa v).getD false
def Be(v:ap):oa v=some (jG v):=by
 unfold jG oa
 repeat' split
 all_goals rfl
variable{n:am}
def qQ(v:ap):gi v=some (if jG v then 0 else 120):=by
 obtain⟨k,n,u,ae⟩:=v
 unfold jG oa gi uF
 simp only [jC,oF,oE,oD]
 by_cases h0:k=0
 ·subst h0;simp
  repeat' split
  all_goals simp_all
 by_cases Y:k=1
 ·subst Y
  by_cases n0:n=0
  ·subst n0;simp
   repeat' split
   all_goals simp_all
  by_cases n1:n=1
  ·subst n1;simp
   repeat' split
   all_goals simp_all
  simp [n0,n1]
 by_cases H:k=2
 ·subst H;simp
  repeat' split
  all_goals simp_all
 by_cases Q:k=3
 ·subst Q;simp
  repeat' split
  all_goals simp_all
 by_cases h4:k=4
 ·subst h4;simp
  repeat' split
  all_goals simp_all
 simp [h0,Y,H,Q,h4]

def nb(r:Nat):Nat:=if r%2=1 then(r/2)^^^2197175160 else r/2
def nb8(r:Nat):Nat:=nb (nb (nb (nb (nb (nb (nb (nb r)))))))
def yF(b:List Int):Prop:= ∀x∈b,∃c:Nat,c<256/\x=(c:Int)
def AV:List Int:=(List.range 256).map fun i=>(nb8 i:Int)
def zl(n:Nat):Nat->List Int
 |0=>[]
 |k+1=>((n/256^k%256:Nat):Int)::zl n k

structure Cmp{α:Type}(f:α->α->Int):Prop where
 rng: ∀x y,f x y= -1\/f x y=0\/f x y=1
 anti: ∀x y,f y x= -f x y
 eq: ∀x y,f x y=0↔x=y
 trans: ∀x y z,f x y<=0->f y z<=0->f x z<=0
def key(v:ap):Int×Int×Int×NL:=(v.Kind,v.N,v.U,v.S)

section
variable{f:α->α->Int}
def ltB(f:α->α->Int)(x y:α):Bool:=decide (f x y<0)
def Tk(f:α->α->Int)(l:List α):List α:=Qm (ltB f) l
def put(f:α->α->Int)(x:α):List α->List α
 |[]=>[x]
 |y::l=>if f x y<0 then x::y::l else y::put f x l
end
def vm{α:Type} [DecidableEq α]:α->List α->List α
 |_,[]=>[]
 |p,x::t=>if x=p then vm x t else x::vm x t
def GQ [DecidableEq α](p:α):vm p []=[]:=by unfold vm;rfl
def DN [DecidableEq α]{p x:α}(h:x=p)(t:List α):vm p (x::t)=vm x t:=by
 conv=>lhs;unfold vm
 rw [bu h]
def JY [DecidableEq α]{p x:α}(h: ¬x=p)(t:List α):vm p (x::t)=x::vm x t:=by
 conv=>lhs;unfold vm
 rw [aZ h]
def JX{α:Type} [DecidableEq α]:List α->List α
 |[]=>[]
 |x::t=>x::vm x t
def BU{α:Type} [DecidableEq α]: ∀(p:α) (l:List α) (z:α),z∈vm p l->z∈l
 |p,x::t,z,h=>by
  unfold vm at h
  split at h
  ·exact o8 _ (BU x t z h)
  ·rcases jy.1 h with rfl|h
   ·exact nV ..
   ·exact o8 _ (BU x t z h)
def Bn{α:Type} [DecidableEq α]: ∀(p:α) (l:List α) (z:α),z∈l->z=p\/z∈vm p l
 |p,x::t,z,h=>by
  unfold vm
  by_cases V:x=p
  ·rw [bu V]
   rcases jy.1 h with rfl|h
   ·exact .inl V
   ·rcases Bn x t z h with h|h
    ·exact .inl (h.trans V)
    ·exact .inr h
  ·rw [aZ V]
   rcases jy.1 h with rfl|h
   ·exact .inr (nV ..)
   ·rcases Bn x t z h with h|h
    ·exact .inr (by rw [h];exact nV ..)
    ·exact .inr (o8 _ h)
def KZ [DecidableEq α](l:List α)(z:α):z∈JX l↔z∈l:=by
 cases l with
 |nil=>exact qM
 |cons x t=>
  constructor
  ·intro h
   rcases jy.1 h with rfl|h
   ·exact nV ..
   ·exact o8 _ (BU x t z h)
  ·intro h
   rcases jy.1 h with rfl|h
   ·exact nV ..
   ·rcases Bn x t z h with rfl|h
    ·exact nV ..
    ·exact o8 _ h

structure Small(l:List Row):Prop where
 len:l.length<=8000
 row: ∀r∈l,r.length<=1000
def d7{n:Int}(h: -9223372036854775808<=n)(H:n<=9223372036854775807):IntKind.i64.wrap n=n:=by rw [p6];omega
def qA{l m:Nat}(h:l<=m)(H:m<=xs.length):dz xs (l:Int) (m:Int)=some ((xs.take m).drop l):=by
 unfold dz
 rw [bu (by omega)]
 simp

def jA{i j:Int}(l m:Nat)(hi:i=(l:Int))(hj:j=(m:Int))(h:l<=m)(H:m<=xs.length):dz xs i j=some ((xs.take m).drop l):=by
 subst hi hj;exact qA h H
def lg{i:Int}(k:Nat)(hi:i=(k:Int)):ga xs i=xs[k]? :=by subst hi;exact eZ _ _
def uV(v:ap):Bool:=jG v&&(v.Kind !=4)
def AP(v:ap):rt v=some (uV v):=by
 unfold rt uV
 rw [qQ]
 cases jG v<;>simp
def oO(v:ap):uS v=some (uV v):=by
 unfold uS uV
 rw [Be]
 rfl
def F0{v:ap}(h:uV v=true):0<=v.Kind/\v.Kind<=3:=by
 obtain⟨k,n,u,ae⟩:=v
 unfold uV jG oa at h
 simp only [iO,uB,ne_eq]at h
 obtain⟨Y,H⟩:=h
 by_cases h0:k=0
 ·simp [h0]
 by_cases k1:k=1
 ·simp [k1]
 by_cases k2:k=2
 ·simp [k2]
 by_cases k3:k=3
 ·simp [k3]
 simp [h0,k1,k2,k3,H]at Y
def pk(tag:Int):Option Nat:=if tag=1\/tag=2 then some 0 else if 4<=tag/\tag<=7 then some 1 else if 12<=tag/\tag<=23 then some 2 else none
def Ex(tag:Int):Int:=match pk tag with
 |some k=>(k:Int)
 |none=> -1
def ww(tag:Int):pt tag=some (Ex tag):=by
 unfold pt Ex pk
 by_cases Y:tag=1\/tag=2
 ·rw [bu Y,bu (by simpa using Y)];rfl
 rw [aZ Y,aZ (by simpa using Y)]
 by_cases H:4<=tag/\tag<=7
 ·rw [bu H,bu (by simpa using H)];rfl
 rw [aZ H,aZ (by simpa using H)]
 by_cases Q:12<=tag/\tag<=23
 ·rw [bu Q,bu (by simpa using Q)];rfl
 rw [aZ Q,aZ (by simpa using Q)]
def oN(tag:Int):uR tag=some (Ex tag):=by
 unfold uR zE Ex pk
 by_cases Y:tag=1\/tag=2
 ·rw [bu Y];rcases Y with rfl|rfl<;>rfl
 rw [aZ Y]
 by_cases H:4<=tag/\tag<=7
 ·rw [bu H]
  have:tag=4\/tag=5\/tag=6\/tag=7:=by omega
  rcases this with rfl|rfl|rfl|rfl<;>rfl
 rw [aZ H]
 by_cases Q:12<=tag/\tag<=23
 ·rw [bu Q,aZ (by simp;omega),aZ (by simp;omega),aZ (by simp;omega),aZ (by simp;omega)];rfl
 rw [aZ Q]
 by_cases h4:tag=3\/(8<=tag/\tag<=11)
 ·rw [bu (by simpa using h4)]
 rw [aZ (by simpa using h4),bu (by simp;omega)]
 rfl
def BX(n:am):Bool:=(km n).getD false
def iZ(n:am):km n=some (BX n):=by
 unfold BX km
 rw [oO]
 split
 ·rfl
 ·split<;>rfl
def BO(n:am):rU n=some (BX n):=by
 rw [<-iZ]
 unfold rU km
 rw [oO,AP]
inductive Tr where
 |lf (n:am)
 |un (n:am) (a:Tr)
 |bi (n:am) (a b:Tr)
 deriving Inhabited
def Tr.size:Tr->Nat
 | .lf _=>1
 | .un _ a=>a.size+1
 | .bi _ a b=>a.size+b.size+1
def jK(n:am)(l r:Int):am:={n with L:=l,R:=r}
def Tr.flat:Tr->Nat->List am
 | .lf n,_=>[jK n (-1) (-1)]
 | .un n a,ae=>a.flat ae++[jK n ((ae+a.size:Nat)-1) (-1)]
 | .bi n a b,ae=>a.flat ae++b.flat (ae+a.size)++[jK n ((ae+a.size:Nat)-1) ((ae+a.size+b.size:Nat)-1)]
def Rn(k:Nat)(n:am):Prop:=pk n.Tag=some k/\BX n=true/\n.L= -1/\n.R= -1
def Tr.wf:Tr->Prop
 | .lf n=>Rn 0 n
 | .un n a=>Rn 1 n/\a.wf
 | .bi n a b=>Rn 2 n/\a.wf/\b.wf
def Tr.size_pos(t:Tr):0<t.size:=by cases t<;>simp [Tr.size]
def Tr.flat_len(t:Tr): ∀ae,(t.flat ae).length=t.size:=by
 induction t with
 |lf n=>intro ae;rfl
 |un n a ih=>intro ae;simp [Tr.flat,Tr.size,ih]
 |bi n a b iha ihb=>intro ae;simp [Tr.flat,Tr.size,iha,ihb];omega
def cg:List Tr->Nat
 |[]=>0
 |t::st=>cg st+t.size
def uf:List Tr->List am
 |[]=>[]
 |t::st=>uf st++t.flat (cg st)
def DE: ∀st:List Tr,(uf st).length=cg st
 |[]=>rfl
 |t::st=>by simp [uf,cg,DE st,t.flat_len]
def Dc: ∀st:List Tr,st.length<=cg st
 |[]=>jW _
 |t::st=>by have:=Dc st;have:=t.size_pos;simp [cg];omega
def push(st:List Tr)(n:am):Option (List Tr):=
 match pk n.Tag,st with
 |some 0,st=>if BX n&&n.L== -1&&n.R== -1 then some (.lf (jK n (-1) (-1))::st)else none
 |some 1,a::st=>if BX n&&n.L==((cg st+a.size:Nat):Int)-1&&n.R== -1 then some (.un (jK n (-1) (-1)) a::st)else none
 |some 2,b::a::st=>if BX n&&n.L==((cg st+a.size:Nat):Int)-1&&n.R==((cg st+a.size+b.size:Nat):Int)-1 then some (.bi (jK n (-1) (-1)) a b::st)else none
 |_,_=>none
def od:List am->List Tr->Option (List Tr)
 |[],st=>some st
 |n::ns,st=>(push st n).bind (od ns)
def VS(st:List Tr):Prop:= ∀t∈st,t.wf
def vD{l r:Int}(h:n.L=l)(H:n.R=r):jK (jK n (-1) (-1)) l r=n:=by subst h H;rfl
def EY{l r:Int}:BX (jK n l r)=BX n:=rfl
def KN{st st' :List Tr}(h:push st n=some st')(hw:VS st):uf st' =uf st++[n]/\cg st' =cg st+1/\VS st' :=by
 unfold push at h
 split at h
 ·rename_i k st0 hk
  split at h
  ·rename_i hc
   simp only [iO,wC]at hc
   obtain⟨⟨Y,H⟩,Q⟩:=hc
   cases h
   refine⟨?_,rfl,fun t D=>?_⟩
   ·simp only [uf,Tr.flat]
    rw [vD H Q]
   ·rcases jy.1 D with rfl|D
    ·exact⟨hk,Y,rfl,rfl⟩
    ·exact hw t D
  ·cases h
 ·rename_i k a st0 hk
  split at h
  ·rename_i hc
   simp only [iO,wC]at hc
   obtain⟨⟨Y,H⟩,Q⟩:=hc
   cases h
   refine⟨?_,by simp [cg,Tr.size];omega,fun t D=>?_⟩
   ·simp only [uf,Tr.flat]
    rw [vD H Q,oB]
   ·rcases jy.1 D with rfl|D
    ·exact⟨⟨hk,Y,rfl,rfl⟩,hw a (nV ..)⟩
    ·exact hw t (o8 _ D)
  ·cases h
 ·rename_i k b a st0 hk
  split at h
  ·rename_i hc
   simp only [iO,wC]at hc
   obtain⟨⟨Y,H⟩,Q⟩:=hc
   cases h
   refine⟨?_,by simp [cg,Tr.size];omega,fun t D=>?_⟩
   ·simp only [uf,Tr.flat,cg]
    rw [vD H Q]
    simp only [oB]
   ·rcases jy.1 D with rfl|D
    ·exact⟨⟨hk,Y,rfl,rfl⟩,hw a (o8 _ (nV ..)),hw b (nV ..)⟩
    ·exact hw t (o8 _ (o8 _ D))
  ·cases h
 ·cases h
variable{ns:List am}
def wU: ∀{ns:List am} {st st' :List Tr},od ns st=some st' ->VS st->uf st' =uf st++ns/\VS st'
 |[],st,st',h,hw=>by cases h;simp [hw]
 |n::ns,st,st',h,hw=>by
  unfold od at h
  cases hp:push st n with
  |none=>rw [hp]at h;cases h
  |some st1=>
   rw [hp]at h
   obtain⟨Y,_,Q⟩:=KN hp hw
   obtain⟨h4,h5⟩:=wU (ns:=ns) h Q
   exact⟨by rw [h4,Y];simp,h5⟩
def qq: ∀(ns ms:List am) (st:List Tr),od (ns++ms) st=(od ns st).bind (od ms)
 |[],ms,st=>rfl
 |n::ns,ms,st=>by
  simp only [Ax,od]
  cases push st n with
  |none=>rfl
  |some st1=>exact qq ns ms st1
def HY(t:Tr): ∀(st:List Tr),t.wf->od (t.flat (cg st)) st=some (t::st):=by
 induction t with
 |lf n=>
  intro st ⟨Y,H,Q,h4⟩
  have hn' :jK n (-1) (-1)=n:=by cases n;simp only at Q h4;subst Q h4;rfl
  simp only [Tr.flat,od,push,hn']
  rw [Y]
  simp [H,Q,h4,od,hn']
 |un n a ih=>
  intro st ⟨⟨Y,H,Q,h4⟩,ha⟩
  have hn' :jK n (-1) (-1)=n:=by cases n;simp only at Q h4;subst Q h4;rfl
  simp only [Tr.flat]
  rw [qq,ih st ha]
  simp only [br,od,push]
  have e1:(jK n (((cg st+a.size:Nat):Int)-1) (-1)).Tag=n.Tag:=rfl
  rw [e1,Y]
  have e2:BX (jK n (((cg st+a.size:Nat):Int)-1) (-1))=true:=H
  rw [e2]
  simp only [jK,beq_self_eq_true,Bool.and_self,jY,br,od]
  simp only [jK]at hn'
  rw [hn']
 |bi n a b iha ihb=>
  intro st ⟨⟨Y,H,Q,h4⟩,ha,W⟩
  have hn' :jK n (-1) (-1)=n:=by cases n;simp only at Q h4;subst Q h4;rfl
  simp only [Tr.flat]
  rw [qq,qq,iha st ha]
  simp only [br]
  have e0:cg st+a.size=cg (a::st):=rfl
  rw [e0,ihb (a::st) W]
  simp only [br,od,push]
  have e1:(jK n (((cg (a::st):Nat):Int)-1) (((cg (a::st)+b.size:Nat):Int)-1)).Tag=n.Tag:=rfl
  rw [e1,Y]
  have e2:BX (jK n (((cg (a::st):Nat):Int)-1) (((cg (a::st)+b.size:Nat):Int)-1))=true:=H
  rw [e2]
  simp only [jK,cg,beq_self_eq_true,Bool.and_self,jY,br,od]
  simp only [jK]at hn'
  rw [hn']
def pc(ns:List am):Option Tr:=match od ns []with
 |some [t]=>if ns.length<=1000 then some t else none
 |_=>none
def mD{t:Tr}(h:pc ns=some t):t.wf/\ns=t.flat 0/\t.size<=1000:=by
 unfold pc at h
 split at h
 ·rename_i t0 hp
  split at h
  ·rename_i hl
   cases h
   obtain⟨Y,H⟩:=wU hp (fun t D=>by cases D)
   simp only [uf,cg,mz]at Y
   exact⟨H t (nV ..),Y.symm,by rw [<-t.flat_len 0,Y];exact hl⟩
  ·cases h
 ·cases h
def FD{t:Tr}(h:t.wf)(hs:t.size<=1000):pc (t.flat 0)=some t:=by
 unfold pc
 have h0:=HY t [] h
 simp only [cg]at h0
 rw [h0]
 simp only [t.flat_len,hs,jY]
def fl:Tr->Nat->List Int
 | .lf _,ae=>[(ae:Int)]
 | .un _ a,ae=>fl a ae++[(ae:Int)]
 | .bi _ a b,ae=>fl a ae++fl b (ae+a.size)++[(ae:Int)]
def Lk:List Tr->List Int
 |[]=>[]
 |t::st=>Lk st++fl t (cg st)
def lD:List Tr->List Int
 |[]=>[]
 |t::st=>lD st++[((cg st+t.size:Nat):Int)-1]
def tI(t:Tr): ∀ae,(fl t ae).length=t.size:=by
 induction t with
 |lf n=>intro ae;rfl
 |un n a ih=>intro ae;simp [fl,Tr.size,ih]
 |bi n a b iha ihb=>intro ae;simp [fl,Tr.size,iha,ihb];omega
def rJ: ∀st:List Tr,(Lk st).length=cg st
 |[]=>rfl
 |t::st=>by simp [Lk,cg,rJ st,tI]
def cY: ∀st:List Tr,(lD st).length=st.length
 |[]=>rfl
 |t::st=>by simp [lD,cY st]
def OW(t:Tr)(ae:Nat):(fl t ae)[t.size-1]? =some (ae:Int):=by
 cases t with
 |lf n=>rfl
 |un n a=>simp only [fl,Tr.size];rw [uo (by rw [tI];omega),tI];simp
 |bi n a b=>simp only [fl,Tr.size];rw [uo (by simp [tI]),kO,tI,tI];simp
def Bx(t:Tr)(st:List Tr)(rest:List Int):(Lk st++fl t (cg st)++rest)[cg st+t.size-1]? =some (cg st:Int):=by
 have:=t.size_pos
 rw [xv (by rw [kO,rJ,tI];omega),uo (by rw [rJ];omega),rJ,show cg st+t.size-1-cg st=t.size-1 from by omega]
 exact OW t _
def Ll: ∀(ns:List am) (st:List Tr),cg st+ns.length<=100000->jP ns (cg st) (Lk st) (lD st)=some (match od ns st with
   |some st' =>(Lk st',decide (st'.length=1)&&decide (cg st' <=1000))
   |none=>([],false)):=by
 intro ns
 induction ns with
 |nil=>
  intro st _
  simp only [jP,od,cY,rJ]
  congr 2
  congr 1
  ·rw [Cl];simp;omega
  ·rw [Cl];simp;omega
 |cons n ns ih=>
  intro st hs
  simp only [jj]at hs
  have hll:=Dc st
  unfold jP
  rw [ww]
  simp only [br,cY,BO]
  unfold od
  unfold push
  -- the parts
  cases hk:pk n.Tag with
  |none=>
   have e:Ex n.Tag= -1:=by unfold Ex;rw [hk]
   simp [e]
  |some k=>
   have e:Ex n.Tag=(k:Int):=by unfold Ex;rw [hk]
   have hk3:k=0\/k=1\/k=2:=by
    unfold pk at hk
    repeat' split at hk
    all_goals simp at hk
    all_goals omega
   rw [e]
   rcases hk3 with rfl|rfl|rfl
   ·-- none
    simp only []
    have c1:(decide (((0:Nat):Int)<0)||decide ((st.length:Int)<((0:Nat):Int)))=false:=by simp
    simp only [c1,xy,jY,br]
    cases hc:BX n with
    |false=>simp
    |true=>
     simp only [qK,o0,md,mA]
     rw [jA st.length st.length (by rw [d7 (by omega) (by omega)];omega) rfl (jW _) (by rw [cY];exact jW _)]
     have hd:(List.take st.length (lD st)).drop st.length=[]:=D8 (by simp;omega)
     simp only [hd,br,lp]
     by_cases hL:n.L= -1/\n.R= -1
     ·have W:(n.L== -1&&n.R== -1)=true:=by simp [hL]
      rw [bu W,aZ (by simp [hL.1,hL.2])]
      rw [cy (by simp only [jj,ul,rJ];omega)]
      simp only [br]
      rw [jA (i:=0) 0 st.length rfl (by rw [cY,d7 (by omega) (by omega)];omega) (nv _) (by rw [cY];exact jW _)]
      rw [sb (by rw [cY];exact jW _),Ar]
      simp only [br]
      rw [cy (by simp only [jj,ul,cY];omega)]
      simp only [br]
      have H:=ih (.lf (jK n (-1) (-1))::st) (by simp [cg,Tr.size];omega)
      simp only [cg,Tr.size,Lk,fl,lD]at H
      rw [show(((cg st+1:Nat):Int)-1)=(cg st:Int)from by omega]at H
      exact H
     ·have W:(n.L== -1&&n.R== -1)=false:=by
       rw [AD];intro h;apply hL;simpa using h
      rw [W]
      rw [bu (by
       simp only [Cm,Jc]
       intro h
       have Y:(-1:Int)=n.L:=by injection h
       have H:(-1:Int)=n.R:=by injection h with _ h;injection h
       exact hL ⟨Y.symm,H.symm⟩)]
      simp
   ·-- one
    cases st with
    |nil=>simp
    |cons a st=>
     simp only []
     have c1:(decide (((1:Nat):Int)<0)||decide (((a::st).length:Int)<((1:Nat):Int)))=false:=by simp;omega
     simp only [c1,xy,jY,br]
     cases hc:BX n with
     |false=>simp
     |true=>
      simp only [qK,o0,md,mA]
      simp only [jj]at hll ⊢
      simp only [cg]at hs hll
      have hap:=a.size_pos
      rw [jA st.length (st.length+1) (by rw [d7 (by omega) (by omega)];omega) (by omega) (by omega) (by rw [cY];exact jW _)]
      have hd:(List.take (st.length+1) (lD (a::st))).drop st.length=[((cg st+a.size:Nat):Int)-1]:=by
       rw [sb (by rw [cY];exact jW _)]
       simp only [lD]
       rw [Jg (by rw [cY];exact jW _),D8 (by rw [cY];exact jW _),mz]
      rw [hd]
      simp only [br,lp]
      rw [lg (cg st+a.size-1) (by omega)]
      have hf:=Bx a st []
      rw [sC]at hf
      simp only [Lk]
      rw [hf]
      simp only [br]
      rw [lg 0 rfl]
      simp only [CV,br]
      have hset:([(-1:Int),-1].set ((0:Nat):Int).toNat (((cg st+a.size:Nat):Int)-1))=[((cg st+a.size:Nat):Int)-1,-1]:=rfl
      rw [hset]
      by_cases hL:n.L=((cg st+a.size:Nat):Int)-1/\n.R= -1
      ·have W:(n.L==((cg st+a.size:Nat):Int)-1&&n.R== -1)=true:=by simp [hL]
       rw [bu W,aZ (by rw [hL.1,hL.2];simp)]
       rw [cy (by simp only [jj,ul,kO,rJ,tI];omega)]
       simp only [br]
       rw [jA (i:=0) 0 st.length rfl (by rw [cY,d7 (by simp<;>omega) (by simp<;>omega)];simp) (nv _) (by rw [cY];simp)]
       have D:(List.take st.length (lD (a::st))).drop 0=lD st:=by
        simp only [lD,Ar]
        rw [z1 (by rw [cY];exact jW _),sb (by rw [cY];exact jW _)]
       rw [D]
       simp only [br]
       rw [cy (by simp only [jj,ul,cY];omega)]
       simp only [br]
       have H:=ih (.un (jK n (-1) (-1)) a::st) (by simp [cg,Tr.size];omega)
       simp only [cg,Tr.size,Lk,fl,lD]at H
       rw [show(((cg st+(a.size+1):Nat):Int)-1)=((cg st+a.size:Nat):Int)from by omega]at H
       have hm:min ((cg (a::st):Nat):Int) (cg st:Int)=(cg st:Int):=by simp only [cg];omega
       rw [hm]
       simp only [oB]at H ⊢
       exact H
      ·have W:(n.L==((cg st+a.size:Nat):Int)-1&&n.R== -1)=false:=by
        rw [AD];intro h;apply hL;simpa using h
       rw [W]
       rw [bu (by
        simp only [Cm,Jc]
        intro h
        have Y:((cg st+a.size:Nat):Int)-1=n.L:=by injection h
        have H:(-1:Int)=n.R:=by injection h with _ h;injection h
        exact hL ⟨Y.symm,H.symm⟩)]
       simp
   ·-- two
    cases st with
    |nil=>simp
    |cons b st=>
     cases st with
     |nil=>simp
     |cons a st=>
      simp only []
      have c1:(decide (((2:Nat):Int)<0)||decide (((b::a::st).length:Int)<((2:Nat):Int)))=false:=by simp;omega
      simp only [c1,xy,jY,br]
      cases hc:BX n with
      |false=>simp
      |true=>
       simp only [qK,o0,md,mA]
       simp only [jj]at hll ⊢
       simp only [cg]at hs hll
       have hap:=a.size_pos
       have hbp:=b.size_pos
       rw [jA st.length (st.length+1+1) (by rw [d7 (by omega) (by omega)];omega) (by omega) (by omega) (by rw [cY];exact jW _)]
       have hd:(List.take (st.length+1+1) (lD (b::a::st))).drop st.length=[((cg st+a.size:Nat):Int)-1,((cg st+a.size+b.size:Nat):Int)-1]:=by
        rw [sb (by rw [cY];exact jW _)]
        simp only [lD,cg,oB]
        rw [Jg (by rw [cY];exact jW _),D8 (by rw [cY];exact jW _),mz]
        rfl
       rw [hd]
       simp only [br,lp]
       simp only [Lk,cg]
       rw [lg (cg st+a.size-1) (by omega)]
       rw [Bx a st (fl b (cg st+a.size))]
       simp only [br]
       rw [lg 0 rfl]
       simp only [CV,br]
       have hset:([(-1:Int),-1].set ((0:Nat):Int).toNat (((cg st+a.size:Nat):Int)-1))=[((cg st+a.size:Nat):Int)-1,-1]:=rfl
       rw [hset]
       rw [lg (cg st+a.size+b.size-1) (by omega)]
       have hf:=Bx b (a::st) []
       rw [sC]at hf
       simp only [Lk,cg]at hf
       rw [hf]
       simp only [br]
       rw [lg (0+1) rfl]
       simp only [List.getElem?_cons_succ,CV,br]
       have hset2:([((cg st+a.size:Nat):Int)-1,-1].set ((0+1:Nat):Int).toNat (((cg st+a.size+b.size:Nat):Int)-1))=[((cg st+a.size:Nat):Int)-1,((cg st+a.size+b.size:Nat):Int)-1]:=rfl
       rw [hset2]
       by_cases hL:n.L=((cg st+a.size:Nat):Int)-1/\n.R=((cg st+a.size+b.size:Nat):Int)-1
       ·have W:(n.L==((cg st+a.size:Nat):Int)-1&&n.R==((cg st+a.size+b.size:Nat):Int)-1)=true:=by rw [hL.1,hL.2];simp
        rw [bu W,aZ (by rw [hL.1,hL.2];simp)]
        rw [cy (by simp only [jj,ul,kO,rJ,tI];omega)]
        simp only [br]
        rw [jA (i:=0) 0 st.length rfl (by rw [cY,d7 (by simp;omega) (by simp;omega)];simp;omega) (nv _) (by rw [cY];simp;omega)]
        have D:(List.take st.length (lD (b::a::st))).drop 0=lD st:=by
         simp only [lD,Ar,oB]
         rw [z1 (by rw [cY];exact jW _),sb (by rw [cY];exact jW _)]
        rw [D]
        simp only [br]
        rw [cy (by simp only [jj,ul,cY];omega)]
        simp only [br]
        have H:=ih (.bi (jK n (-1) (-1)) a b::st) (by simp [cg,Tr.size];omega)
        simp only [cg,Tr.size,Lk,fl,lD]at H
        rw [show(((cg st+(a.size+b.size+1):Nat):Int)-1)=((cg st+a.size+b.size:Nat):Int)from by omega,show cg st+(a.size+b.size+1)=cg st+a.size+b.size+1 from by omega]at H
        have hm:min (min (((cg st+a.size+b.size:Nat)):Int) (cg st:Int)) ((cg st+a.size:Nat):Int)=(cg st:Int):=by omega
        rw [hm]
        simp only [oB]at H ⊢
        exact H
       ·have W:(n.L==((cg st+a.size:Nat):Int)-1&&n.R==((cg st+a.size+b.size:Nat):Int)-1)=false:=by
         rw [AD];intro h;apply hL;simpa using h
        rw [W]
        rw [bu (by
         simp only [Cm,Jc]
         intro h
         have Y:((cg st+a.size:Nat):Int)-1=n.L:=by injection h
         have H:((cg st+a.size+b.size:Nat):Int)-1=n.R:=by injection h with _ h;injection h
         exact hL ⟨Y.symm,H.symm⟩)]
        simp

def mq{n:Nat}(h:n<=1000000):n<=eI:=by unfold eI;omega
def mJ(ns:List am):Bool:=(pc ns).isSome
def F3{st:List Tr}(h:od ns []=some st):cg st=ns.length:=by
 have:=(wU h (fun t D=>by cases D)).1
 rw [<-DE,this];simp [uf]
def wx(e:aM)(h:e.Nodes.length<=100000):re e=some (if mJ e.Nodes then 0 else 200):=by
 unfold re vl mJ pc
 have:=Ll e.Nodes [] (by simpa [cg] using h)
 simp only [cg,Lk,lD]at this
 rw [this]
 cases hp:od e.Nodes []with
 |none=>rfl
 |some st=>
  have hsz:=F3 hp
  match st,hsz with
  |[],_=>rfl
  |[t],hsz=>
   simp only [br,hsz]
   by_cases hl:e.Nodes.length<=1000<;>simp [hl]
  |t::t2::st,_=>simp
def Ot(t:Tr):t.wf-> ∀(P R N:List am) (fu:Nat),N=P++t.flat P.length++R->t.size<=fu->N.length<=100000->iA fu ⟨N⟩ (((P.length+t.size:Nat):Int)-1)=some (t.size:Int):=by
 induction t with
 |lf n=>
  intro⟨Y,H,Q,h4⟩ P R N fu hN hf hl
  have hNl:=congrArg List.length hN
  simp only [kO,Tr.flat_len]at hNl
  simp only [Tr.size]at hf hNl ⊢
  obtain⟨fu,rfl⟩: ∃k,fu=k+1:=⟨fu-1,by omega⟩
  unfold iA
  have V:N[P.length]? =some (jK n (-1) (-1)):=by
   rw [hN,oB,uo (jW _),uc];rfl
  rw [aZ (by simp;omega),lg P.length (by omega),V]
  have e1:(jK n (-1) (-1)).Tag=n.Tag:=rfl
  simp only [br]
  rw [e1,oN]
  have e:Ex n.Tag=0:=by unfold Ex;rw [Y];rfl
  simp only [e,br,iZ]
  have e2:BX (jK n (-1) (-1))=true:=H
  rw [e2]
  simp [jK]
 |un n a ih=>
  intro⟨⟨Y,H,Q,h4⟩,ha⟩ P R N fu hN hf hl
  obtain⟨m,hm⟩: ∃m,m=jK n (((P.length+a.size:Nat):Int)-1) (-1):=⟨_,rfl⟩
  have hNl:=congrArg List.length hN
  simp only [kO,Tr.flat_len]at hNl
  simp only [Tr.size]at hf hNl ⊢
  simp only [Tr.flat,<-hm]at hN
  obtain⟨fu,rfl⟩: ∃k,fu=k+1:=⟨fu-1,by omega⟩
  have hpos:=a.size_pos
  have hi:=ih ha P ([m]++R) N fu (by rw [hN];simp only [oB]) (by omega) hl
  unfold iA
  have V:N[P.length+a.size]? =some m:=by
   rw [hN,oB,oB,<-oB P,uo (by simp [a.flat_len])]
   simp [a.flat_len]
  rw [aZ (by simp;omega),lg (P.length+a.size) (by omega),V]
  simp only [br]
  have e1:m.Tag=n.Tag:=by rw [hm];rfl
  rw [e1,oN]
  have e:Ex n.Tag=1:=by unfold Ex;rw [Y];rfl
  simp only [e,br,iZ]
  have e2:BX m=true:=by rw [hm];exact H
  have eL:m.L=((P.length+a.size:Nat):Int)-1:=by rw [hm];rfl
  have eR:m.R= -1:=by rw [hm];rfl
  rw [d7 (n:=((P.length+(a.size+1):Nat):Int)-1-1) (by omega) (by omega),show(((P.length+(a.size+1):Nat):Int)-1-1)=(((P.length+a.size:Nat):Int)-1)from by omega]
  rw [hi]
  simp only [br]
  rw [d7 (n:=(a.size:Int)+1) (by omega) (by omega)]
  have n1: ¬a.size=0:=by omega
  simp [e2,eL,eR,n1]
 |bi n a b iha ihb=>
  intro⟨⟨Y,H,Q,h4⟩,ha,W⟩ P R N fu hN hf hl
  obtain⟨m,hm⟩: ∃m,m=jK n (((P.length+a.size:Nat):Int)-1) (((P.length+a.size+b.size:Nat):Int)-1):=⟨_,rfl⟩
  have hNl:=congrArg List.length hN
  simp only [kO,Tr.flat_len]at hNl
  simp only [Tr.size]at hf hNl ⊢
  simp only [Tr.flat,<-hm]at hN
  obtain⟨fu,rfl⟩: ∃k,fu=k+1:=⟨fu-1,by omega⟩
  have hap:=a.size_pos
  have hbp:=b.size_pos
  have hi1:=iha ha P (b.flat (P.length+a.size)++[m]++R) N fu (by rw [hN];simp only [oB]) (by omega) hl
  have hi2:=ihb W (P++a.flat P.length) ([m]++R) N fu (by rw [hN];simp only [oB,kO,a.flat_len]) (by omega) hl
  rw [kO,a.flat_len]at hi2
  unfold iA
  have V:N[P.length+a.size+b.size]? =some m:=by
   rw [hN,oB,oB,<-oB P,uo (by simp [a.flat_len,b.flat_len];omega)]
   have:P.length+a.size+b.size-(P++(a.flat P.length++b.flat (P.length+a.size))).length=0:=by simp [a.flat_len,b.flat_len];omega
   rw [this];rfl
  rw [aZ (by simp;omega),lg (P.length+a.size+b.size) (by omega),V]
  simp only [br]
  have e1:m.Tag=n.Tag:=by rw [hm];rfl
  rw [e1,oN]
  have e:Ex n.Tag=2:=by unfold Ex;rw [Y];rfl
  simp only [e,br,iZ]
  have e2:BX m=true:=by rw [hm];exact H
  have eL:m.L=((P.length+a.size:Nat):Int)-1:=by rw [hm];rfl
  have eR:m.R=((P.length+a.size+b.size:Nat):Int)-1:=by rw [hm];rfl
  rw [d7 (n:=((P.length+(a.size+b.size+1):Nat):Int)-1-1) (by omega) (by omega),show(((P.length+(a.size+b.size+1):Nat):Int)-1-1)=(((P.length+a.size+b.size:Nat):Int)-1)from by omega]
  rw [hi2]
  simp only [br]
  rw [d7 (n:=((P.length+a.size+b.size:Nat):Int)-1-(b.size:Int)) (by omega) (by omega),show((P.length+a.size+b.size:Nat):Int)-1-(b.size:Int)=((P.length+a.size:Nat):Int)-1 from by omega]
  rw [hi1]
  simp only [br]
  rw [d7 (n:=(a.size:Int)+(b.size:Int)) (by omega) (by omega),d7 (n:=(a.size:Int)+(b.size:Int)+1) (by omega) (by omega)]
  have n1: ¬a.size=0:=by omega
  have n2: ¬b.size=0:=by omega
  have e5:(P.length:Int)+(a.size:Int)+(b.size:Int)-1-(b.size:Int)=(P.length:Int)+(a.size:Int)-1:=by omega
  simp [e2,eL,eR,n1,n2,e5]
def Ou(N:List am)(hN:N.length<=100000): ∀(fu q:Nat),q<=N.length->q<fu-> ∃k:Nat,iA fu ⟨N⟩ ((q:Int)-1)=some (k:Int)/\(k=0\/ ∃(t:Tr) (P R:List am),t.wf/\t.size=k/\N=P++t.flat P.length++R/\P.length+k=q):=by
 intro fu
 induction fu with
 |zero=>intro q _ h;omega
 |succ fu ih=>
  intro q hq hf
  unfold iA
  by_cases h0:q=0
  ·subst h0
   exact⟨0,by rw [bu (by simp)];rfl,.inl rfl⟩
  rw [aZ (by simp;omega),lg (q-1) (by omega)]
  have hlt:q-1<N.length:=by omega
  rw [sx hlt]
  obtain⟨n,hn⟩: ∃n,n=N[q-1]:=⟨_,rfl⟩
  rw [<-hn]
  have hd:N=N.take (q-1)++([n]++N.drop q):=by
   have Y:=qL (q-1) N
   rw [Cr hlt,<-hn,show q-1+1=q from by omega]at Y
   exact Y.symm
  simp only [br,oN,iZ]
  cases hk:pk n.Tag with
  |none=>
   have e:Ex n.Tag= -1:=by unfold Ex;rw [hk]
   exact⟨0,by simp [e],.inl rfl⟩
  |some k=>
   have e:Ex n.Tag=(k:Int):=by unfold Ex;rw [hk]
   have hk3:k=0\/k=1\/k=2:=by
    unfold pk at hk
    repeat' split at hk
    all_goals simp at hk
    all_goals omega
   cases hc:BX n with
   |false=>exact⟨0,by simp [e,hc],.inl rfl⟩
   |true=>
    rcases hk3 with rfl|rfl|rfl
    ·rw [e]
     by_cases hL:n.L= -1/\n.R= -1
     ·refine⟨1,by simp [hL],.inr ⟨.lf (jK n (-1) (-1)),N.take (q-1),N.drop q,⟨hk,hc,rfl,rfl⟩,rfl,?_,by simp;omega⟩⟩
      simp only [Tr.flat]
      rw [vD hL.1 hL.2,oB]
      exact hd
     ·refine⟨0,?_,.inl rfl⟩
      have:(n.L != -1||n.R != -1)=true:=by
       rw [xn,uB,uB]
       by_cases hl:n.L= -1
       ·exact .inr fun h=>hL ⟨hl,h⟩
       ·exact .inl hl
      simp [this]
    ·rw [e,d7 (by omega) (by omega)]
     have e9:(((q-1:Nat):Int)-1)=(q:Int)-1-1:=by omega
     obtain⟨r2,H,h2'⟩:=ih (q-1) (by omega) (by omega)
     rw [e9]at H
     rw [H]
     rcases h2' with rfl|⟨t,P,R,hw,hs,hN2,hl⟩
     ·exact⟨0,by simp,.inl rfl⟩
     ·have hp:=t.size_pos
      by_cases hL:n.L=(q:Int)-1-1/\n.R= -1
      ·refine⟨r2+1,?_,.inr ⟨.un (jK n (-1) (-1)) t,P,N.drop q,⟨⟨hk,hc,rfl,rfl⟩,hw⟩,by simp only [Tr.size];omega,?_,by omega⟩⟩
       ·simp only [br]
        rw [d7 (n:=(r2:Int)+1) (by omega) (by omega)]
        have: ¬(r2=0):=by omega
        simp [hL,this]
       ·simp only [Tr.flat]
        rw [vD (by rw [hL.1];omega) hL.2]
        have D:N.take (q-1)=P++t.flat P.length:=by
         rw [hN2,z1 (by simp [t.flat_len];omega),sb (by simp [t.flat_len];omega)]
        rw [D]at hd
        simpa only [oB] using hd
      ·refine⟨0,?_,.inl rfl⟩
       have:(n.L !=(q:Int)-1-1||n.R != -1)=true:=by
        rw [xn,uB,uB]
        by_cases hl:n.L=(q:Int)-1-1
        ·exact .inr fun h=>hL ⟨hl,h⟩
        ·exact .inl hl
       simp [this]
    ·rw [e,d7 (n:=(q:Int)-1-1) (by omega) (by omega)]
     have e9:(((q-1:Nat):Int)-1)=(q:Int)-1-1:=by omega
     obtain⟨r2,H,h2'⟩:=ih (q-1) (by omega) (by omega)
     rw [e9]at H
     rw [H]
     rcases h2' with rfl|⟨t,P,R,hw,hs,hN2,hl⟩
     ·exact⟨0,by simp,.inl rfl⟩
     ·have hp:=t.size_pos
      simp only [br]
      rw [d7 (n:=(q:Int)-1-1-(r2:Int)) (by omega) (by omega)]
      have e8:(((q-1-r2:Nat):Int)-1)=(q:Int)-1-1-(r2:Int):=by omega
      have n2: ¬(r2=0):=by omega
      obtain⟨r3,Q,h3'⟩:=ih (q-1-r2) (by omega) (by omega)
      rw [e8]at Q
      rw [Q]
      rcases h3' with rfl|⟨t3,P3,R3,hw3,hs3,hN3,hl3⟩
      ·exact⟨0,by simp,.inl rfl⟩
      ·have hp3:=t3.size_pos
       have n3: ¬(r3=0):=by omega
       by_cases hL:n.R=(q:Int)-1-1/\n.L=(q:Int)-1-1-(r2:Int)
       ·refine⟨r3+r2+1,?_,.inr ⟨.bi (jK n (-1) (-1)) t3 t,P3,N.drop q,⟨⟨hk,hc,rfl,rfl⟩,hw3,hw⟩,by simp only [Tr.size];omega,?_,by omega⟩⟩
        ·simp only [br]
         rw [d7 (n:=(r3:Int)+(r2:Int)) (by omega) (by omega),d7 (n:=(r3:Int)+(r2:Int)+1) (by omega) (by omega)]
         simp [hL,n2,n3]
        ·simp only [Tr.flat]
         rw [vD (by rw [hL.2];omega) (by rw [hL.1];omega)]
         have D:N.take (q-1)=P++t.flat P.length:=by
          rw [hN2,z1 (by simp [t.flat_len];omega),sb (by simp [t.flat_len];omega)]
         have hP:P=N.take P.length:=by
          conv=>rhs;rw [hN2,oB,z1 (jW _),sb (jW _)]
         have hP3:P=P3++t3.flat P3.length:=by
          rw [hP]
          have:P.length=P3.length+t3.size:=by omega
          conv=>lhs;rw [this,hN3]
          rw [z1 (by simp [t3.flat_len]),sb (by simp [t3.flat_len])]
         have hPl:P.length=P3.length+t3.size:=by omega
         rw [D,hPl]at hd
         rw [hP3]at hd
         simpa only [oB] using hd
       ·clear ih hN2 hN3
        refine⟨0,?_,.inl rfl⟩
        have:(n.R !=(q:Int)-1-1||n.L !=(q:Int)-1-1-(r2:Int))=true:=by
         rw [xn,uB,uB]
         by_cases hl:n.R=(q:Int)-1-1
         ·exact .inr fun h=>hL ⟨hl,h⟩
         ·exact .inl hl
        have h' :=this
        rw [xn,uB,uB]at h'
        simp [n2,n3]
        intro Y H
        exact absurd H (by rcases h' with h' |h';exact absurd Y h';exact h')
def Bd(e:aM):uQ e=some (mJ e.Nodes):=by
 unfold uQ mJ
 by_cases h:1<=e.Nodes.length/\e.Nodes.length<=1000
 ·rw [bu (by simp;omega),d7 (by omega) (by omega)]
  unfold Bc
  obtain⟨k,Y,H⟩:=Ou e.Nodes (by omega) eI e.Nodes.length (jW _) (uA (yG _) (mq (by omega)))
  have h1' :iA eI e ((e.Nodes.length:Int)-1)=some (k:Int):=Y
  rw [h1']
  simp only [br]
  congr 1
  rw [Cl]
  constructor
  ·intro hk
   have hk' :k=e.Nodes.length:=by have:=eq_of_beq hk;omega
   rcases H with rfl|⟨t,P,R,hw,hs,hN,hl⟩
   ·omega
   ·have hP:P=[]:=sd (by omega)
    subst hP
    have hR:R=[]:=by
     have:=congrArg List.length hN
     simp [t.flat_len]at this
     exact sd (by omega)
    subst hR
    have hN' :e.Nodes=t.flat 0:=by simpa using hN
    rw [hN',FD hw (by omega)];rfl
  ·intro hi
   cases D:pc e.Nodes with
   |none=>rw [D]at hi;cases hi
   |some t=>
    obtain⟨hw,hN,hs⟩:=mD D
    have hlen:e.Nodes.length=t.size:=by rw [hN,t.flat_len]
    have Q:=Ot t hw [] [] e.Nodes eI (by simpa using hN) (mq (by omega)) (by omega)
    simp only [ul,uj]at Q
    rw [<-hlen]at Q
    have h4:some (k:Int)=some (e.Nodes.length:Int):=Y.symm.trans Q
    simpa using h4
 ·rw [aZ (by simp;omega)]
  simp only [br]
  congr 1
  symm
  rw [AD]
  intro hi
  cases D:pc e.Nodes with
  |none=>rw [D]at hi;cases hi
  |some t=>
   obtain⟨hw,hN,hs⟩:=mD D
   have hlen:e.Nodes.length=t.size:=by rw [hN,t.flat_len]
   have:=t.size_pos
   omega
def HR(h:mJ ns=true):1<=ns.length/\ns.length<=1000:=by
 unfold mJ at h
 cases D:pc ns with
 |none=>rw [D]at h;cases h
 |some t=>
  obtain⟨hw,hN,hs⟩:=mD D
  have hlen:ns.length=t.size:=by rw [hN,t.flat_len]
  have:=t.size_pos
  omega
end Go.Proofs.YtdohlidddcgfjaaGreat

