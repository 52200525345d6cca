/- co of this claim: K1, K2, K3, K4, L1, L2, L3, M1, M2, M3, Q0, Q1, Q2, Q3, K5, K6, K7, K8, K9, Q4, L4. -/
import Derived.Test.YtmogpgcfognefaaGreatDoorNeF
import Derived.KernelRfl
import Derived.Test.YtmogpgcfognefaaGreatDoorNeV4
import Derived.Laws.RangeAny
import Derived.Shelf.Strings.CaseAny
set_option linter.all false
namespace Go.Proofs.YtmogpgcfognefaaGreatDoor
open Go

abbrev xf:=List M
variable{α:Type}{xs:List α}
theorem dM{ys:List α}(h:xs.length+ys.length≤68719476736):kE xs ys=some (xs++ys):=dy h
def mQ(v:M):Bool:=(jO v).getD false
variable{v:M}
theorem BB(v:M):jO v=some (mQ v):=by
 unfold mQ jO
 repeat' split
 all_goals rfl
variable{k:Nat}{n:bc}
theorem qG(v:M):jL v=some (if mQ v then 0 else 120):=by
 obtain⟨k,n,u,s⟩:=v
 unfold mQ jO jL ut
 simp only [ji,nM,nL,nK]
 by_cases h0:k=0
 ·subst h0;simp
  repeat' split
  all_goals simp_all
 by_cases h1:k=1
 ·subst h1
  by_cases n0:n=0
  ·subst n0;simp
   repeat' split
   all_goals simp_all
  by_cases n1:n=1
  ·subst n1;simp
   repeat' split
   all_goals simp_all
  simp [n0,n1]
 by_cases h2:k=2
 ·subst h2;simp
  repeat' split
  all_goals simp_all
 by_cases h3:k=3
 ·subst h3;simp
  repeat' split
  all_goals simp_all
 by_cases h4:k=4
 ·subst h4;simp
  repeat' split
  all_goals simp_all
 simp [h0,h1,h2,h3,h4]
def th(r:xf):Bool:=decide (r.length≤16)&&r.all mQ
theorem Bz(v:M):pq v=some (!mQ v):=by
 unfold pq
 rw [qG]
 cases mQ v<;>rfl
variable{f:Int→Bool}
theorem zC{f:M→Option Bool}{g:M→Bool}(hf: ∀v,f v=some (g v))(l:xf):fv l f=some (l.any g):=by
 have key: ∀(l:xf) (i:Nat),(cE f l i).bind (fun r=>some (decide ((0:Int)≤r)))=some (l.any g):=by
  intro l
  induction l with
  |nil=>intro i;simp [cE]
  |cons e t ih=>intro i;simp only [cE,hf,cq];cases h:g e<;>simp [ih,h]
 exact key l 0
theorem EP(r:xf):vC r=some (th r):=by
 unfold vC th
 rw [zC (g:=fun v=> !mQ v) Bz]
 by_cases h:r.length≤16
 ·rw [dy (by simp;omega)]
  simp [h,List.all_eq_not_any_not]
 ·rw [dd (by simp;omega)]
  simp [h]

structure Cmp{α:Type}(f:α→α→Int):Prop where
 rng: ∀x y,f x y= -1∨f x y=0∨f x y=1
 anti: ∀x y,f y x= -f x y
 eq: ∀x y,f x y=0↔x=y
 trans: ∀x y z,f x y≤0→f y z≤0→f x z≤0
def key(v:M):Int×Int×Int×im:=(v.Kind,v.N,v.U,v.S)

section
variable{f:α→α→Int}
def ltB(f:α→α→Int)(x y:α):Bool:=decide (f x y<0)
def Uw(f:α→α→Int)(l:List α):List α:=Rz (ltB f) l
def put(f:α→α→Int)(x:α):List α→List α
 |[]=>[x]
 |y::l=>if f x y<0 then x::y::l else y::put f x l
end
def vh{α:Type} [DecidableEq α]:α→List α→List α
 |_,[]=>[]
 |p,x::t=>if x=p then vh x t else x::vh x t
theorem GZ [DecidableEq α](p:α):vh p []=[]:=by unfold vh;rfl
theorem Ea [DecidableEq α]{p x:α}(h:x=p)(t:List α):vh p (x::t)=vh x t:=by
 conv=>lhs;unfold vh
 rw [dy h]
theorem JS [DecidableEq α]{p x:α}(h: ¬x=p)(t:List α):vh p (x::t)=x::vh x t:=by
 conv=>lhs;unfold vh
 rw [dd h]
def JR{α:Type} [DecidableEq α]:List α→List α
 |[]=>[]
 |x::t=>x::vh x t
theorem Ck{α:Type} [DecidableEq α]: ∀(p:α) (l:List α) (z:α),z∈vh p l→z∈l
 |p,x::t,z,h=>by
  unfold vh at h
  split at h
  ·exact kG _ (Ck x t z h)
  ·rcases iC.1 h with rfl|h
   ·exact lV ..
   ·exact kG _ (Ck x t z h)
theorem BN{α:Type} [DecidableEq α]: ∀(p:α) (l:List α) (z:α),z∈l→z=p∨z∈vh p l
 |p,x::t,z,h=>by
  unfold vh
  by_cases hx:x=p
  ·rw [dy hx]
   rcases iC.1 h with rfl|h
   ·exact .inl hx
   ·rcases BN x t z h with h|h
    ·exact .inl (h.trans hx)
    ·exact .inr h
  ·rw [dd hx]
   rcases iC.1 h with rfl|h
   ·exact .inr (lV ..)
   ·rcases BN x t z h with h|h
    ·exact .inr (by rw [h];exact lV ..)
    ·exact .inr (kG _ h)
theorem Lf [DecidableEq α](l:List α)(z:α):z∈JR l↔z∈l:=by
 cases l with
 |nil=>exact pm
 |cons x t=>
  constructor
  ·intro h
   rcases iC.1 h with rfl|h
   ·exact lV ..
   ·exact kG _ (Ck x t z h)
  ·intro h
   rcases iC.1 h with rfl|h
   ·exact lV ..
   ·rcases BN x t z h with rfl|h
    ·exact lV ..
    ·exact kG _ h

def Ro(n:Nat):Int:=if 8000<n then 3 else 0
def OL:List (List xf)→Nat→Nat
 |[],n=>n
 |l::t,n=>OL t (max n l.length)
def Cp(l:List xf):Bool:=l.all th
def Uk(ls:List (List xf)):Int:=if ls.all Cp then Ro (OL ls 0)else 150
theorem EQ(ls:List (List xf)):y6 ls=some (Uk ls):=by
 have Lj: ∀(l:List xf) (nx:Int→Option Int) (e:List xf) (n:Int),nP nx e n l=if Cp l then nx (max n (e.length:Int))else some 150:=by
  intro l
  induction l with
  |nil=>intro nx e n;rfl
  |cons r t ih=>
   intro nx e n
   have ih' :=ih nx e n
   unfold nP
   rw [EP]
   simp only [cq]
   rw [ih']
   unfold Cp
   cases h:th r<;>simp [h]
 have key: ∀(ls:List (List xf)) (n:Nat),jN ls (n:Int)=some (if ls.all Cp then Ro (OL ls n)else 150):=by
  intro ls
  induction ls with
  |nil=>
   intro n
   show jN [] (n:Int)=some (Ro n)
   unfold jN Ro
   by_cases h:8000<n
   ·rw [dy (by simp;omega),dy h]
   ·rw [dd (by simp;omega),dd h]
  |cons l t ih=>
   intro n
   unfold jN
   rw [Lj,show max (n:Int) (l.length:Int)=((max n l.length:Nat):Int)from by omega,ih]
   show _=some (if(Cp l&&t.all Cp)=true then Ro (OL t (max n l.length))else 150)
   cases h:Cp l<;>simp
 exact key ls 0
theorem MJ{n:Nat}(h:n≤8000):Ro n=0:=by unfold Ro;rw [dd (by omega)]
theorem Oe(l:List xf)(h:l.length≤8000):Uk [l]=if Cp l then 0 else 150:=by
 show(if(Cp l&&true)=true then Ro (max 0 l.length)else 150)=_
 rw [MJ (by omega),Bool.and_true]
structure Small(l:List xf):Prop where
 len:l.length≤8000
 row: ∀r∈l,r.length≤1000
theorem lW{n:Int}(h: -9223372036854775808≤n)(h2:n≤9223372036854775807):IntKind.i64.wrap n=n:=by rw [FO];omega
theorem vy{l m:Nat}(h:l≤m)(h2:m≤xs.length):dq xs (l:Int) (m:Int)=some ((xs.take m).drop l):=by
 unfold dq
 rw [dy (by omega)]
 simp

theorem iw{i j:Int}(l m:Nat)(hi:i=(l:Int))(hj:j=(m:Int))(h:l≤m)(h2:m≤xs.length):dq xs i j=some ((xs.take m).drop l):=by
 subst hi hj;exact vy h h2
theorem nh{i:Int}(k:Nat)(hi:i=(k:Int)):dR xs i=xs[k]? :=by subst hi;exact ii _ _
def md(v:M):Bool:=mQ v&&(v.Kind !=4)
theorem qE(v:M):kB v=some (md v):=by
 unfold kB md
 rw [qG]
 cases mQ v<;>simp
theorem qS(v:M):uS v=some (md v):=by
 unfold uS md
 rw [BB]
 rfl
theorem Gn(h:md v=true):0≤v.Kind∧v.Kind≤3:=by
 obtain⟨k,n,u,s⟩:=v
 unfold md mQ jO at h
 simp only [iP,bne_iff_ne,ne_eq]at h
 obtain⟨h1,h2⟩:=h
 by_cases h0:k=0
 ·simp [h0]
 by_cases k1:k=1
 ·simp [k1]
 by_cases k2:k=2
 ·simp [k2]
 by_cases k3:k=3
 ·simp [k3]
 simp [h0,k1,k2,k3,h2]at h1
def pk(tag:Int):Option Nat:=if tag=1∨tag=2 then some 0 else if 4≤tag∧tag≤7 then some 1 else if 12≤tag∧tag≤23 then some 2 else none
def SK(tag:Int):Int:=match pk tag with
 |some k=>(k:Int)
 |none=> -1
variable{tag:Int}
theorem wF(tag:Int):nj tag=some (SK tag):=by
 unfold nj SK pk
 by_cases h1:tag=1∨tag=2
 ·rw [dy h1,dy (by simpa using h1)];rfl
 rw [dd h1,dd (by simpa using h1)]
 by_cases h2:4≤tag∧tag≤7
 ·rw [dy h2,dy (by simpa using h2)];rfl
 rw [dd h2,dd (by simpa using h2)]
 by_cases h3:12≤tag∧tag≤23
 ·rw [dy h3,dy (by simpa using h3)];rfl
 rw [dd h3,dd (by simpa using h3)]
def G4(n:bc):Bool:=(kK n).getD false
theorem pF(n:bc):kK n=some (G4 n):=by
 unfold G4 kK
 rw [qS]
 split
 ·rfl
 ·split<;>rfl
theorem Ce(n:bc):rK n=some (G4 n):=by
 rw [←pF]
 unfold rK kK
 rw [qS,qE]
inductive Tr where
 |lf (n:bc)
 |un (n:bc) (a:Tr)
 |bi (n:bc) (a b:Tr)
 deriving Inhabited
def Tr.size:Tr→Nat
 | .lf _=>1
 | .un _ a=>a.size+1
 | .bi _ a b=>a.size+b.size+1
def kh(n:bc)(l r:Int):bc:={n with L:=l,R:=r}
def Tr.flat:Tr→Nat→List bc
 | .lf n,_=>[kh n (-1) (-1)]
 | .un n a,s=>a.flat s++[kh n ((s+a.size:Nat)-1) (-1)]
 | .bi n a b,s=>a.flat s++b.flat (s+a.size)++[kh n ((s+a.size:Nat)-1) ((s+a.size+b.size:Nat)-1)]
def SR(k:Nat)(n:bc):Prop:=pk n.Tag=some k∧G4 n=true∧n.L= -1∧n.R= -1
def Tr.wf:Tr→Prop
 | .lf n=>SR 0 n
 | .un n a=>SR 1 n∧a.wf
 | .bi n a b=>SR 2 n∧a.wf∧b.wf
theorem Tr.size_pos(t:Tr):0<t.size:=by cases t<;>simp [Tr.size]
variable{a:M}
theorem Tr.flat_len(t:Tr): ∀s,(t.flat s).length=t.size:=by
 induction t with
 |lf n=>intro s;rfl
 |un n a ih=>intro s;simp [Tr.flat,Tr.size,ih]
 |bi n a b iha ihb=>intro s;simp [Tr.flat,Tr.size,iha,ihb];omega
def ck:List Tr→Nat
 |[]=>0
 |t::st=>ck st+t.size
def ua:List Tr→List bc
 |[]=>[]
 |t::st=>ua st++t.flat (ck st)
theorem DZ: ∀st:List Tr,(ua st).length=ck st
 |[]=>rfl
 |t::st=>by simp [ua,ck,DZ st,t.flat_len]
theorem Du: ∀st:List Tr,st.length≤ck st
 |[]=>gp _
 |t::st=>by have:=Du st;have:=t.size_pos;simp [ck];omega
def push(st:List Tr)(n:bc):Option (List Tr):=
 match pk n.Tag,st with
 |some 0,st=>if G4 n&&n.L== -1&&n.R== -1 then some (.lf (kh n (-1) (-1))::st)else none
 |some 1,a::st=>if G4 n&&n.L==((ck st+a.size:Nat):Int)-1&&n.R== -1 then some (.un (kh n (-1) (-1)) a::st)else none
 |some 2,b::a::st=>if G4 n&&n.L==((ck st+a.size:Nat):Int)-1&&n.R==((ck st+a.size+b.size:Nat):Int)-1 then some (.bi (kh n (-1) (-1)) a b::st)else none
 |_,_=>none
def nv:List bc→List Tr→Option (List Tr)
 |[],st=>some st
 |n::ns,st=>(push st n).bind (nv ns)
def Xc(st:List Tr):Prop:= ∀t∈st,t.wf
theorem ER{l r:Int}(h:n.L=l)(h2:n.R=r):kh (kh n (-1) (-1)) l r=n:=by subst h h2;rfl
theorem KT{st st' :List Tr}(h:push st n=some st')(hw:Xc st):ua st' =ua st++[n]∧ck st' =ck st+1∧Xc st' :=by
 unfold push at h
 split at h
 ·rename_i k st0 hk
  split at h
  ·rename_i hc
   simp only [iP,xn]at hc
   obtain⟨⟨h1,h2⟩,h3⟩:=hc
   cases h
   refine⟨?_,rfl,fun t ht=>?_⟩
   ·simp only [ua,Tr.flat]
    rw [ER h2 h3]
   ·rcases iC.1 ht with rfl|ht
    ·exact⟨hk,h1,rfl,rfl⟩
    ·exact hw t ht
  ·cases h
 ·rename_i k a st0 hk
  split at h
  ·rename_i hc
   simp only [iP,xn]at hc
   obtain⟨⟨h1,h2⟩,h3⟩:=hc
   cases h
   refine⟨?_,by simp [ck,Tr.size];omega,fun t ht=>?_⟩
   ·simp only [ua,Tr.flat]
    rw [ER h2 h3,rR]
   ·rcases iC.1 ht with rfl|ht
    ·exact⟨⟨hk,h1,rfl,rfl⟩,hw a (lV ..)⟩
    ·exact hw t (kG _ ht)
  ·cases h
 ·rename_i k b a st0 hk
  split at h
  ·rename_i hc
   simp only [iP,xn]at hc
   obtain⟨⟨h1,h2⟩,h3⟩:=hc
   cases h
   refine⟨?_,by simp [ck,Tr.size];omega,fun t ht=>?_⟩
   ·simp only [ua,Tr.flat,ck]
    rw [ER h2 h3]
    simp only [rR]
   ·rcases iC.1 ht with rfl|ht
    ·exact⟨⟨hk,h1,rfl,rfl⟩,hw a (kG _ (lV ..)),hw b (lV ..)⟩
    ·exact hw t (kG _ (kG _ ht))
  ·cases h
 ·cases h
variable{ns:List bc}
theorem wW: ∀{ns:List bc} {st st' :List Tr},nv ns st=some st' →Xc st→ua st' =ua st++ns∧Xc st'
 |[],st,st',h,hw=>by cases h;simp [hw]
 |n::ns,st,st',h,hw=>by
  unfold nv at h
  cases hp:push st n with
  |none=>rw [hp]at h;cases h
  |some st1=>
   rw [hp]at h
   obtain⟨h1,_,h3⟩:=KT hp hw
   obtain⟨h4,h5⟩:=wW (ns:=ns) h h3
   exact⟨by rw [h4,h1];simp,h5⟩
theorem qf: ∀(ns ms:List bc) (st:List Tr),nv (ns++ms) st=(nv ns st).bind (nv ms)
 |[],ms,st=>rfl
 |n::ns,ms,st=>by
  simp only [CF,nv]
  cases push st n with
  |none=>rfl
  |some st1=>exact qf ns ms st1
theorem H5(t:Tr): ∀(st:List Tr),t.wf→nv (t.flat (ck st)) st=some (t::st):=by
 induction t with
 |lf n=>
  intro st ⟨h1,h2,h3,h4⟩
  have hn' :kh n (-1) (-1)=n:=by cases n;simp only at h3 h4;subst h3 h4;rfl
  simp only [Tr.flat,nv,push,hn']
  rw [h1]
  simp [h2,h3,h4,nv,hn']
 |un n a ih=>
  intro st ⟨⟨h1,h2,h3,h4⟩,ha⟩
  have hn' :kh n (-1) (-1)=n:=by cases n;simp only at h3 h4;subst h3 h4;rfl
  simp only [Tr.flat]
  rw [qf,ih st ha]
  simp only [cq,nv,push]
  have e1:(kh n (((ck st+a.size:Nat):Int)-1) (-1)).Tag=n.Tag:=rfl
  rw [e1,h1]
  have e2:G4 (kh n (((ck st+a.size:Nat):Int)-1) (-1))=true:=h2
  rw [e2]
  simp only [kh,beq_self_eq_true,Bool.and_self,oo,cq,nv]
  simp only [kh]at hn'
  rw [hn']
 |bi n a b iha ihb=>
  intro st ⟨⟨h1,h2,h3,h4⟩,ha,hb⟩
  have hn' :kh n (-1) (-1)=n:=by cases n;simp only at h3 h4;subst h3 h4;rfl
  simp only [Tr.flat]
  rw [qf,qf,iha st ha]
  simp only [cq]
  have e0:ck st+a.size=ck (a::st):=rfl
  rw [e0,ihb (a::st) hb]
  simp only [cq,nv,push]
  have e1:(kh n (((ck (a::st):Nat):Int)-1) (((ck (a::st)+b.size:Nat):Int)-1)).Tag=n.Tag:=rfl
  rw [e1,h1]
  have e2:G4 (kh n (((ck (a::st):Nat):Int)-1) (((ck (a::st)+b.size:Nat):Int)-1))=true:=h2
  rw [e2]
  simp only [kh,ck,beq_self_eq_true,Bool.and_self,oo,cq,nv]
  simp only [kh]at hn'
  rw [hn']
def nN(ns:List bc):Option Tr:=match nv ns []with
 |some [t]=>if ns.length≤1000 then some t else none
 |_=>none
theorem uv{t:Tr}(h:nN ns=some t):t.wf∧ns=t.flat 0∧t.size≤1000:=by
 unfold nN at h
 split at h
 ·rename_i t0 hp
  split at h
  ·rename_i hl
   cases h
   obtain⟨h1,h2⟩:=wW hp (fun t ht=>by cases ht)
   simp only [ua,ck,nF]at h1
   exact⟨h2 t (lV ..),h1.symm,by rw [←t.flat_len 0,h1];exact hl⟩
  ·cases h
 ·cases h
theorem F1{t:Tr}(h:t.wf)(hs:t.size≤1000):nN (t.flat 0)=some t:=by
 unfold nN
 have h0:=H5 t [] h
 simp only [ck]at h0
 rw [h0]
 simp only [t.flat_len,hs,oo]
def fl:Tr→Nat→List Int
 | .lf _,s=>[(s:Int)]
 | .un _ a,s=>fl a s++[(s:Int)]
 | .bi _ a b,s=>fl a s++fl b (s+a.size)++[(s:Int)]
def Lr:List Tr→List Int
 |[]=>[]
 |t::st=>Lr st++fl t (ck st)
def kJ:List Tr→List Int
 |[]=>[]
 |t::st=>kJ st++[((ck st+t.size:Nat):Int)-1]
theorem tA(t:Tr): ∀s,(fl t s).length=t.size:=by
 induction t with
 |lf n=>intro s;rfl
 |un n a ih=>intro s;simp [fl,Tr.size,ih]
 |bi n a b iha ihb=>intro s;simp [fl,Tr.size,iha,ihb];omega
theorem rG: ∀st:List Tr,(Lr st).length=ck st
 |[]=>rfl
 |t::st=>by simp [Lr,ck,rG st,tA]
theorem c0: ∀st:List Tr,(kJ st).length=st.length
 |[]=>rfl
 |t::st=>by simp [kJ,c0 st]
theorem OV(t:Tr)(s:Nat):(fl t s)[t.size-1]? =some (s:Int):=by
 cases t with
 |lf n=>rfl
 |un n a=>simp only [fl,Tr.size];rw [Kj (by rw [tA];omega),tA];simp
 |bi n a b=>simp only [fl,Tr.size];rw [Kj (by simp [tA]),mq,tA,tA];simp
theorem BZ(t:Tr)(st:List Tr)(rest:List Int):(Lr st++fl t (ck st)++rest)[ck st+t.size-1]? =some (ck st:Int):=by
 have:=t.size_pos
 rw [yO (by rw [mq,rG,tA];omega),Kj (by rw [rG];omega),rG,show ck st+t.size-1-ck st=t.size-1 from by omega]
 exact OV t _
theorem Lu: ∀(ns:List bc) (st:List Tr),ck st+ns.length≤100000→jr ns (ck st) (Lr st) (kJ st)=some (match nv ns st with
   |some st' =>(Lr st',decide (st'.length=1)&&decide (ck st' ≤1000))
   |none=>([],false)):=by
 intro ns
 induction ns with
 |nil=>
  intro st _
  simp only [jr,nv,c0,rG]
  congr 2
  congr 1
  ·rw [yL];simp;omega
  ·rw [yL];simp;omega
 |cons n ns ih=>
  intro st hs
  simp only [nG]at hs
  have hll:=Du st
  unfold jr
  rw [wF]
  simp only [cq,c0,Ce]
  unfold nv
  unfold push
  -- the parts
  cases hk:pk n.Tag with
  |none=>
   have e:SK n.Tag= -1:=by unfold SK;rw [hk]
   simp [e]
  |some k=>
   have e:SK n.Tag=(k:Int):=by unfold SK;rw [hk]
   have hk3:k=0∨k=1∨k=2:=by
    unfold pk at hk
    repeat' split at hk
    all_goals simp at hk
    all_goals omega
   rw [e]
   rcases hk3 with rfl|rfl|rfl
   ·-- none
    simp only []
    have c1:(decide (((0:Nat):Int)<0)||decide ((st.length:Int)<((0:Nat):Int)))=false:=by simp
    simp only [c1,xo,oo,cq]
    cases hc:G4 n with
    |false=>simp
    |true=>
     simp only [wa,wL,qw,Ak]
     rw [iw st.length st.length (by rw [lW (by omega) (by omega)];omega) rfl (gp _) (by rw [c0];exact gp _)]
     have hd:(List.take st.length (kJ st)).drop st.length=[]:=As (by simp;omega)
     simp only [hd,cq,ku]
     by_cases hL:n.L= -1∧n.R= -1
     ·have hb:(n.L== -1&&n.R== -1)=true:=by simp [hL]
      rw [dy hb,dd (by simp [hL.1,hL.2])]
      rw [dM (by simp only [nG,CD,rG];omega)]
      simp only [cq]
      rw [iw (i:=0) 0 st.length rfl (by rw [c0,lW (by omega) (by omega)];omega) (jJ _) (by rw [c0];exact gp _)]
      rw [wb (by rw [c0];exact gp _),uc]
      simp only [cq]
      rw [dM (by simp only [nG,CD,c0];omega)]
      simp only [cq]
      have h2:=ih (.lf (kh n (-1) (-1))::st) (by simp [ck,Tr.size];omega)
      simp only [ck,Tr.size,Lr,fl,kJ]at h2
      rw [show(((ck st+1:Nat):Int)-1)=(ck st:Int)from by omega]at h2
      exact h2
     ·have hb:(n.L== -1&&n.R== -1)=false:=by
       rw [Bool.eq_false_iff];intro h;apply hL;simpa using h
      rw [hb]
      rw [dy (by
       simp only [Ao,Hu]
       intro h
       have h1:(-1:Int)=n.L:=by injection h
       have h2:(-1:Int)=n.R:=by injection h with _ h;injection h
       exact hL ⟨h1.symm,h2.symm⟩)]
      simp
   ·-- one
    cases st with
    |nil=>simp
    |cons a st=>
     simp only []
     have c1:(decide (((1:Nat):Int)<0)||decide (((a::st).length:Int)<((1:Nat):Int)))=false:=by simp;omega
     simp only [c1,xo,oo,cq]
     cases hc:G4 n with
     |false=>simp
     |true=>
      simp only [wa,wL,qw,Ak]
      simp only [nG]at hll ⊢
      simp only [ck]at hs hll
      have hap:=a.size_pos
      rw [iw st.length (st.length+1) (by rw [lW (by omega) (by omega)];omega) (by omega) (by omega) (by rw [c0];exact gp _)]
      have hd:(List.take (st.length+1) (kJ (a::st))).drop st.length=[((ck st+a.size:Nat):Int)-1]:=by
       rw [wb (by rw [c0];exact gp _)]
       simp only [kJ]
       rw [Kk (by rw [c0];exact gp _),As (by rw [c0];exact gp _),nF]
      rw [hd]
      simp only [cq,ku]
      rw [nh (ck st+a.size-1) (by omega)]
      have hf:=BZ a st []
      rw [Bb]at hf
      simp only [Lr]
      rw [hf]
      simp only [cq]
      rw [nh 0 rfl]
      simp only [IX,cq]
      have hset:([(-1:Int),-1].set ((0:Nat):Int).toNat (((ck st+a.size:Nat):Int)-1))=[((ck st+a.size:Nat):Int)-1,-1]:=rfl
      rw [hset]
      by_cases hL:n.L=((ck st+a.size:Nat):Int)-1∧n.R= -1
      ·have hb:(n.L==((ck st+a.size:Nat):Int)-1&&n.R== -1)=true:=by simp [hL]
       rw [dy hb,dd (by rw [hL.1,hL.2];simp)]
       rw [dM (by simp only [nG,CD,mq,rG,tA];omega)]
       simp only [cq]
       rw [iw (i:=0) 0 st.length rfl (by rw [c0,lW (by simp<;>omega) (by simp<;>omega)];simp) (jJ _) (by rw [c0];simp)]
       have ht:(List.take st.length (kJ (a::st))).drop 0=kJ st:=by
        simp only [kJ,uc]
        rw [Hv (by rw [c0];exact gp _),wb (by rw [c0];exact gp _)]
       rw [ht]
       simp only [cq]
       rw [dM (by simp only [nG,CD,c0];omega)]
       simp only [cq]
       have h2:=ih (.un (kh n (-1) (-1)) a::st) (by simp [ck,Tr.size];omega)
       simp only [ck,Tr.size,Lr,fl,kJ]at h2
       rw [show(((ck st+(a.size+1):Nat):Int)-1)=((ck st+a.size:Nat):Int)from by omega]at h2
       have hm:min ((ck (a::st):Nat):Int) (ck st:Int)=(ck st:Int):=by simp only [ck];omega
       rw [hm]
       simp only [rR]at h2 ⊢
       exact h2
      ·have hb:(n.L==((ck st+a.size:Nat):Int)-1&&n.R== -1)=false:=by
        rw [Bool.eq_false_iff];intro h;apply hL;simpa using h
       rw [hb]
       rw [dy (by
        simp only [Ao,Hu]
        intro h
        have h1:((ck st+a.size:Nat):Int)-1=n.L:=by injection h
        have h2:(-1:Int)=n.R:=by injection h with _ h;injection h
        exact hL ⟨h1.symm,h2.symm⟩)]
       simp
   ·-- two
    cases st with
    |nil=>simp
    |cons b st=>
     cases st with
     |nil=>simp
     |cons a st=>
      simp only []
      have c1:(decide (((2:Nat):Int)<0)||decide (((b::a::st).length:Int)<((2:Nat):Int)))=false:=by simp;omega
      simp only [c1,xo,oo,cq]
      cases hc:G4 n with
      |false=>simp
      |true=>
       simp only [wa,wL,qw,Ak]
       simp only [nG]at hll ⊢
       simp only [ck]at hs hll
       have hap:=a.size_pos
       have hbp:=b.size_pos
       rw [iw st.length (st.length+1+1) (by rw [lW (by omega) (by omega)];omega) (by omega) (by omega) (by rw [c0];exact gp _)]
       have hd:(List.take (st.length+1+1) (kJ (b::a::st))).drop st.length=[((ck st+a.size:Nat):Int)-1,((ck st+a.size+b.size:Nat):Int)-1]:=by
        rw [wb (by rw [c0];exact gp _)]
        simp only [kJ,ck,rR]
        rw [Kk (by rw [c0];exact gp _),As (by rw [c0];exact gp _),nF]
        rfl
       rw [hd]
       simp only [cq,ku]
       simp only [Lr,ck]
       rw [nh (ck st+a.size-1) (by omega)]
       rw [BZ a st (fl b (ck st+a.size))]
       simp only [cq]
       rw [nh 0 rfl]
       simp only [IX,cq]
       have hset:([(-1:Int),-1].set ((0:Nat):Int).toNat (((ck st+a.size:Nat):Int)-1))=[((ck st+a.size:Nat):Int)-1,-1]:=rfl
       rw [hset]
       rw [nh (ck st+a.size+b.size-1) (by omega)]
       have hf:=BZ b (a::st) []
       rw [Bb]at hf
       simp only [Lr,ck]at hf
       rw [hf]
       simp only [cq]
       rw [nh (0+1) rfl]
       simp only [List.getElem?_cons_succ,IX,cq]
       have hset2:([((ck st+a.size:Nat):Int)-1,-1].set ((0+1:Nat):Int).toNat (((ck st+a.size+b.size:Nat):Int)-1))=[((ck st+a.size:Nat):Int)-1,((ck st+a.size+b.size:Nat):Int)-1]:=rfl
       rw [hset2]
       by_cases hL:n.L=((ck st+a.size:Nat):Int)-1∧n.R=((ck st+a.size+b.size:Nat):Int)-1
       ·have hb:(n.L==((ck st+a.size:Nat):Int)-1&&n.R==((ck st+a.size+b.size:Nat):Int)-1)=true:=by rw [hL.1,hL.2];simp
        rw [dy hb,dd (by rw [hL.1,hL.2];simp)]
        rw [dM (by simp only [nG,CD,mq,rG,tA];omega)]
        simp only [cq]
        rw [iw (i:=0) 0 st.length rfl (by rw [c0,lW (by simp;omega) (by simp;omega)];simp;omega) (jJ _) (by rw [c0];simp;omega)]
        have ht:(List.take st.length (kJ (b::a::st))).drop 0=kJ st:=by
         simp only [kJ,uc,rR]
         rw [Hv (by rw [c0];exact gp _),wb (by rw [c0];exact gp _)]
        rw [ht]
        simp only [cq]
        rw [dM (by simp only [nG,CD,c0];omega)]
        simp only [cq]
        have h2:=ih (.bi (kh n (-1) (-1)) a b::st) (by simp [ck,Tr.size];omega)
        simp only [ck,Tr.size,Lr,fl,kJ]at h2
        rw [show(((ck st+(a.size+b.size+1):Nat):Int)-1)=((ck st+a.size+b.size:Nat):Int)from by omega,show ck st+(a.size+b.size+1)=ck st+a.size+b.size+1 from by omega]at h2
        have hm:min (min (((ck st+a.size+b.size:Nat)):Int) (ck st:Int)) ((ck st+a.size:Nat):Int)=(ck st:Int):=by omega
        rw [hm]
        simp only [rR]at h2 ⊢
        exact h2
       ·have hb:(n.L==((ck st+a.size:Nat):Int)-1&&n.R==((ck st+a.size+b.size:Nat):Int)-1)=false:=by
         rw [Bool.eq_false_iff];intro h;apply hL;simpa using h
        rw [hb]
        rw [dy (by
         simp only [Ao,Hu]
         intro h
         have h1:((ck st+a.size:Nat):Int)-1=n.L:=by injection h
         have h2:((ck st+a.size+b.size:Nat):Int)-1=n.R:=by injection h with _ h;injection h
         exact hL ⟨h1.symm,h2.symm⟩)]
        simp

def oE(ns:List bc):Bool:=(nN ns).isSome
theorem Gr{st:List Tr}(h:nv ns []=some st):ck st=ns.length:=by
 have:=(wW h (fun t ht=>by cases ht)).1
 rw [←DZ,this];simp [ua]
theorem sm(e:bf)(h:e.Nodes.length≤100000):mo e=some (if oE e.Nodes then 0 else 200):=by
 unfold mo rJ oE nN
 have:=Lu e.Nodes [] (by simpa [ck] using h)
 simp only [ck,Lr,kJ]at this
 rw [this]
 cases hp:nv e.Nodes []with
 |none=>rfl
 |some st=>
  have hsz:=Gr hp
  match st,hsz with
  |[],_=>rfl
  |[t],hsz=>
   simp only [cq,hsz]
   by_cases hl:e.Nodes.length≤1000<;>simp [hl]
  |t::t2::st,_=>simp
theorem HT(h:oE ns=true):1≤ns.length∧ns.length≤1000:=by
 unfold oE at h
 cases ht:nN ns with
 |none=>rw [ht]at h;cases h
 |some t=>
  obtain⟨hw,hN,hs⟩:=uv ht
  have hlen:ns.length=t.size:=by rw [hN,t.flat_len]
  have:=t.size_pos
  omega

theorem IC(p:List Int)(hp:p.length≤8000)(i:Nat)(y:List Int)(hy:i+y.length=p.length): ∀(k i1:Nat) (x:List Int) (x1:Nat),i1+k=y.length→0<i1→x.length=p.length→x1+1≤i+i1→x.drop (i+i1-1)=p.drop (i+i1-1)→
  dL i y k i1 x (x1:Int)=some (x.take x1++vh ((p[i+i1-1]?).getD 0) (p.drop (i+i1))):=by
 intro k
 induction k with
 |zero=>
  intro i1 x x1 h1 h0 hx h2 h3
  simp only [dL]
  have hx1:x1≤x.length:=by omega
  rw [vy hx1 (gp _)]
  simp only [cq,Bc,Ap]
  rw [show((0:Int))=((0:Nat):Int)from rfl,vy (jJ _) (by simp;omega)]
  simp only [cq,uc]
  have hn:p.drop (i+i1)=[]:=FT (by omega)
  rw [hn,GZ,Bb,Hv (by simp;omega),Al,Nat.min_self]
 |succ k ih=>
  intro i1 x x1 h1 h0 hx h2 h3
  have e1:x[i+i1]? =p[i+i1]? :=by
   have:=congrArg (fun l:List Int=>l[1]?) h3
   simp only [ul]at this
   rwa [show i+i1-1+1=i+i1 from by omega]at this
  have e0:x[i+i1-1]? =p[i+i1-1]? :=by
   have:=congrArg (fun l:List Int=>l[0]?) h3
   simpa only [ul,Nat.add_zero] using this
  have hlt:i+i1<p.length:=by omega
  have g1:C5 x (i:Int) y.length (i1:Int)=some p[i+i1]:=by
   unfold C5
   rw [dy (by omega),show(i:Int)+(i1:Int)=((i+i1:Nat):Int)from by omega,ii,e1,pR hlt]
  have g0:C5 x (i:Int) y.length (IntKind.i64.wrap ((i1:Int)-1))=some p[i+i1-1]:=by
   rw [lW (by omega) (by omega)]
   unfold C5
   rw [dy (by omega),show(i:Int)+((i1:Int)-1)=((i+i1-1:Nat):Int)from by omega,ii,e0,pR (by omega)]
  have hd:p.drop (i+i1)=p[i+i1]::p.drop (i+i1+1):=CM hlt
  have hp1:(p[i+i1-1]?).getD 0=p[i+i1-1]:=by rw [pR (by omega)];rfl
  simp only [dL,g1,g0,cq]
  rw [hd,hp1]
  by_cases hx2:p[i+i1]=p[i+i1-1]
  ·rw [dd (by simp [hx2])]
   have h3' :x.drop (i+(i1+1)-1)=p.drop (i+(i1+1)-1):=by
    have:=congrArg (List.drop 1) h3
    rwa [ud,ud,show i+i1-1+1=i+(i1+1)-1 from by omega]at this
   rw [ih (i1+1) x x1 (by omega) (by omega) hx (by omega) h3']
   rw [Ea hx2,show i+(i1+1)-1=i+i1 from by omega,pR hlt,show i+(i1+1)=i+i1+1 from by omega]
   rfl
  ·rw [dy (by simp [hx2]),ii,pR (by omega)]
   simp only [cq,Ap]
   rw [lW (by omega) (by omega),show((x1:Int)+1)=((x1+1:Nat):Int)from by omega]
   have h3' :(x.set x1 p[i+i1]).drop (i+(i1+1)-1)=p.drop (i+(i1+1)-1):=by
    rw [List.drop_set_of_lt (by omega)]
    have:=congrArg (List.drop 1) h3
    rwa [ud,ud,show i+i1-1+1=i+(i1+1)-1 from by omega]at this
   rw [ih (i1+1) _ (x1+1) (by omega) (by omega) (by simpa using hx) (by omega) h3']
   rw [JS hx2,show i+(i1+1)-1=i+i1 from by omega,pR hlt,show i+(i1+1)=i+i1+1 from by omega]
   have ht:(x.set x1 p[i+i1]).take (x1+1)=x.take x1++[p[i+i1]]:=by
    rw [LZ (by simp;omega),List.take_set_of_le (by omega)]
    simp
   rw [ht]
   simp
theorem ID(p:List Int)(hp:p.length≤8000):iR p=some (JR p):=by
 unfold iR
 by_cases h2:p.length<2
 ·rw [dy (by simp;omega)]
  match p,h2 with
  |[],_=>rfl
  |[x],_=>rfl
 ·rw [dd (by simp;omega)]
  have key: ∀(l:List Int) (i:Nat),p.drop i=l→0<i→i≤p.length→JR p=p.take i++vh ((p[i-1]?).getD 0) (p.drop i)→em p l i=some (JR p):=by
   intro l
   induction l with
   |nil=>
    intro i h1 h0 hle h3
    have:=FR.1 h1
    simp only [em]
    rw [h3,h1,wb (by omega),GZ,Bb]
   |cons x t ih=>
    intro i h1 h0 hle h3
    have hi:i<p.length:=by
     rcases mT i p.length with h|h
     ·exact h
     ·rw [FT h]at h1;cases h1
    have hx:x=p[i]:=by rw [CM hi]at h1;exact(List.cons.inj h1).1.symm
    have ht:p.drop (i+1)=t:=by rw [←ud,h1];rfl
    have hp1:(p[i-1]?).getD 0=p[i-1]:=by rw [pR (by omega)];rfl
    simp only [em]
    rw [lW (by omega) (by omega),show(i:Int)-1=((i-1:Nat):Int)from by omega,ii,pR (by omega)]
    simp only [cq]
    by_cases he:x=p[i-1]
    ·rw [dy (by simp [he])]
     rw [vy hle (gp _)]
     simp only [cq,Bc]
     rw [IC p hp i (p.drop i) (by simp;omega) _ 1 p i (by simp;omega) (by omega) rfl (by omega) (by simp)]
     rw [h3,h1,hp1,Ea he,←ht,hx]
     rw [show i+1-1=i from by omega,pR hi];rfl
    ·rw [dd (by simp [he])]
     refine ih (i+1) ht (by omega) (by omega) ?_
     rw [h3,h1,hp1,JS he,LZ hi,←ht,hx,show i+1-1=i from by omega,pR hi]
     rw [rR];rfl
  have hpc:p=p[0]::p.drop 1:=by
   have:=CM (l:=p) (i:=0) (by omega)
   simpa using this
  refine key (p.drop 1) 1 rfl (by omega) (by omega) ?_
  have e:(p[1-1]?).getD 0=p[0]:=by simp [pR (show 0<p.length by omega)]
  rw [e]
  conv=>lhs;rw [hpc]
  have e2:p.take 1=[p[0]]:=by
   conv=>lhs;rw [hpc]
   rfl
  rw [e2];rfl

theorem Le(l:List Int)(z:Int):z∈sortI l↔z∈l:=by unfold sortI;simp
theorem xh: ∀(ns:List bc) (out:List Int),out.length+ns.length≤8000→ ∃cs,kS ns out=some cs∧ ∀c,c∈cs↔c∈out∨ ∃n∈ns,n.Tag=2∧n.Col=c
 |[],out,h=>by
  unfold kS Br
  rw [dy (by simp at h;omega)]
  simp only [cq]
  rw [ID _ (by rw [yW];simpa using h)]
  exact⟨_,rfl,fun c=>by rw [Lf,Le];simp⟩
 |n::ns,out,h=>by
  simp only [nG]at h
  unfold kS
  by_cases ht:n.Tag=2
  ·rw [dy (by simp [ht]),dM (by simp;omega)]
   simp only [cq]
   obtain⟨cs,h1,h2⟩:=xh ns (out++[n.Col]) (by simp;omega)
   exact⟨cs,h1,fun c=>by rw [h2];simp [ht,or_assoc,eq_comm]⟩
  ·rw [dd (by simp [ht])]
   obtain⟨cs,h1,h2⟩:=xh ns out (by omega)
   exact⟨cs,h1,fun c=>by rw [h2];simp [ht]⟩
theorem yi(e:bf)(h:oE e.Nodes=true): ∃cs,qt e=some cs∧ ∀c,c∈cs↔ ∃n∈e.Nodes,n.Tag=2∧n.Col=c:=by
 have hl:=HT h
 unfold qt
 rw [sm e (by omega),h]
 obtain⟨cs,h1,h2⟩:=xh e.Nodes [] (by simp;omega)
 exact⟨cs,by simpa using h1,fun c=>by rw [h2];simp⟩
def kn(tag l r:Int):Int×Bool:=(wS tag l r).getD (0,false)
def k4(k:Int):Prop:=k=0∨k=1∨k=2∨k=3
theorem Rv(tag l r:Int):k4 (kn tag l r).1:=by
 unfold kn wS qR
 simp only [cq]
 repeat' split
 all_goals simp [k4]
theorem IM(kinds:List Int)(n:bc)(x:Int)(hx:k4 x)(hk:pk n.Tag=some 1):ir kinds n [x]=some (if(kn n.Tag x 0).2 then((kn n.Tag x 0).1,0)else(0,201)):=by
 obtain⟨tag,L,R,col,v⟩:=n
 have ht:tag=4∨tag=5∨tag=6∨tag=7:=by
  unfold pk at hk
  repeat' split at hk
  all_goals simp at hk
  rename_i h
  have h:4≤tag∧tag≤7:=h
  omega
 rcases ht with rfl|rfl|rfl|rfl<;>rcases hx with rfl|rfl|rfl|rfl<;>rfl
theorem IL(kinds:List Int)(n:bc)(x y:Int)(hx:k4 x)(hy:k4 y)(hk:pk n.Tag=some 2):ir kinds n [x,y]=some (if(kn n.Tag x y).2 then((kn n.Tag x y).1,0)else(0,201)):=by
 obtain⟨tag,L,R,col,v⟩:=n
 have ht:tag=12∨tag=13∨tag=14∨tag=15∨tag=16∨tag=17∨tag=18∨tag=19∨tag=20∨tag=21∨tag=22∨tag=23:=by
  unfold pk at hk
  repeat' split at hk
  all_goals simp at hk
  rename_i h
  have h:12≤tag∧tag≤23:=h
  omega
 rcases ht with rfl|rfl|rfl|rfl|rfl|rfl|rfl|rfl|rfl|rfl|rfl|rfl<;>rcases hx with rfl|rfl|rfl|rfl<;>rcases hy with rfl|rfl|rfl|rfl<;>rfl
def kd(kinds:List Int):Tr→Option Int
 | .lf n=>if n.Tag=1 then some n.Value.Kind else some ((kinds[n.Col.toNat]?).getD 0)
 | .un n a=>(kd kinds a).bind fun x=>if(kn n.Tag x 0).2 then some (kn n.Tag x 0).1 else none
 | .bi n a b=>(kd kinds a).bind fun x=>(kd kinds b).bind fun y=>if(kn n.Tag x y).2 then some (kn n.Tag x y).1 else none
theorem UD(kinds:List Int)(n:bc)(a:Tr):kd kinds (.un n a)=(kd kinds a).bind fun x=>if(kn n.Tag x 0).2 then some (kn n.Tag x 0).1 else none:=rfl
theorem UE(kinds:List Int)(n:bc)(a b:Tr):kd kinds (.bi n a b)=(kd kinds a).bind fun x=>(kd kinds b).bind fun y=>if(kn n.Tag x y).2 then some (kn n.Tag x y).1 else none:=rfl
def G1(m:Nat):Tr→Prop
 | .lf n=>n.Tag=2→n.Col<m
 | .un _ a=>G1 m a
 | .bi _ a b=>G1 m a∧G1 m b
theorem Xu(h:pk tag=some 0):tag=1∨tag=2:=by
 unfold pk at h
 repeat' split at h
 all_goals simp at h
 assumption
theorem pk2(h:pk tag=some k)(ht:tag=2):k=0:=by subst ht;simp [pk]at h;exact h.symm
theorem Vd(h:G4 n=true)(ht:n.Tag=1):md n.Value=true:=by
 have h2:=pF n
 rw [h]at h2
 unfold kK at h2
 rw [dy (by simp [ht]),qS]at h2
 simp at h2
 exact h2.1
theorem QR(h:G4 n=true)(ht:n.Tag=2):0≤n.Col∧n.Col<16:=by
 have h2:=pF n
 rw [h]at h2
 unfold kK at h2
 rw [dd (by simp [ht]),dy (by simp [ht])]at h2
 simp at h2
 exact⟨h2.1.2,h2.2⟩
theorem MN{kinds:List Int}(hk: ∀k∈kinds,k4 k): ∀(t:Tr),t.wf→ ∀{k},kd kinds t=some k→k4 k
 | .lf n,⟨h1,h2,_,_⟩,k,h=>by
  unfold kd at h
  split at h
  ·rename_i ht
   have:=Gn (Vd h2 ht)
   cases h;unfold k4;omega
  ·injection h with h
   subst h
   cases hc:kinds[n.Col.toNat]? with
   |none=>exact .inl rfl
   |some z=>exact hk z (sv hc)
 | .un n a,_,k,h=>by
  unfold kd at h
  cases ha:kd kinds a with
  |none=>rw [ha]at h;cases h
  |some x=>
   rw [ha,cq]at h
   split at h
   ·cases h;exact Rv ..
   ·cases h
 | .bi n a b,_,k,h=>by
  unfold kd at h
  cases ha:kd kinds a with
  |none=>rw [ha]at h;cases h
  |some x=>
   cases hb:kd kinds b with
   |none=>rw [ha,hb]at h;cases h
   |some y=>
    rw [ha,hb]at h
    simp only [cq]at h
    split at h
    ·cases h;exact Rv ..
    ·cases h
theorem H7(stack l:List Int)(h:stack.length+l.length≤100000):m5 (stack++l) (l.length:Int)=some (l,stack):=by
 unfold m5 cD
 have e:IntKind.i64.wrap (((stack++l).length:Int)-(l.length:Int))=(stack.length:Int):=by
  rw [mq,lW (by omega) (by omega)];omega
 rw [e,iw stack.length (stack++l).length rfl rfl (by simp) (gp _)]
 simp only [cq,Bc,Kk (gp _),List.drop_length,nF]
 rw [dM (by simp;omega)]
 simp only [cq,nF]
 rw [iw (i:=0) 0 stack.length rfl rfl (jJ _) (by simp)]
 simp
theorem Gu(stack:List Int){b:Int}(h:b≠0):kr b stack=some (0,b):=by
 unfold kr;rw [dy (by simpa using h)]
theorem lD(h:pk tag=some k):nj tag=some (k:Int):=by
 rw [wF];unfold SK;rw [h]
theorem KV(kinds:List Int)(hk: ∀k∈kinds,k4 k)(t:Tr):t.wf→G1 kinds.length t→ ∀(s:Nat) (rest:List bc) (stack:List Int),stack.length+t.size≤50000→
  ge (ir kinds) (t.flat s++rest) 0 stack=match kd kinds t with
   |some k=>ge (ir kinds) rest 0 (stack++[k])
   |none=>some (0,201):=by
 induction t with
 |lf n=>
  intro⟨h1,h2,h3,h4⟩ hc s rest stack hl
  simp only [Tr.flat,Tr.size,CF,nF]at hl ⊢
  rw [ge]
  have e1:(kh n (-1) (-1)).Tag=n.Tag:=rfl
  rw [e1,lD h1]
  have h0:=H7 stack [] (by simp;omega)
  simp only [Bb,CD]at h0
  simp only [cq]
  rw [h0]
  simp only [cq]
  have hv:ir kinds (kh n (-1) (-1)) []=(kd kinds (.lf n)).map (fun k=>(k,(0:Int))):=by
   unfold ir kw kd
   simp only [e1]
   rcases Xu h1 with ht|ht
   ·rw [dy (by simp [ht]),dy ht];rfl
   ·rw [dd (by simp [ht]),dy (by simp [ht]),dd (by simp [ht])]
    have hb:=QR h2 ht
    have hm:n.Col<kinds.length:=hc ht
    have e2:(kh n (-1) (-1)).Col=n.Col:=rfl
    rw [e2,nh n.Col.toNat (by omega),pR (by omega)]
    rfl
  rw [hv]
  have: ∃k,kd kinds (.lf n)=some k:=by unfold kd;split<;>exact⟨_,rfl⟩
  obtain⟨k,hk1⟩:=this
  rw [hk1]
  simp only [Da,cq]
  rw [dd (by simp),dM (by simp;omega)]
  rfl
 |un n a ih=>
  intro⟨⟨h1,h2,h3,h4⟩,ha⟩ hc s rest stack hl
  simp only [Tr.flat,Tr.size,rR]at hl ⊢
  rw [UD,ih ha hc s _ stack (by omega)]
  cases hx:kd kinds a with
  |none=>rfl
  |some x=>
   have hx4:=MN hk a ha hx
   simp only [cq,CF,nF]
   rw [ge]
   have e1:(kh n (((s+a.size:Nat):Int)-1) (-1)).Tag=n.Tag:=rfl
   rw [e1,lD h1]
   have h0:=H7 stack [x] (by simp;omega)
   simp only [cq]
   have e0:(([x]:List Int).length:Int)=((1:Nat):Int):=rfl
   rw [←e0,h0]
   simp only [cq]
   rw [IM kinds _ x hx4 (by rw [e1];exact h1),e1]
   cases hb:(kn n.Tag x 0).2 with
   |true=>
    simp only [oo,cq]
    rw [dd (by simp),dM (by simp;omega)]
    rfl
   |false=>
    simp only [wL,qw,cq]
    rw [dy (by decide),Gu _ (by decide)]
 |bi n a b iha ihb=>
  intro⟨⟨h1,h2,h3,h4⟩,ha,hb⟩ ⟨hca,hcb⟩ s rest stack hl
  simp only [Tr.flat,Tr.size,rR]at hl ⊢
  rw [UE,iha ha hca s _ stack (by omega)]
  cases hx:kd kinds a with
  |none=>rfl
  |some x=>
   have hx4:=MN hk a ha hx
   simp only [cq]
   rw [ihb hb hcb (s+a.size) _ (stack++[x]) (by have:=a.size_pos;simp;omega)]
   cases hy:kd kinds b with
   |none=>rfl
   |some y=>
    have hy4:=MN hk b hb hy
    have hap:=a.size_pos
    simp only [cq,CF,nF]
    rw [ge]
    have e1:(kh n (((s+a.size:Nat):Int)-1) (((s+a.size+b.size:Nat):Int)-1)).Tag=n.Tag:=rfl
    rw [e1,lD h1]
    have h0:=H7 stack [x,y] (by simp;omega)
    simp only [cq]
    have e0:(([x,y]:List Int).length:Int)=((2:Nat):Int):=rfl
    have e9:stack++[x]++[y]=stack++[x,y]:=by simp
    rw [←e0,e9,h0]
    simp only [cq]
    rw [IL kinds _ x y hx4 hy4 (by rw [e1];exact h1),e1]
    cases hb:(kn n.Tag x y).2 with
    |true=>
     simp only [oo,cq]
     rw [dd (by simp),dM (by simp;omega)]
     rfl
    |false=>
     simp only [wL,qw,cq]
     rw [dy (by decide),Gu _ (by decide)]
def vj(m:Nat)(ns:List bc):Bool:=ns.all fun n=> !((n.Tag==2)&&decide ((m:Int)≤n.Col))
theorem G2(m:Nat)(t:Tr):t.wf→ ∀s,vj m (t.flat s)=true→G1 m t:=by
 induction t with
 |lf n=>
  intro _ s h ht
  simp only [vj,Tr.flat,uo,List.all_nil,Bool.and_true]at h
  have e1:(kh n (-1) (-1)).Tag=n.Tag:=rfl
  have e2:(kh n (-1) (-1)).Col=n.Col:=rfl
  simp [e1,e2,ht]at h
  exact h
 |un n a ih=>
  intro⟨_,ha⟩ s h
  simp only [vj,Tr.flat,List.all_append,iP]at h
  exact ih ha s h.1
 |bi n a b iha ihb=>
  intro⟨_,ha,hb⟩ s h
  simp only [vj,Tr.flat,List.all_append,iP]at h
  exact⟨iha ha s h.1.1,ihb hb _ h.1.2⟩
def SX(kinds:List Int):Bool:=kinds.all fun k=>decide (0≤k)&&decide (k≤3)
theorem MO(k:Int)(ks:List Int):SX (k::ks)=((decide (0≤k)&&decide (k≤3))&&SX ks):=rfl
theorem OO{kinds:List Int}(h:SX kinds=true){k:Int}(hk:k∈kinds):k4 k:=by
 have:=kZ.1 h k hk
 simp at this
 unfold k4;omega
def rD(e:bf)(kinds:List Int):Int×Int:=
 if oE e.Nodes then if SX kinds then if vj kinds.length e.Nodes then match (nN e.Nodes).bind (kd kinds)with
  |some k=>(k,0)
  |none=>(0,201)else(0,2)else(0,2)else(0,200)
theorem Cx(e:bf)(kinds:List Int): ∀cs:List Int,kR e kinds cs=if cs.all (fun c=>decide (c<(kinds.length:Int)))then mX e (ir kinds)else some (0,2)
 |[]=>by
  unfold kR
  cases mX e (ir kinds)<;>rfl
 |c::cs=>by
  unfold kR
  rw [Cx e kinds cs]
  by_cases h:(kinds.length:Int)≤c
  ·rw [dy (by simpa using h),dd (by simp;omega)]
  ·rw [dd (by simpa using h)]
   have:c<(kinds.length:Int):=by omega
   simp [this]
theorem qj(e:bf)(kinds:List Int)(hl:e.Nodes.length≤50000):mE e kinds=some (rD e kinds):=by
 unfold mE rD
 rw [sm e (by omega)]
 cases hr:oE e.Nodes with
 |false=>rfl
 |true=>
  simp only [oo,cq]
  rw [dd (by decide)]
  have key: ∀ks:List Int,nX e kinds ks=if SX ks then(qt e).bind (kR e kinds)else some (0,2):=by
   intro ks
   induction ks with
   |nil=>rfl
   |cons k ks ih=>
    unfold nX
    rw [ih]
    by_cases h:k<0∨3<k
    ·rw [dy (by simpa using h),dd (by simp [SX];omega)]
    ·rw [dd (by simpa using h)]
     have h1:(decide (0≤k)&&decide (k≤3))=true:=by simp;omega
     rw [MO,h1,Ak]
  rw [key]
  cases hk:SX kinds with
  |false=>rfl
  |true=>
   simp only [oo]
   obtain⟨cs,h1,h2⟩:=yi e hr
   rw [h1,cq,Cx]
   have hci:cs.all (fun c=>decide (c<(kinds.length:Int)))=vj kinds.length e.Nodes:=by
    rw [yL]
    simp only [kZ,ui,vj,Ao,Bool.and_eq_false_iff,beq_eq_false_iff_ne,Hu]
    constructor
    ·intro h n hn
     by_cases ht:n.Tag=2
     ·exact .inr (by have:=h _ ((h2 n.Col).2 ⟨n,hn,ht,rfl⟩);omega)
     ·exact .inl ht
    ·intro h c hc
     obtain⟨n,hn,ht,rfl⟩:=(h2 c).1 hc
     rcases h n hn with h|h
     ·exact absurd ht h
     ·omega
   rw [hci]
   cases hc:vj kinds.length e.Nodes with
   |false=>rfl
   |true=>
    simp only [oo]
    cases ht:nN e.Nodes with
    |none=>unfold oE at hr;rw [ht]at hr;cases hr
    |some t=>
     obtain⟨hw,hN,hs⟩:=uv ht
     have hct:=G2 kinds.length t hw 0 (by rw [←hN];exact hc)
     have:=KV kinds (fun k=>OO hk) t hw hct 0 [] [] (by simp;omega)
     rw [Bb,←hN]at this
     unfold mX
     rw [this]
     simp only [cq]
     cases kd kinds t with
     |none=>rfl
     |some k=>rfl

def zV:M:=⟨0,0,0,[]⟩
def bV(b:Bool):M:=⟨1,if b then 1 else 0,0,[]⟩
def iV(n:Int):M:=⟨2,n,0,[]⟩
def sV(s:im):M:=⟨3,0,0,s⟩
def r64(n:Int):Prop:= -9223372036854775808≤n∧n≤9223372036854775807
inductive Pl:M→Prop
 |z:Pl zV
 |b (b:Bool):Pl (bV b)
 |i (n:Int) (h:r64 n):Pl (iV n)
 |s (s:im) (h:s.length≤40):Pl (sV s)
theorem Pl.plain(h:Pl v):md v=true:=by
 cases h with
 |z=>rfl
 |b b=>cases b<;>rfl
 |i n h=>simp [md,mQ,jO,iV]
 |s s h=>
  have h' :(s.length:Int)≤40:=by omega
  simp [md,mQ,jO,sV,h']
theorem Pl.right(h:Pl v):mQ v=true:=by
 have:=h.plain
 unfold md at this
 rw [iP]at this
 exact this.1
theorem Gm(h:md v=true)(hr:r64 v.N):Pl v:=by
 obtain⟨k,n,u,s⟩:=v
 unfold md mQ jO at h
 simp only [iP,bne_iff_ne,ne_eq]at h
 obtain⟨h1,h2⟩:=h
 by_cases k0:k=0
 ·subst k0
  simp at h1
  rw [show(⟨0,n,u,s⟩:M)=zV from by simp only [zV];simp [h1]]
  exact .z
 by_cases k1:k=1
 ·subst k1
  simp at h1
  obtain⟨⟨rfl,rfl⟩,h1⟩:=h1
  rcases h1 with rfl|rfl
  ·exact .b false
  ·exact .b true
 by_cases k2:k=2
 ·subst k2
  simp at h1
  obtain⟨rfl,rfl⟩:=h1
  exact .i n hr
 by_cases k3:k=3
 ·subst k3
  simp at h1
  obtain⟨⟨rfl,rfl⟩,h1⟩:=h1
  exact .s s (by omega)
 simp [k0,k1,k2,k3,h2]at h1
theorem Pl.r64(h:Pl v):r64 v.N:=by
 cases h with
 |z=>exact⟨by decide,by decide⟩
 |b b=>cases b<;>exact⟨by decide,by decide⟩
 |i n h=>exact h
 |s s h=>exact⟨by simp [sV],by simp [sV]⟩
theorem Pl.check(h:Pl v):jL v=some 0:=by rw [qG,h.right];rfl
theorem Pl.plain_eq(h:Pl v):kB v=some true:=by rw [qE,h.plain]
theorem Mt{b:M}(ha:Pl a)(hb:Pl b):nm [a,b]=some 0:=by
 unfold nm io io io
 simp [ha.check,hb.check]
theorem G9{b:M}(ha:Pl a)(hb:Pl b)(tw:Int→Int→Option (Int×Bool)):pz a b tw=
  if(a.Kind=0∨a.Kind=2)∧(b.Kind=0∨b.Kind=2)then(if a.Kind=0∨b.Kind=0 then some (zV,0)else(tw a.N b.N).bind fun r=>if r.2 then some (iV r.1,0)else some (zV,140))else some (zV,2):=by
 unfold pz zu kX kX kX
 simp only [ha.check,hb.check,cq]
 cases ha<;>cases hb<;>simp [zV,bV,iV,sV,qF,qn]
 congr 1
 funext r
 cases r.2<;>rfl
inductive Tu:M→Prop
 |z:Tu zV
 |b (b:Bool):Tu (bV b)
theorem Tu.pl(h:Tu v):Pl v:=by cases h;exact .z;exact .b _
theorem lZ(h:Pl v):Tu v↔v.Kind≤1:=by
 constructor
 ·intro h;cases h<;>simp [zV,bV]
 ·intro hk
  cases h with
  |z=>exact .z
  |b b=>exact .b b
  |i n h=>simp [iV]at hk
  |s s h=>simp [sV]at hk
def tn(v:M):Int:=if v.Kind=0 then 1 else 2*v.N
def tv(n:Int):M:=if n=0 then bV false else if n=1 then zV else bV true
theorem Me(h:Tu v):tn v=0∨tn v=1∨tn v=2:=by
 cases h with
 |z=>exact .inr (.inl rfl)
 |b b=>cases b;exact .inl rfl;exact .inr (.inr rfl)
theorem Bl(h:Tu v):ur v=some (tn v):=by
 cases h with
 |z=>rfl
 |b b=>cases b<;>rfl
theorem Mc{n:Int}(h:n=0∨n=1∨n=2):Tu (tv n):=by
 rcases h with rfl|rfl|rfl
 ·exact .b false
 ·exact .z
 ·exact .b true
theorem Ie(h:Pl v)(hn: ¬Tu v):decide (1<v.Kind)=true:=by
 rw [lZ h]at hn;simp;omega
theorem UI(h:Tu v):decide (1<v.Kind)=false:=by
 have:=(lZ h.pl).1 h;simp;omega
def NF(a b:M):M:=tv (min (tn a) (tn b))
def Uy(a b:M):M:=tv (max (tn a) (tn b))
def MF(a:M):M:=tv (2-tn a)
theorem EA{b:M}(ha:Tu a)(hb:Tu b):qo a b=some (NF a b,0):=by
 cases ha with
 |z=>cases hb with
  |z=>rfl
  |b b=>cases b<;>rfl
 |b x=>cases hb with
  |z=>cases x<;>rfl
  |b b=>cases x<;>cases b<;>rfl
theorem FY{b:M}(ha:Tu a)(hb:Tu b):sy a b=some (Uy a b,0):=by
 cases ha with
 |z=>cases hb with
  |z=>rfl
  |b b=>cases b<;>rfl
 |b x=>cases hb with
  |z=>cases x<;>rfl
  |b b=>cases x<;>cases b<;>rfl
theorem xv(ha:Tu a):oA a=some (MF a,0):=by
 cases ha with
 |z=>rfl
 |b x=>cases x<;>rfl
theorem BS{b:M}(ha:Pl a)(hb:Pl b)(h: ¬(Tu a∧Tu b))(tw:List Int→Option Int):lX tw [a,b]=some (zV,2):=by
 unfold lX
 rw [Mt ha hb]
 simp only [cq]
 rw [dd (by decide)]
 unfold ke
 by_cases h1:Tu a
 ·have h2: ¬Tu b:=fun k=>h ⟨h1,k⟩
  rw [UI h1]
  simp only [wL,qw,Bl h1,cq]
  rw [dM (by simp)]
  simp only [cq]
  unfold ke
  rw [Ie hb h2,dy rfl];rfl
 ·rw [Ie ha h1,dy rfl];rfl
theorem CQ(ha:Pl a)(h: ¬Tu a):oA a=some (zV,2):=by
 unfold oA lX nm io io
 rw [ha.check]
 simp only [cq]
 rw [dd (by decide)]
 unfold ke
 simp only [cq]
 rw [dd (by decide),Ie ha h,dy rfl];rfl
def QS(a b:M):Int:=(lq a b).getD 0
theorem yS{b:M}(ha:Pl a)(hb:Pl b):lq a b=some (QS a b):=by
 unfold QS
 have: ∃c,lq a b=some c:=by
  unfold lq
  rw [ha.plain_eq,hb.plain_eq]
  simp only [cq,wa,xo,oo,qw]
  unfold pN pj n7 m6 pE gW
  simp only [bne_self_eq_false,cq,wL,qw]
  have h1: ∀x y:Int,∃c,(if decide (x<y)=true then some (-1:Int)else if decide (y<x)=true then some 1 else some 0)=some c:=by
   intro x y;repeat' split
   all_goals exact⟨_,rfl⟩
  obtain⟨c1,e1⟩:=h1 a.Kind b.Kind
  obtain⟨c2,e2⟩:=h1 a.N b.N
  rw [e1,e2]
  simp only [cq]
  unfold xc j4 j4 j4 j4
  repeat' split
  all_goals exact⟨_,rfl⟩
 obtain⟨c,h⟩:=this
 rw [h];rfl
theorem OS{b:M}(ha:Pl a)(hb:Pl b){is:Int→Option Bool}(hf: ∀c,is c=some (f c)):oz a b is=
  some (if a.Kind=0∨b.Kind=0 then(zV,0)else if a.Kind=b.Kind then(bV (f (QS a b)),0)else(zV,2)):=by
 unfold oz
 rw [Mt ha hb]
 simp only [cq,yS ha hb,hf,qF]
 have hbv: ∀x,qH x=some (bV x):=fun x=>by cases x<;>rfl
 simp only [hbv,cq]
 cases ha<;>cases hb<;>simp [zV,bV,iV,sV]

def ym:List (Int×(M→M→Option (M×Int))):=(vT).getD []
theorem Fn:vT=some ym:=rfl
def QI(tag:Int):M→M→Option (M×Int):=(nV ym tag).getD (fun _ _=>none)
theorem dz4:QI 4=kQ vW:=rfl
theorem dz5:QI 5=kQ oA:=rfl
theorem dz6:QI 6=mn true:=rfl
theorem dz7:QI 7=mn false:=rfl
theorem XR:QI 20=j3 lY:=rfl
theorem XQ:QI 22=qo:=rfl
theorem XP:QI 23=sy:=rfl
def WY(tag x y:Int):Int×Bool:=(if tag=12 then pA x y else if tag=13 then nB x y else if tag=14 then nC x y else nD x y).getD (0,false)
theorem sE(n:Int):r64 (IntKind.i64.wrap n):=by rw [FO];unfold r64;omega
theorem AP(n:Int)(h:r64 n):nk n=some (n.natAbs:Int):=by
 unfold r64 at h
 unfold nk
 by_cases hn:n<0
 ·rw [dy (by simpa using hn),IntKind.wrap_u64,IntKind.wrap_u64]
  congr 1;omega
 ·rw [dd (by simpa using hn),IntKind.wrap_u64]
  congr 1;omega
theorem R7(tag x y:Int)(hx:r64 x)(hy:r64 y):(if tag=12 then pA x y else if tag=13 then nB x y else if tag=14 then nC x y else nD x y)=some (WY tag x y)∧r64 (WY tag x y).1:=by
 unfold WY
 split
 ·exact⟨rfl,sE _⟩
 ·split
  ·exact⟨rfl,sE _⟩
  ·split
   ·unfold nC pJ oa
    simp only [AP x hx,AP y hy,cq]
    split
    ·exact⟨rfl,sE _⟩
    ·exact⟨rfl,sE _⟩
   ·unfold nD
    by_cases h0:y=0
    ·subst h0;exact⟨rfl,show r64 0 from⟨by decide,by decide⟩⟩
    ·rw [dd (by simpa using h0)]
     simp only [AP x hx,AP y hy,cq]
     have hn:nz ((y.natAbs:Nat):Int)=some ():=by
      unfold nz
      rw [dd (by omega)]
     rw [hn]
     unfold oa
     simp only [cq]
     split
     ·exact⟨rfl,sE _⟩
     ·exact⟨rfl,sE _⟩
def Ha(tag:Int)(a b:M):M×Int:=
 if(a.Kind=0∨a.Kind=2)∧(b.Kind=0∨b.Kind=2)then(if a.Kind=0∨b.Kind=0 then(zV,0)else if(WY tag a.N b.N).2 then(iV (WY tag a.N b.N).1,0)else(zV,140))else(zV,2)
def jA(f:Int→Bool)(a b:M):M×Int:=if a.Kind=0∨b.Kind=0 then(zV,0)else if a.Kind=b.Kind then(bV (f (QS a b)),0)else(zV,2)
def Ig(q:M×Int):M×Int:=if q.2=0 then(MF q.1,0)else q
def FH(tag:Int)(a b:M):M×Int:=
 if tag=4 then Ha 13 (iV 0) a else
 if tag=5 then(if a.Kind≤1 then(MF a,0)else(zV,2))else
 if tag=6 then(bV (a.Kind==0),0)else
 if tag=7 then(bV (a.Kind !=0),0)else
 if tag≤15 then Ha tag a b else
 if tag=16 then jA (fun c=>c==0) a b else
 if tag=17 then Ig (jA (fun c=>c==0) a b)else
 if tag=18 then jA (fun c=>decide (c<0)) a b else
 if tag=19 then Ig (jA (fun c=>decide (c<0)) b a)else
 if tag=20 then jA (fun c=>decide (c<0)) b a else
 if tag=21 then Ig (jA (fun c=>decide (c<0)) a b)else
 if tag=22 then(if a.Kind≤1∧b.Kind≤1 then(NF a b,0)else(zV,2))else
 (if a.Kind≤1∧b.Kind≤1 then(Uy a b,0)else(zV,2))
theorem BW(f:Int→Bool)(a b:M):(jA f a b).2=0→Tu (jA f a b).1:=by
 unfold jA
 split
 ·intro _;exact .z
 ·split
  ·intro _;exact .b _
  ·intro h;cases h
theorem DW(f:Int→Bool)(a b:M):(jA f a b).2≠0→jA f a b=(zV,2):=by
 unfold jA
 split
 ·intro h;exact absurd rfl h
 ·split
  ·intro h;exact absurd rfl h
  ·intro _;rfl
theorem BL{do1:M→M→Option (M×Int)}{b:M}{x y:M}(h:do1 a b=some (jA f x y)):rh do1 a b=some (Ig (jA f x y)):=by
 unfold rh Ig
 rw [h]
 simp only [cq]
 by_cases h0:(jA f x y).2=0
 ·rw [dd (by simp [h0]),dy h0,xv (BW f x y h0)];rfl
 ·rw [dy (by simpa using h0),dd h0]
theorem Co{b:M}(ha:Pl a)(hb:Pl b){tw:Int→Int→Option (Int×Bool)}(h: ∀x y,tw x y=if tag=12 then pA x y else if tag=13 then nB x y else if tag=14 then nC x y else nD x y):
  (pz a b tw).bind (fun r=>some (r.1,r.2))=some (Ha tag a b):=by
 rw [G9 ha hb]
 unfold Ha
 split
 ·split
  ·rfl
  ·rw [h,(R7 tag a.N b.N ha.r64 hb.r64).1]
   simp only [cq]
   split<;>rfl
 ·rfl
theorem DV{b:M}(ha:Pl a)(hb:Pl b){is:Int→Option Bool}(hf: ∀c,is c=some (f c)):(oz a b is).bind (fun r=>some (r.1,r.2))=some (jA f a b):=by
 rw [OS ha hb hf];rfl
theorem uu{b:M}(ha:Pl a)(hb:Pl b):pn a b=some (jA (fun c=>c==0) a b):=DV ha hb fun _=>rfl
theorem o3{b:M}(ha:Pl a)(hb:Pl b):lY a b=some (jA (fun c=>decide (c<0)) a b):=DV ha hb fun _=>rfl
theorem SL(h:pk tag=some k)(hk:k≠0):tag=4∨tag=5∨tag=6∨tag=7∨tag=12∨tag=13∨tag=14∨tag=15∨tag=16∨tag=17∨tag=18∨tag=19∨tag=20∨tag=21∨tag=22∨tag=23:=by
 unfold pk at h
 repeat' split at h
 all_goals simp at h
 ·exact absurd h.symm hk
 all_goals omega
theorem TR(h:pk tag=some k)(hk:k≠0){b:M}(ha:Pl a)(hb:Pl b):QI tag a b=some (FH tag a b):=by
 have hbv: ∀x,qH x=some (bV x):=fun x=>by cases x<;>rfl
 rcases SL h hk with rfl|rfl|rfl|rfl|rfl|rfl|rfl|rfl|rfl|rfl|rfl|rfl|rfl|rfl|rfl|rfl
 ·rw [dz4];unfold kQ vW qn
  simp only [cq]
  have:=Co (tag:=13) (Pl.i 0 ⟨by decide,by decide⟩) ha (tw:=nB) (fun _ _=>rfl)
  have h2:sJ (iV 0) a=some (Ha 13 (iV 0) a):=this
  rw [show(⟨2,0,0,[]⟩:M)=iV 0 from rfl,h2];rfl
 ·rw [dz5];unfold kQ FH
  rw [dd (by decide),dy rfl]
  by_cases ht:Tu a
  ·rw [xv ht,dy ((lZ ha).1 ht)];rfl
  ·rw [CQ ha ht,dd (fun h=>ht ((lZ ha).2 h))];rfl
 ·rw [dz6];unfold mn
  rw [hbv]
  simp only [cq]
  unfold FH
  rw [dd (by decide),dd (by decide),dy rfl]
  cases hx:(a.Kind==0)<;>rfl
 ·rw [dz7];unfold mn
  rw [hbv]
  simp only [cq]
  unfold FH
  rw [dd (by decide),dd (by decide),dd (by decide),dy rfl]
  simp only [bne]
  cases hx:(a.Kind==0)<;>rfl
 ·exact Co (tag:=12) ha hb fun _ _=>rfl
 ·exact Co (tag:=13) ha hb fun _ _=>rfl
 ·exact Co (tag:=14) ha hb fun _ _=>rfl
 ·exact Co (tag:=15) ha hb fun _ _=>rfl
 ·exact uu ha hb
 ·exact BL (uu ha hb)
 ·exact o3 ha hb
 ·exact BL (do1:=j3 lY) (by unfold j3;rw [o3 hb ha];rfl)
 ·rw [XR];unfold j3;rw [o3 hb ha];rfl
 ·exact BL (o3 ha hb)
 ·rw [XQ]
  show _=some (if a.Kind≤1∧b.Kind≤1 then(NF a b,0)else(zV,2))
  by_cases ht:Tu a∧Tu b
  ·rw [EA ht.1 ht.2,dy ⟨(lZ ha).1 ht.1,(lZ hb).1 ht.2⟩]
  ·rw [dd (fun h=>ht ⟨(lZ ha).2 h.1,(lZ hb).2 h.2⟩)]
   unfold qo
   rw [BS ha hb ht];rfl
 ·rw [XP]
  show _=some (if a.Kind≤1∧b.Kind≤1 then(Uy a b,0)else(zV,2))
  by_cases ht:Tu a∧Tu b
  ·rw [FY ht.1 ht.2,dy ⟨(lZ ha).1 ht.1,(lZ hb).1 ht.2⟩]
  ·rw [dd (fun h=>ht ⟨(lZ ha).2 h.1,(lZ hb).2 h.2⟩)]
   unfold sy
   rw [BS ha hb ht];rfl
theorem TY{b:M}(ha:Pl a)(hb:Pl b):(Ha tag a b).2=0→Pl (Ha tag a b).1:=by
 unfold Ha
 split
 ·split
  ·intro _;exact .z
  ·split
   ·intro _;exact .i _ (R7 tag a.N b.N ha.r64 hb.r64).2
   ·intro h;cases h
 ·intro h;cases h
theorem QW(tag:Int)(a b:M):(Ha tag a b).2≠0→Ha tag a b=(zV,140)∨Ha tag a b=(zV,2):=by
 unfold Ha
 split
 ·split
  ·intro h;exact absurd rfl h
  ·split
   ·intro h;exact absurd rfl h
   ·intro _;exact .inl rfl
 ·intro _;exact .inr rfl
theorem Jg(h:Tu a):Tu (MF a):=by
 unfold MF
 apply Mc
 have:=Me h;omega
theorem QX{b:M}(h:Tu a)(k:Tu b):Tu (NF a b):=by
 apply Mc
 have:=Me h;have:=Me k;omega
theorem SN{b:M}(h:Tu a)(k:Tu b):Tu (Uy a b):=by
 apply Mc
 have:=Me h;have:=Me k;omega
theorem ST(f:Int→Bool)(a b:M):(Ig (jA f a b)).2=0→Tu (Ig (jA f a b)).1:=by
 unfold Ig
 split
 ·rename_i h;intro _;exact Jg (BW f a b h)
 ·rename_i h;intro k;exact absurd k h
theorem OJ(f:Int→Bool)(a b:M):(Ig (jA f a b)).2≠0→Ig (jA f a b)=(zV,2):=by
 unfold Ig
 split
 ·intro h;exact absurd rfl h
 ·rename_i h;intro _;exact DW f a b h
theorem KR(h:pk tag=some k)(hk:k≠0){b:M}(ha:Pl a)(hb:Pl b):
  ((FH tag a b).2=0∧Pl (FH tag a b).1)∨FH tag a b=(zV,2)∨(FH tag a b=(zV,140)∧(tag=4∨(12≤tag∧tag≤15))):=by
 have har: ∀t x y,Pl x→Pl y→((Ha t x y).2=0∧Pl (Ha t x y).1)∨Ha t x y=(zV,2)∨Ha t x y=(zV,140):=by
  intro t x y hx hy
  by_cases h0:(Ha t x y).2=0
  ·exact .inl ⟨h0,TY hx hy h0⟩
  ·rcases QW t x y h0 with h|h
   ·exact .inr (.inr h)
   ·exact .inr (.inl h)
 have hh: ∀f x y,((jA f x y).2=0∧Pl (jA f x y).1)∨jA f x y=(zV,2):=by
  intro f x y
  by_cases h0:(jA f x y).2=0
  ·exact .inl ⟨h0,(BW f x y h0).pl⟩
  ·exact .inr (DW f x y h0)
 have hn: ∀f x y,((Ig (jA f x y)).2=0∧Pl (Ig (jA f x y)).1)∨Ig (jA f x y)=(zV,2):=by
  intro f x y
  by_cases h0:(Ig (jA f x y)).2=0
  ·exact .inl ⟨h0,(ST f x y h0).pl⟩
  ·exact .inr (OJ f x y h0)
 rcases SL h hk with rfl|rfl|rfl|rfl|rfl|rfl|rfl|rfl|rfl|rfl|rfl|rfl|rfl|rfl|rfl|rfl
 ·rcases har 13 (iV 0) a (.i 0 ⟨by decide,by decide⟩) ha with h|h|h
  ·exact .inl h
  ·exact .inr (.inl h)
  ·exact .inr (.inr ⟨h,.inl rfl⟩)
 ·show _∨_∨_
  unfold FH
  rw [dd (by decide),dy rfl]
  split
  ·rename_i hk;exact .inl ⟨rfl,(Jg ((lZ ha).2 hk)).pl⟩
  ·exact .inr (.inl rfl)
 ·exact .inl ⟨rfl,.b _⟩
 ·exact .inl ⟨rfl,.b _⟩
 ·rcases har 12 a b ha hb with h|h|h
  ·exact .inl h
  ·exact .inr (.inl h)
  ·exact .inr (.inr ⟨h,by decide⟩)
 ·rcases har 13 a b ha hb with h|h|h
  ·exact .inl h
  ·exact .inr (.inl h)
  ·exact .inr (.inr ⟨h,by decide⟩)
 ·rcases har 14 a b ha hb with h|h|h
  ·exact .inl h
  ·exact .inr (.inl h)
  ·exact .inr (.inr ⟨h,by decide⟩)
 ·rcases har 15 a b ha hb with h|h|h
  ·exact .inl h
  ·exact .inr (.inl h)
  ·exact .inr (.inr ⟨h,by decide⟩)
 ·exact(hh (fun c=>c==0) a b).imp_right .inl
 ·exact(hn (fun c=>c==0) a b).imp_right .inl
 ·exact(hh (fun c=>decide (c<0)) a b).imp_right .inl
 ·exact(hn (fun c=>decide (c<0)) b a).imp_right .inl
 ·exact(hh (fun c=>decide (c<0)) b a).imp_right .inl
 ·exact(hn (fun c=>decide (c<0)) a b).imp_right .inl
 ·show _∨_∨_
  rw [show FH 22 a b=if a.Kind≤1∧b.Kind≤1 then(NF a b,0)else(zV,2)from rfl]
  split
  ·rename_i h;exact .inl ⟨rfl,(QX ((lZ ha).2 h.1) ((lZ hb).2 h.2)).pl⟩
  ·exact .inr (.inl rfl)
 ·show _∨_∨_
  rw [show FH 23 a b=if a.Kind≤1∧b.Kind≤1 then(Uy a b,0)else(zV,2)from rfl]
  split
  ·rename_i h;exact .inl ⟨rfl,(SN ((lZ ha).2 h.1) ((lZ hb).2 h.2)).pl⟩
  ·exact .inr (.inl rfl)

def dz(tag:Int)(a b:M):M×Int:=if(FH tag a b).2=0 then FH tag a b else(zV,if(FH tag a b).2=140 then 140 else 201)
def Ai(q:M×Int)(f:M→M×Int):M×Int:=if q.2=0 then f q.1 else q
def ev(r:List M):Tr→M×Int
 | .lf n=>if n.Tag=1 then(n.Value,0)else((r[n.Col.toNat]?).getD zV,0)
 | .un n a=>Ai (ev r a) fun x=>dz n.Tag x x
 | .bi n a b=>Ai (ev r a) fun x=>Ai (ev r b) fun y=>dz n.Tag x y
def SI:Tr→Prop
 | .lf n=>r64 n.Value.N
 | .un _ a=>SI a
 | .bi _ a b=>SI a∧SI b
def Cl(r:List M):Tr→Prop
 | .lf n=>n.Tag=2→n.Col.toNat<r.length∧ ∃v,r[n.Col.toNat]? =some v∧Pl v
 | .un _ a=>Cl r a
 | .bi _ a b=>Cl r a∧Cl r b
theorem vd(h:pk tag=some k)(hk:k≠0){b:M}(ha:Pl a)(hb:Pl b):
  ((dz tag a b).2=0∧Pl (dz tag a b).1∧dz tag a b=FH tag a b)∨(dz tag a b=(zV,201)∧FH tag a b=(zV,2))∨(dz tag a b=(zV,140)∧FH tag a b=(zV,140)∧(tag=4∨(12≤tag∧tag≤15))):=by
 unfold dz
 rcases KR h hk ha hb with⟨h1,h2⟩|h1|⟨h1,h2⟩
 ·rw [dy h1];exact .inl ⟨h1,h2,rfl⟩
 ·rw [h1];exact .inr (.inl ⟨rfl,rfl⟩)
 ·rw [h1];exact .inr (.inr ⟨rfl,rfl,h2⟩)
theorem RC(r:List M)(n:bc)(a:Tr):ev r (.un n a)=Ai (ev r a) fun x=>dz n.Tag x x:=rfl
theorem RD(r:List M)(n:bc)(a b:Tr):ev r (.bi n a b)=Ai (ev r a) fun x=>Ai (ev r b) fun y=>dz n.Tag x y:=rfl
theorem sI{q:M×Int}{f:M→M×Int}(h:q.2=0):Ai q f=f q.1:=dy h
theorem mG{q:M×Int}{f:M→M×Int}(h:q.2≠0):Ai q f=q:=dd h
theorem yj(r:List M)(t:Tr):t.wf→SI t→Cl r t→((ev r t).2=0∧Pl (ev r t).1)∨ev r t=(zV,201)∨ev r t=(zV,140):=by
 induction t with
 |lf n=>
  intro⟨h1,h2,_,_⟩ hr hc
  unfold ev
  split
  ·rename_i ht;exact .inl ⟨rfl,Gm (Vd h2 ht) hr⟩
  ·rename_i ht
   have ht2:n.Tag=2:=(Xu h1).resolve_left ht
   obtain⟨_,v,hv,hp⟩:=hc ht2
   rw [hv];exact .inl ⟨rfl,hp⟩
 |un n a ih=>
  intro⟨⟨h1,_,_,_⟩,ha⟩ hr hc
  rw [RC]
  rcases ih ha hr hc with⟨h2,h3⟩|h2|h2
  ·rw [sI h2]
   rcases vd h1 (by decide) h3 h3 with⟨h4,h5,_⟩|⟨h4,_⟩|⟨h4,_⟩
   ·exact .inl ⟨h4,h5⟩
   ·exact .inr (.inl h4)
   ·exact .inr (.inr h4)
  ·rw [h2,mG (by decide)];exact .inr (.inl rfl)
  ·rw [h2,mG (by decide)];exact .inr (.inr rfl)
 |bi n a b iha ihb=>
  intro⟨⟨h1,_,_,_⟩,ha,hb⟩ ⟨hra,hrb⟩ ⟨hca,hcb⟩
  rw [RD]
  rcases iha ha hra hca with⟨h2,h3⟩|h2|h2
  ·rw [sI h2]
   rcases ihb hb hrb hcb with⟨k2,k3⟩|k2|k2
   ·rw [sI k2]
    rcases vd h1 (by decide) h3 k3 with⟨h4,h5,_⟩|⟨h4,_⟩|⟨h4,_⟩
    ·exact .inl ⟨h4,h5⟩
    ·exact .inr (.inl h4)
    ·exact .inr (.inr h4)
   ·rw [k2,mG (by decide)];exact .inr (.inl rfl)
   ·rw [k2,mG (by decide)];exact .inr (.inr rfl)
  ·rw [h2,mG (by decide)];exact .inr (.inl rfl)
  ·rw [h2,mG (by decide)];exact .inr (.inr rfl)
theorem EV(stack l:List M)(h:stack.length+l.length≤100000):jw (stack++l) (l.length:Int)=some (l,stack):=by
 unfold jw eT
 have e:IntKind.i64.wrap (((stack++l).length:Int)-(l.length:Int))=(stack.length:Int):=by
  rw [mq,lW (by omega) (by omega)];omega
 rw [e,iw stack.length (stack++l).length rfl rfl (by simp) (gp _)]
 simp only [cq,Bc,Kk (gp _),List.drop_length,nF]
 rw [dM (by simp;omega)]
 simp only [cq,nF]
 rw [iw (i:=0) 0 stack.length rfl rfl (jJ _) (by simp)]
 simp
theorem vI(stack:List M){b:Int}(h:b≠0):fC b stack=some (zV,b):=by
 unfold fC;rw [dy (by simpa using h)];rfl
theorem Ej(r:List M)(n:bc)(h:pk n.Tag=some k)(hk:k≠0){b:M}(ha:Pl a)(hb:Pl b){l:List M}(h0:dR l 0=some a)(h1:dR l (IntKind.i64.wrap ((l.length:Int)-1))=some b):
  gI r ym n l=some ((FH n.Tag a b).1,(dz n.Tag a b).2):=by
 have hn:=SL h hk
 unfold gI
 rw [dd (by simp;omega),dd (by simp;omega),h0]
 simp only [cq]
 rw [h1]
 simp only [cq]
 have:=TR h hk ha hb
 unfold QI at this
 rw [this]
 simp only [cq]
 unfold nY
 rcases vd h hk ha hb with⟨h2,_,h4⟩|⟨h2,h4⟩|⟨h2,h4,_⟩
 ·rw [h4]at h2;rw [h4,h2];rfl
 ·rw [h2,h4];rfl
 ·rw [h2,h4];rfl
theorem H6(r:List M)(t:Tr):t.wf→SI t→Cl r t→ ∀(s:Nat) (rest:List bc) (stack:List M),stack.length+t.size≤50000→
  dr (gI r ym) (t.flat s++rest) 0 stack=if(ev r t).2=0 then dr (gI r ym) rest 0 (stack++[(ev r t).1])else some (zV,(ev r t).2):=by
 induction t with
 |lf n=>
  intro⟨h1,h2,h3,h4⟩ hr hc s rest stack hl
  simp only [Tr.flat,Tr.size,CF,nF]at hl ⊢
  rw [dr]
  have e1:(kh n (-1) (-1)).Tag=n.Tag:=rfl
  rw [e1,lD h1]
  have h0:=EV stack [] (by simp;omega)
  simp only [Bb,CD]at h0
  simp only [cq]
  rw [h0]
  simp only [cq]
  have hv:gI r ym (kh n (-1) (-1)) []=some (ev r (.lf n)):=by
   unfold gI ev
   simp only [e1]
   rcases Xu h1 with ht|ht
   ·rw [dy (by simp [ht]),dy ht];rfl
   ·rw [dd (by simp [ht]),dy (by simp [ht]),dd (by simp [ht])]
    have hb:=QR h2 ht
    obtain⟨hm,v,hv,_⟩:=hc ht
    have e2:(kh n (-1) (-1)).Col=n.Col:=rfl
    rw [e2,nh n.Col.toNat (by omega),hv]
    rfl
  have e0:(ev r (.lf n)).2=0:=by unfold ev;split<;>rfl
  rw [hv,dy e0]
  simp only [cq,e0]
  rw [dd (by simp),dM (by simp;omega)]
  rfl
 |un n a ih=>
  intro⟨⟨h1,h2,h3,h4⟩,ha⟩ hr hc s rest stack hl
  simp only [Tr.flat,Tr.size,rR]at hl ⊢
  rw [RC,ih ha hr hc s _ stack (by omega)]
  by_cases hx:(ev r a).2=0
  ·have hp:Pl (ev r a).1:=by
    rcases yj r a ha hr hc with⟨_,h⟩|h|h
    ·exact h
    ·rw [h]at hx;cases hx
    ·rw [h]at hx;cases hx
   rw [dy hx,sI hx]
   generalize (ev r a).1=x at hp
   simp only [CF,nF]
   rw [dr]
   have e1:(kh n (((s+a.size:Nat):Int)-1) (-1)).Tag=n.Tag:=rfl
   rw [e1,lD h1]
   have h0:=EV stack [x] (by simp;omega)
   simp only [cq]
   have e0:(([x]:List M).length:Int)=((1:Nat):Int):=rfl
   rw [←e0,h0]
   simp only [cq]
   rw [Ej r (kh n (((s+a.size:Nat):Int)-1) (-1)) (k:=1) h1 (by decide) hp hp rfl rfl]
   simp only [cq,e1]
   rcases vd h1 (by decide) hp hp with⟨h5,_,h6⟩|⟨h5,_⟩|⟨h5,_⟩
   ·rw [dd (by simp [h5]),dy h5,dM (by simp;omega),h6];rfl
   ·rw [h5,dy (by decide),vI _ (by decide),dd (by decide)]
   ·rw [h5,dy (by decide),vI _ (by decide),dd (by decide)]
  ·rw [dd hx,mG hx,dd hx]
 |bi n a b iha ihb=>
  intro⟨⟨h1,h2,h3,h4⟩,ha,hb⟩ ⟨hra,hrb⟩ ⟨hca,hcb⟩ s rest stack hl
  simp only [Tr.flat,Tr.size,rR]at hl ⊢
  rw [RD,iha ha hra hca s _ stack (by omega)]
  by_cases hx:(ev r a).2=0
  ·have hp:Pl (ev r a).1:=by
    rcases yj r a ha hra hca with⟨_,h⟩|h|h
    ·exact h
    ·rw [h]at hx;cases hx
    ·rw [h]at hx;cases hx
   rw [dy hx,sI hx]
   generalize (ev r a).1=x at hp
   rw [ihb hb hrb hcb (s+a.size) _ (stack++[x]) (by have:=a.size_pos;simp;omega)]
   by_cases hy:(ev r b).2=0
   ·have hq:Pl (ev r b).1:=by
     rcases yj r b hb hrb hcb with⟨_,h⟩|h|h
     ·exact h
     ·rw [h]at hy;cases hy
     ·rw [h]at hy;cases hy
    rw [dy hy,sI hy]
    generalize (ev r b).1=y at hq
    have hap:=a.size_pos
    simp only [CF,nF]
    rw [dr]
    have e1:(kh n (((s+a.size:Nat):Int)-1) (((s+a.size+b.size:Nat):Int)-1)).Tag=n.Tag:=rfl
    rw [e1,lD h1]
    have h0:=EV stack [x,y] (by simp;omega)
    simp only [cq]
    have e0:(([x,y]:List M).length:Int)=((2:Nat):Int):=rfl
    have e9:stack++[x]++[y]=stack++[x,y]:=by simp
    rw [←e0,e9,h0]
    simp only [cq]
    rw [Ej r (kh n (((s+a.size:Nat):Int)-1) (((s+a.size+b.size:Nat):Int)-1)) (k:=2) h1 (by decide) hp hq rfl rfl]
    simp only [cq,e1]
    rcases vd h1 (by decide) hp hq with⟨h5,_,h6⟩|⟨h5,_⟩|⟨h5,_⟩
    ·rw [dd (by simp [h5]),dy h5,dM (by simp;omega),h6];rfl
    ·rw [h5,dy (by decide),vI _ (by decide),dd (by decide)]
    ·rw [h5,dy (by decide),vI _ (by decide),dd (by decide)]
   ·rw [dd hy,mG hy,dd hy]
  ·rw [dd hx,mG hx,dd hx]
def AL(r:List M)(c:Int):Bool:=decide (c<(r.length:Int))&&md ((r[c.toNat]?).getD zV)
def vk(r:List M)(ns:List bc):Bool:=ns.all fun n=> !(n.Tag==2)||AL r n.Col
def rgE(ns:List bc):Prop:= ∀n∈ns,r64 n.Value.N
def Xf(r:List M):Prop:= ∀v∈r,r64 v.N
theorem LC{r:List M}(hr:Xf r){c:Int}(h0:0≤c)(h:AL r c=true):c.toNat<r.length∧ ∃v,r[c.toNat]? =some v∧Pl v:=by
 unfold AL at h
 rw [iP,ui]at h
 have hlt:c.toNat<r.length:=by omega
 refine⟨hlt,r[c.toNat],pR hlt,?_⟩
 have h2:=h.2
 rw [pR hlt]at h2
 exact Gm h2 (hr _ (Db hlt))
theorem IE{r:List M}(hr:Xf r)(t:Tr):t.wf→ ∀s,vk r (t.flat s)=true→Cl r t:=by
 induction t with
 |lf n=>
  intro⟨_,h2,_,_⟩ s h ht
  simp only [vk,Tr.flat,uo,List.all_nil,Bool.and_true]at h
  have e1:(kh n (-1) (-1)).Tag=n.Tag:=rfl
  have e2:(kh n (-1) (-1)).Col=n.Col:=rfl
  rw [e1,e2,ht]at h
  exact LC hr (QR h2 ht).1 (by simpa using h)
 |un n a ih=>
  intro⟨_,ha⟩ s h
  simp only [vk,Tr.flat,List.all_append,iP]at h
  exact ih ha s h.1
 |bi n a b iha ihb=>
  intro⟨_,ha,hb⟩ s h
  simp only [vk,Tr.flat,List.all_append,iP]at h
  exact⟨iha ha s h.1.1,ihb hb _ h.1.2⟩
theorem Mu(t:Tr): ∀s,rgE (t.flat s)→SI t:=by
 induction t with
 |lf n=>intro s h;exact h (kh n (-1) (-1)) (by simp [Tr.flat])
 |un n a ih=>intro s h;exact ih s fun m hm=>h m (by simp [Tr.flat,hm])
 |bi n a b iha ihb=>intro s h;exact⟨iha s fun m hm=>h m (by simp [Tr.flat,hm]),ihb _ fun m hm=>h m (by simp only [Tr.flat,wK];exact .inl (.inr hm))⟩
theorem Md{t:Tr}(hw:t.wf): ∀s {n:bc},n∈t.flat s→n.Tag=2→0≤n.Col∧n.Col<16:=by
 induction t with
 |lf m=>
  intro s n hn ht
  simp only [Tr.flat,uk]at hn
  subst hn
  exact QR hw.2.1 ht
 |un m a ih=>
  intro s n hn ht
  simp only [Tr.flat,wK,uk]at hn
  rcases hn with hn|rfl
  ·exact ih hw.2 s hn ht
  ·exact absurd (pk2 hw.1.1 ht) (by decide)
 |bi m a b iha ihb=>
  intro s n hn ht
  simp only [Tr.flat,wK,uk]at hn
  rcases hn with(hn|hn)|rfl
  ·exact iha hw.2.1 s hn ht
  ·exact ihb hw.2.2 _ hn ht
  ·exact absurd (pk2 hw.1.1 ht) (by decide)
def Xj(r:List M)(ns:List bc):M×Int:=match nN ns with
 |none=>(zV,200)
 |some t=>if vk r ns then ev r t else(zV,2)
theorem CA(e:bf)(r:List M)(x:M): ∀cs:List Int,(∀c∈cs,0≤c)→mF e r cs x=if cs.all (AL r)then gF e (gI r ym)else some (zV,2)
 |[],_=>by
  unfold mF
  rw [Fn]
  simp only [cq]
  cases gF e (gI r ym)<;>rfl
 |c::cs,hc=>by
  unfold mF
  rw [CA e r x cs fun c hm=>hc c (kG _ hm)]
  have h0:=hc c (lV ..)
  by_cases h:(r.length:Int)≤c
  ·have hb:AL r c=false:=by unfold AL;rw [Bool.and_eq_false_iff];left;simp;omega
   simp [h,hb,zV]
  ·have hlt:c.toNat<r.length:=by omega
   have e1:dR r c=some r[c.toNat]:=by rw [nh c.toNat (by omega),pR hlt]
   have hb:AL r c=md r[c.toNat]:=by
    unfold AL
    rw [pR hlt]
    have:decide (c<(r.length:Int))=true:=by simp;omega
    rw [this];rfl
   rw [dy (by simpa using h),e1]
   simp only [cq,qE]
   rw [uo,hb]
   cases md r[c.toNat]<;>simp [zV]
theorem Gt(r:List M){t:Tr}(hw:t.wf)(hr:SI t)(hc:Cl r t)(hs:t.size≤1000):gF ⟨t.flat 0⟩ (gI r ym)=some (ev r t):=by
 unfold gF
 have h:=H6 r t hw hr hc 0 [] [] (by simp;omega)
 rw [Bb]at h
 rw [h]
 rcases yj r t hw hr hc with⟨h2,h3⟩|h2|h2
 ·rw [dy h2]
  unfold dr fC
  rw [dd (by simp)]
  simp only [nF]
  rw [show dR [(ev r t).1] 0=some (ev r t).1 from rfl]
  simp only [cq]
  congr 1
  exact Prod.ext rfl h2.symm
 ·rw [h2,dd (by decide)]
 ·rw [h2,dd (by decide)]
theorem yh(e:bf)(r:List M)(hl:e.Nodes.length≤50000)(he:rgE e.Nodes)(hr:Xf r):sH e r=some (Xj r e.Nodes):=by
 unfold sH Xj
 rw [sm e (by omega)]
 cases ht:nN e.Nodes with
 |none=>
  have:oE e.Nodes=false:=by unfold oE;rw [ht];rfl
  rw [this];rfl
 |some t=>
  have hri:oE e.Nodes=true:=by unfold oE;rw [ht];rfl
  obtain⟨hw,hN,hs⟩:=uv ht
  rw [hri]
  simp only [oo,cq]
  rw [dd (by decide)]
  obtain⟨cs,h1,h2⟩:=yi e hri
  rw [h1]
  simp only [cq]
  have hcnt: ∀n∈e.Nodes,n.Tag=2→0≤n.Col:=fun n hn htag=>by
   rw [hN]at hn
   exact(Md hw 0 hn htag).1
  rw [CA e r _ cs fun c hc=>by obtain⟨n,hn,htag,rfl⟩:=(h2 c).1 hc;exact hcnt n hn htag]
  have hcols:cs.all (AL r)=vk r e.Nodes:=by
   rw [yL,kZ]
   unfold vk
   rw [kZ]
   constructor
   ·intro h n hn
    by_cases htag:n.Tag=2
    ·rw [h n.Col ((h2 _).2 ⟨n,hn,htag,rfl⟩)];simp
    ·simp [htag]
   ·intro h c hc
    obtain⟨n,hn,htag,rfl⟩:=(h2 c).1 hc
    have:=h n hn
    simpa [htag] using this
  rw [hcols]
  cases hb:vk r e.Nodes with
  |false=>rfl
  |true=>
   simp only [oo]
   have e9:e=⟨t.flat 0⟩:=by cases e;simp only at hN;rw [hN]
   rw [hN]at he hb
   rw [e9]
   exact Gt r hw (Mu t 0 he) (IE hr t hw 0 hb) hs

def r0(n:Nat):Bool:=decide (97≤n)&&decide (n≤122)
def zn(n:Nat):Bool:=decide (48≤n)&&decide (n≤57)
def Ub(n:Nat):Bool:=r0 n||zn n||n==95
def SP(b:UInt8):Bool:=Ub b.toNat
theorem xS(n:Nat):sG (n:Int)=some (r0 n):=by
 unfold sG r0
 congr 2<;>(rw [Bg];omega)
theorem E4(n:Nat):vM (n:Int)=some (zn n):=by
 unfold vM zn
 congr 2<;>(rw [Bg];omega)
theorem Id{n:Nat}(h:Ub n=true):n<128:=by
 unfold Ub r0 zn at h
 simp only [zJ,iP,ui,xn]at h
 omega
theorem TX(n:Nat):((n:Int) !=(95:Int))= !(n==95):=by
 rw [bne,yL]
 simp only [Ao,beq_eq_false_iff_ne,ne_eq]
 omega
theorem Nr{s:im}{i:Nat}(h:i<s.length)(hb:(s[i]).toNat<128):qk s i=((s[i]).toNat,1):=
 decode_ascii ⟨s.toArray⟩ i (show i<(ByteArray.mk s.toArray).size from h) hb
theorem LA{s:im}{i:Nat}(h:i<s.length)(hb: ¬(s[i]).toNat<128):128≤(qk s i).1:=
 (decode_high ⟨s.toArray⟩ i (show i<(ByteArray.mk s.toArray).size from h) (show 128≤(s[i]).toNat by omega)).1
theorem Ga(s:im): ∀(f i:Nat),s.length<i+f→mW (qP s f i)=some ((s.drop i).all SP)
 |0,i,h=>by
  rw [As (by omega)];rfl
 |f+1,i,h=>by
  unfold qP
  by_cases hi:i<s.length
  ·rw [dy hi]
   unfold mW
   simp only [E4,xS,cq,TX]
   rw [CM hi,uo]
   by_cases hb:(s[i]).toNat<128
   ·rw [Nr hi hb]
    simp only []
    have ih:=Ga s f (i+1) (by omega)
    have e:SP s[i]=(r0 (s[i]).toNat||zn (s[i]).toNat||(s[i]).toNat==95):=rfl
    rw [e]
    cases h1:zn (s[i]).toNat<;>cases h2:r0 (s[i]).toNat<;>cases h3:((s[i]).toNat==95)<;>simp [ih]
   ·have hh:=LA hi hb
    have e:SP s[i]=false:=by
     cases ho:SP s[i]with
     |false=>rfl
     |true=>exact absurd (Id ho) hb
    have e2:Ub (qk s i).1=false:=by
     cases ho:Ub (qk s i).1 with
     |false=>rfl
     |true=>have:=Id ho;omega
    rw [e,Bool.false_and]
    unfold Ub at e2
    simp only [Bool.or_eq_false_iff]at e2
    obtain⟨⟨h2,h1⟩,h3⟩:=e2
    simp [h1,h2,h3]
  ·rw [dd hi,As (by omega)];rfl
def IY(s:im):Bool:=UM.any fun w=>w==s
theorem Hn(v:im): ∀(l:List im) (i:Nat),∃j:Int,ei v l i=some j∧decide (0≤j)=l.any fun w=>w==v
 |[],i=>⟨-1,rfl,rfl⟩
 |e::l,i=>by
  unfold ei
  by_cases h:v=e
  ·subst h
   exact⟨(i:Int),by simp,by simp⟩
  ·obtain⟨j,h1,h2⟩:=Hn v l (i+1)
   exact⟨j,by simp [h,h1],by simp [h2,Ne.symm h]⟩
theorem wE(s:im):tt s=some (IY s):=by
 unfold tt ip jj
 obtain⟨j,h1,h2⟩:=Hn s UM 0
 rw [h1]
 simp only [cq,h2]
 rfl
def Ua(b:UInt8):UInt8:=UInt8.ofNat (if r0 b.toNat then b.toNat-32 else b.toNat)
theorem Ku: ∀b:UInt8,Ua b=Lib.upperB b:=by
 intro b
 have key: ∀i:Fin 256,Ua (UInt8.ofNat i.val)=Lib.upperB (UInt8.ofNat i.val):=by decide+kernel
 have:=key ⟨b.toNat,b.toNat_lt⟩
 simpa using this
theorem C8(s:im)(hs:s.length≤1000)(ha: ∀b∈s,SP b=true):iD s=some (s.map Ua):=by
 unfold iD
 rw [dy (by omega),Lib.toUpperD_ascii s (fun b hb=>Id (ha b hb))]
 unfold Lib.toUpperA
 rw [show Ua=Lib.upperB from funext Ku]
def RA:im→Bool
 |[]=>false
 |b::_=>r0 b.toNat
def uZ(s:im):Bool:=(decide (1≤s.length)&&decide (s.length≤16)&&RA s)&&(!IY (s.map Ua)&&s.all SP)
theorem Lm{b:UInt8}{t:im}:Ln (b::t) (0:Int)=some (b.toNat:Int):=by unfold Ln;rfl
theorem sh(s:im):oM s=some (uZ s):=by
 unfold oM uZ
 cases s with
 |nil=>rfl
 |cons b t=>
  by_cases hl:(b::t).length≤16
  ·rw [dy (by rw [show((b::t)==([]:im))=false from rfl,wI,Ao,Hu];omega),Lm,cq]
   have hb:=b.toNat_lt
   rw [show IntKind.i32.wrap (b.toNat:Int)=(b.toNat:Int) by rw [IntKind.wrap_i32];omega,xS,cq,cq]
   have e0:(decide (1≤(b::t).length)&&decide ((b::t).length≤16)&&RA (b::t))=r0 b.toNat:=by
    rw [yK (show 1≤(b::t).length by simp),yK hl];rfl
   rw [e0]
   cases hsm:r0 b.toNat with
   |false=>rfl
   |true=>
    have hr:=Ga (b::t) ((b::t).length+1) 0 (by omega)
    rw [uc]at hr
    have hT:iD (b::t)=some (Lib.toUpperD (b::t)):=by unfold iD;rw [dy (by omega)]
    simp only [wa,xo,oo]
    cases ha:(b::t).all SP with
    |true=>
     rw [C8 (b::t) (by omega) (fun c hc=>kZ.1 ha c hc),cq,wE,cq,cq]
     unfold Gb
     rw [hr,ha]
     cases IY ((b::t).map Ua)<;>rfl
    |false=>
     rw [hT,cq,wE,cq,cq]
     unfold Gb
     rw [hr,ha]
     cases IY (Lib.toUpperD (b::t))<;>simp
  ·rw [dd (by rw [show((b::t)==([]:im))=false from rfl,wI,Ao,Hu,Classical.not_not];omega)]
   rw [wJ hl]
   simp

def DP(k:Int):Bool:=k==1||k==2||k==3
theorem AM(k:Int): ∃r,ql k=some r∧(r==([]:im))= !DP k:=by
 have g0:dR S6 ((0:Nat):Int)=some ⟨[98,111,111,108],1⟩:=rfl
 have g1:dR S6 ((0+1:Nat):Int)=some ⟨[105,110,116],2⟩:=rfl
 have g2:dR S6 ((0+1+1:Nat):Int)=some ⟨[116,101,120,116],3⟩:=rfl
 unfold ql
 by_cases h1:k=1
 ·subst h1;exact⟨_,by simp only [iH,g0,cq];rfl,rfl⟩
 by_cases h2:k=2
 ·subst h2;exact⟨_,by simp only [iH,g0,g1,cq];rfl,rfl⟩
 by_cases h3:k=3
 ·subst h3;exact⟨_,by simp only [iH,g0,g1,g2,cq];rfl,rfl⟩
 have n1:((1:Int)==k)=false:=by simpa using Ne.symm h1
 have n2:((2:Int)==k)=false:=by simpa using Ne.symm h2
 have n3:((3:Int)==k)=false:=by simpa using Ne.symm h3
 refine⟨[],?_,?_⟩
 ·simp only [iH,g0,g1,g2,cq,n1,n2,n3];rfl
 ·simp [DP,h1,h2,h3]
def GF(p:List bw)(x:bw):Bool:=p.any fun y=>y.Name==x.Name
def LB:List bw→List bw→Bool
 |_,[]=>true
 |p,x::t=>(!GF p x&&uZ x.Name)&&LB (p++[x]) t
def QO:List bw→List bw→Bool
 |_,[]=>true
 |p,x::t=>(uZ x.Name&&DP x.Kind&& !GF p x)&&QO (p++[x]) t
theorem JT: ∀(t p:List bw),QO p t=(LB p t&&t.all fun x=>DP x.Kind)
 |[],_=>rfl
 |x::t,p=>by
  unfold QO LB
  rw [JT t (p++[x]),uo]
  cases GF p x<;>cases uZ x.Name<;>cases DP x.Kind<;>simp
theorem MS(x:bw)(t:List bw): ∀(p:List bw) (i:Nat),∃k:Nat,cu (eo ew x.Name) (p++x::t) i=some ((i+k:Nat):Int)∧(k !=p.length)=GF p x
 |[],i=>⟨0,by unfold cu;simp [eo,ew],rfl⟩
 |y::p,i=>by
  rw [CF]
  unfold cu
  rw [show eo ew x.Name y=some (y.Name==x.Name)from rfl,cq]
  cases h:(y.Name==x.Name)with
  |true=>exact⟨0,rfl,by unfold GF;rw [List.any_cons,h];rfl⟩
  |false=>
   obtain⟨k,h1,h2⟩:=MS x t p (i+1)
   refine⟨k+1,by rw [dd (by simp),h1];congr 2;omega,?_⟩
   unfold GF at h2 ⊢
   rw [List.any_cons,h,wI,←h2,nG]
   rw [yL];simp
theorem UT(x:bw)(p t:List bw): ∃k:Int,iB (p++x::t) ew x.Name=some (k,true)∧(k !=(p.length:Int))=GF p x:=by
 obtain⟨k,h1,h2⟩:=MS x t p 0
 refine⟨(k:Int),?_,?_⟩
 ·unfold iB ff
  rw [h1,cq,qx]
  have e1:max (k:Int) 0=(k:Int):=by omega
  have e2:decide ((0:Int)≤(k:Int))=true:=yK (by omega)
  rw [e1,e2]
 ·rw [←h2,yL];simp;omega
theorem Rm: ∀(t p:List bw),fj (p++t) ew t p.length=some (LB p t)
 |[],p=>rfl
 |x::t,p=>by
  unfold fj
  obtain⟨k,h1,h2⟩:=UT x p t
  rw [show ew x=some x.Name from rfl,cq,h1,cq]
  simp only [h2,cq,sh]
  unfold LB
  have ih:=Rm t (p++[x])
  rw [rR,List.singleton_append,mq,List.length_singleton]at ih
  rw [ih]
  cases GF p x<;>cases uZ x.Name<;>simp
theorem EX(l:List bw):kx l ew=some (LB [] l):=Rm l []
theorem xU(t:bu): ∀(l:List bw) (ok:Bool),fO t l ok=eR t t.Keys 0 (ok&&l.all fun x=>DP x.Kind)
 |[],ok=>by unfold fO;simp
 |x::l,ok=>by
  unfold fO
  obtain⟨r,h1,h2⟩:=AM x.Kind
  cases ok with
  |false=>
   rw [dd (by simp),cq,xU t l];simp
  |true=>
   rw [dy rfl,h1,cq,cq,xU t l,h2,uo];simp
def KQ(n:Nat):Option Int→List Int→Bool
 |_,[]=>true
 |o,k::t=>(decide (0≤k)&&decide (k<(n:Int))&&(o.all fun j=>decide (j<k)))&&KQ n (some k) t
theorem Rc(n:Nat)(o:Option Int)(k:Int)(t:List Int):KQ n o (k::t)=((decide (0≤k)&&decide (k<(n:Int))&&(o.all fun j=>decide (j<k)))&&KQ n (some k) t):=rfl
def Ja(l:List Int):Nat→Option Int
 |0=>none
 |i+1=>l[i]?
theorem Gl{l:List Int}{i:Nat}(h:i<l.length):Ja l (i+1)=some l[i]:=pR h
theorem MT{l:List Int}{i:Nat}(h:i+1≤l.length)(hl:l.length≤100000):dR l (IntKind.i64.wrap (((i+1:Nat):Int)-1))=some l[i]:=by
 rw [show IntKind.i64.wrap (((i+1:Nat):Int)-1)=(i:Int) by rw [FO];omega,ii,pR (by omega)]
theorem Jj(t:bu)(hl:t.Keys.length≤100000): ∀(n i:Nat) (ok:Bool),t.Keys.length-i=n→i≤t.Keys.length→eR t (t.Keys.drop i) i ok=some (if ok&&KQ t.Columns.length (Ja t.Keys i) (t.Keys.drop i)then 0 else 211)
 |0,i,ok,h,hi=>by
  rw [As (by omega)]
  unfold eR KQ
  cases ok<;>rfl
 |n+1,i,ok,h,hi=>by
  have hlt:i<t.Keys.length:=by omega
  rw [CM hlt,Rc]
  unfold eR
  have ih:=Jj t hl n (i+1)
  rw [Gl hlt]at ih
  cases ok with
  |false=>
   simp only [Bool.false_and,wL,qw,cq]
   rw [ih false (by omega) (by omega)];simp
  |true=>
   simp only [Ak]
   by_cases h1:(0:Int)≤t.Keys[i]
   ·by_cases h2:t.Keys[i]<(t.Columns.length:Int)
    ·rw [dy (by rw [yK h1,yK h2];rfl),yK h1,yK h2]
     cases i with
     |zero=>
      rw [dd (by simp),cq,cq,ih true (by omega) (by omega)]
      simp [Ja]
     |succ j=>
      rw [dy (by simp;omega),MT (by omega) hl,cq,cq,cq,ih _ (by omega) (by omega),Gl (by omega)]
      simp [Option.all]
    ·rw [dd (by rw [wJ h2];simp),cq,ih false (by omega) (by omega),wJ h2];simp
   ·rw [dd (by rw [wJ h1];simp),cq,ih false (by omega) (by omega),wJ h1];simp
def AC(t:bu):Bool:=(uZ t.Name&&decide (1≤t.Columns.length)&&decide (t.Columns.length≤4))&&(QO [] t.Columns&&KQ t.Columns.length none t.Keys)
theorem C9(t:bu)(hl:t.Keys.length≤100000):kV t=some (if AC t then 0 else 211):=by
 unfold kV AC
 rw [sh,cq,JT]
 have key:=Jj t hl t.Keys.length 0
 rw [uc]at key
 have e1:decide ((1:Int)≤(t.Columns.length:Int))=decide (1≤t.Columns.length):=by rw [Bg];omega
 have e2:decide ((t.Columns.length:Int)≤(4:Int))=decide (t.Columns.length≤4):=by rw [Bg];omega
 rw [e1,e2]
 cases h:(uZ t.Name&&decide (1≤t.Columns.length)&&decide (t.Columns.length≤4))with
 |false=>
  rw [dd (by simp),cq,xU,key _ rfl (jJ _)];simp
 |true=>
  rw [dy rfl,EX,cq,cq,xU,key _ rfl (jJ _)]
  simp [Ja]
def GE(p:List bu)(x:bu):Bool:=p.any fun y=>y.Name==x.Name
def HC:List bu→List bu→Bool
 |_,[]=>true
 |p,x::t=>(!GE p x&&uZ x.Name)&&HC (p++[x]) t
def On:List bu→List bu→Bool
 |_,[]=>true
 |p,x::t=>(AC x&& !GE p x)&&On (p++[x]) t
theorem Mk{t:bu}(h:AC t=true):uZ t.Name=true:=by
 unfold AC at h
 simp only [iP]at h
 exact h.1.1.1
theorem I4: ∀(t p:List bu),On p t=(t.all AC&&HC p t)
 |[],_=>rfl
 |x::t,p=>by
  unfold On HC
  rw [I4 t (p++[x]),uo]
  cases h:AC x with
  |false=>simp
  |true=>
   rw [Mk h]
   cases GE p x<;>simp
theorem MR(x:bu)(t:List bu): ∀(p:List bu) (i:Nat),∃k:Nat,bT (eI eX x.Name) (p++x::t) i=some ((i+k:Nat):Int)∧(k !=p.length)=GE p x
 |[],i=>⟨0,by unfold bT;simp [eI,eX],rfl⟩
 |y::p,i=>by
  rw [CF]
  unfold bT
  rw [show eI eX x.Name y=some (y.Name==x.Name)from rfl,cq]
  cases h:(y.Name==x.Name)with
  |true=>exact⟨0,rfl,by unfold GE;rw [List.any_cons,h];rfl⟩
  |false=>
   obtain⟨k,h1,h2⟩:=MR x t p (i+1)
   refine⟨k+1,by rw [dd (by simp),h1];congr 2;omega,?_⟩
   unfold GE at h2 ⊢
   rw [List.any_cons,h,wI,←h2,nG]
   rw [yL];simp
theorem US(x:bu)(p t:List bu): ∃k:Int,iW (p++x::t) eX x.Name=some (k,true)∧(k !=(p.length:Int))=GE p x:=by
 obtain⟨k,h1,h2⟩:=MR x t p 0
 refine⟨(k:Int),?_,?_⟩
 ·unfold iW dn
  rw [h1,cq,qx]
  have e1:max (k:Int) 0=(k:Int):=by omega
  have e2:decide ((0:Int)≤(k:Int))=true:=yK (by omega)
  rw [e1,e2]
 ·rw [←h2,yL];simp;omega
theorem Rl: ∀(t p:List bu),fH (p++t) eX t p.length=some (HC p t)
 |[],p=>rfl
 |x::t,p=>by
  unfold fH
  obtain⟨k,h1,h2⟩:=US x p t
  rw [show eX x=some x.Name from rfl,cq,h1,cq]
  simp only [h2,cq,sh]
  unfold HC
  have ih:=Rl t (p++[x])
  rw [rR,List.singleton_append,mq,List.length_singleton]at ih
  rw [ih]
  cases GE p x<;>cases uZ x.Name<;>simp
def NH(c:cn):Prop:= ∀t∈c.Tables,t.Keys.length≤100000
theorem yo: ∀(l:List bu) (i:Nat),(∀t∈l,t.Keys.length≤100000)→ ∃j:Int,bT jH l i=some j∧decide (0≤j)= !l.all AC
 |[],i,_=>⟨-1,rfl,rfl⟩
 |x::l,i,h=>by
  unfold bT
  rw [show jH x=some (!AC x) by unfold jH;rw [C9 x (h x (lV ..)),cq];cases AC x<;>rfl,cq,uo]
  cases hx:AC x with
  |false=>exact⟨(i:Int),rfl,by simp⟩
  |true=>
   obtain⟨j,h1,h2⟩:=yo l (i+1) fun t ht=>h t (kG _ ht)
   exact⟨j,by simpa using h1,by simpa using h2⟩
def G5(c:cn):Bool:=decide (c.Tables.length≤4)&&On [] c.Tables
theorem zr{c:cn}(h:NH c):lE c=some (if G5 c then 0 else 210):=by
 unfold lE G5
 obtain⟨j,h1,h2⟩:=yo c.Tables 0 h
 have h3:kU c.Tables eX=some (HC [] c.Tables):=Rl c.Tables []
 rw [I4]
 by_cases hl:c.Tables.length≤4
 ·rw [wJ (show¬(4:Int)<(c.Tables.length:Int) by omega),yK hl]
  unfold eZ dn
  rw [h1,h3]
  simp only [xo,oo,cq,h2]
  cases c.Tables.all AC<;>cases HC [] c.Tables<;>rfl
 ·rw [yK (show(4:Int)<(c.Tables.length:Int) by omega),wJ hl];rfl



def nb(r:Nat):Nat:=if r%2=1 then(r/2)^^^2197175160 else r/2
def OK(r:Nat):Nat:=nb (nb (nb (nb (nb (nb (nb (nb r)))))))
theorem Ma(a b:Nat):(a^^^b)/2=(a/2)^^^(b/2):=by
 have:=Nat.xor_div_two_pow (a:=a) (b:=b) (n:=1)
 simpa using this
theorem L9(a b:Nat):(a^^^b)%2=(a%2+b%2)%2:=by
 have h:=Nat.xor_mod_two_pow (a:=a) (b:=b) (n:=1)
 rw [Nat.pow_one]at h
 rw [h]
 rcases Nat.mod_two_eq_zero_or_one a with h1|h1<;>rcases Nat.mod_two_eq_zero_or_one b with h2|h2<;>rw [h1,h2]<;>rfl
theorem rC(a b:Nat):nb (a^^^2*b)=nb a^^^b:=by
 unfold nb
 rw [L9,Ma]
 have h1:2*b/2=b:=by omega
 have h2:(a%2+2*b%2)%2=a%2:=by omega
 rw [h1,h2]
 by_cases h:a%2=1
 ·rw [dy h,dy h,Nat.xor_assoc,Nat.xor_assoc,Nat.xor_comm b]
 ·rw [dd h,dd h]
theorem MH(a b:Nat):OK (a^^^256*b)=OK a^^^b:=by
 unfold OK
 rw [show 256*b=2*(128*b) by omega,rC,show 128*b=2*(64*b) by omega,rC,show 64*b=2*(32*b) by omega,rC,show 32*b=2*(16*b) by omega,rC,
  show 16*b=2*(8*b) by omega,rC,show 8*b=2*(4*b) by omega,rC,show 4*b=2*(2*b) by omega,rC,rC]
theorem Kq(x:Nat):x=(x%256)^^^256*(x/256):=by
 apply Nat.eq_of_testBit_eq
 intro i
 rw [Nat.testBit_xor,show(256:Nat)=2^8 from rfl,Nat.testBit_mod_two_pow,Nat.testBit_two_pow_mul,Nat.testBit_div_two_pow]
 by_cases h:i<8
 ·simp [h,show¬8≤i by omega]
 ·simp [h,show 8≤i by omega,show 8+(i-8)=i by omega]
theorem MI(x:Nat):OK x=OK (x%256)^^^(x/256):=by
 conv=>lhs;rw [Kq x,MH]
theorem Bk{a b:Nat}(ha:a<4294967296)(hb:b<4294967296):a^^^b<4294967296:=Nat.xor_lt_two_pow (n:=32) ha hb
theorem zZ{a:Nat}(ha:a<4294967296):nb a<4294967296:=by
 unfold nb
 split
 ·exact Bk (by omega) (by omega)
 ·omega
theorem MG{a:Nat}(ha:a<4294967296):OK a<4294967296:=zZ (zZ (zZ (zZ (zZ (zZ (zZ (zZ ha)))))))
theorem Su(n:Nat)(h:n<4294967296):IntKind.u32.wrap (n:Int)=(n:Int):=by rw [IntKind.wrap_u32];omega
theorem Rh(a b:Nat)(ha:a<4294967296)(hb:b<4294967296):gM .xor .u32 (a:Int) (b:Int)=((a^^^b:Nat):Int):=by
 show IntKind.u32.wrap ((BitVec.ofInt 32 (a:Int)^^^BitVec.ofInt 32 (b:Int)).toNat:Int)=_
 rw [show(BitVec.ofInt 32 (a:Int)^^^BitVec.ofInt 32 (b:Int)).toNat=a^^^b by
  rw [BitVec.toNat_xor,BitVec.toNat_ofInt,BitVec.toNat_ofInt]
  congr 1<;>omega]
 exact Su _ (Bk ha hb)
theorem Xp(a b:Nat)(ha:a<256)(hb:b<256):gM .xor .u8 (a:Int) (b:Int)=((a^^^b:Nat):Int):=by
 show IntKind.u8.wrap ((BitVec.ofInt 8 (a:Int)^^^BitVec.ofInt 8 (b:Int)).toNat:Int)=_
 rw [show(BitVec.ofInt 8 (a:Int)^^^BitVec.ofInt 8 (b:Int)).toNat=a^^^b by
  rw [BitVec.toNat_xor,BitVec.toNat_ofInt,BitVec.toNat_ofInt]
  congr 1<;>omega]
 have:=Nat.xor_lt_two_pow (n:=8) ha hb
 rw [IntKind.wrap_u8];omega
def G0(r c:Nat):Nat:=OK (r^^^c)
theorem Ns{r c:Nat}(hr:r<4294967296)(hc:c<256):G0 r c<4294967296:=MG (Bk hr (by omega))
def NX(b:List Int):Prop:= ∀x∈b,∃c:Nat,c<256∧x=(c:Int)
def lO:List Int:=(List.range 256).map fun i=>(OK i:Int)
theorem Mo:yV=some lO:=by kernel_rfl
theorem Kz(i:Nat)(h:i<256):dR lO (i:Int)=some (OK i:Int):=by
 rw [ii]
 unfold lO
 rw [CI,List.getElem?_range h]
 rfl
theorem Oq(r c:Nat)(hr:r<4294967296)(hc:c<256):rt (r:Int) lO (c:Int)=some (G0 r c:Int):=by
 unfold rt
 have hx:(r%256)^^^c<256:=Nat.xor_lt_two_pow (n:=8) (by omega) hc
 rw [show IntKind.u8.wrap (r:Int)=((r%256:Nat):Int) by rw [IntKind.wrap_u8];omega,Xp _ _ (by omega) hc,Kz _ hx,cq]
 rw [show((r:Int).fdiv (2^(min (Int.toNat (8:Int)) IntKind.u32.bits)))=((r/256:Nat):Int) by
  show(r:Int).fdiv 256=_
  rw [Int.fdiv_eq_ediv_of_nonneg _ (by omega)];omega]
 rw [Rh _ _ (by omega) (MG (by omega))]
 unfold G0
 rw [MI (r^^^c)]
 rw [show(r^^^c)%256=(r%256)^^^c by
  have:=Nat.xor_mod_two_pow (a:=r) (b:=c) (n:=8)
  rw [show(256:Nat)=2^8 from rfl,this,Nat.mod_eq_of_lt (a:=c) (by omega)]]
 rw [show(r^^^c)/256=r/256 by
  have:=Nat.xor_div_two_pow (a:=r) (b:=c) (n:=8)
  rw [show(256:Nat)=2^8 from rfl,this,Nat.div_eq_of_lt (a:=c) (by omega),Nat.xor_zero],Nat.xor_comm]
theorem Dp: ∀(b:List Int) (r:Nat),r<4294967296→NX b→ ∃s:Nat,s<4294967296∧s=b.foldl (fun r x=>G0 r x.toNat) r∧mw lO b (r:Int)=some (((4294967295-s:Nat)):Int)
 |[],r,hr,_=>⟨r,hr,rfl,by
  unfold mw
  rw [show(if IntKind.u32.signed then -1 else IntKind.u32.max)=((4294967295:Nat):Int)from rfl,Rh _ _ (by omega) hr]
  congr 2
  have h:=BitVec.allOnes_xor (x:=BitVec.ofNat 32 r)
  have h2:=congrArg BitVec.toNat h
  rw [BitVec.toNat_xor,BitVec.toNat_not,BitVec.toNat_allOnes,BitVec.toNat_ofNat,Nat.mod_eq_of_lt (a:=r) (by omega)]at h2
  exact h2⟩
 |x::b,r,hr,hb=>by
  obtain⟨c,hc,rfl⟩:=hb _ (lV ..)
  obtain⟨s,h1,h2,h3⟩:=Dp b (G0 r c) (Ns hr hc) (fun y hy=>hb y (kG _ hy))
  refine⟨s,h1,h2,?_⟩
  unfold mw
  rw [Oq r c hr hc,cq]
  exact h3
theorem rj{a b:List Int}(ha:NX a)(hb:NX b):NX (a++b):=fun x hx=>(wK.1 hx).elim (ha x) (hb x)
theorem J0(n:Int):NX [IntKind.u8.wrap n]:=fun x hx=>by
 rw [uk.1 hx]
 exact⟨(IntKind.u8.wrap n).toNat,by rw [IntKind.wrap_u8];omega,by rw [IntKind.wrap_u8];omega⟩
theorem LE(s:im):NX (n9 s):=fun x hx=>by
 obtain⟨b,_,rfl⟩:=Bf.1 hx
 exact⟨b.toNat,UInt8.toNat_lt b,rfl⟩
def tM(n:Nat):Nat→List Int
 |0=>[]
 |k+1=>((n/256^k%256:Nat):Int)::tM n k
theorem ri(n:Nat): ∀k,(tM n k).length=k
 |0=>rfl
 |k+1=>by simp [tM,ri n k]
theorem xd(n:Nat): ∀k,NX (tM n k)
 |0=>fun x hx=>by cases hx
 |k+1=>fun x hx=>by
  rcases iC.1 hx with rfl|hx
  ·exact⟨_,Nat.mod_lt _ (by omega),rfl⟩
  ·exact xd n k x hx
theorem tY(n:Nat): ∀(k f:Nat) (b:List Int),k≤8→k<f→b.length+k≤1000000→lr (n:Int) f b (8*(k:Int)-8)=some (b++tM n k)
 |0,f+1,b,_,_,_=>by
  unfold lr
  rw [dd (by simp)]
  simp [tM]
 |k+1,f+1,b,hk,hf,hb=>by
  unfold lr
  rw [show(8*((k+1:Nat):Int)-8)=((8*k:Nat):Int) by omega,dy (by rw [ui];omega),show Xi ((8*k:Nat):Int)=some ()from dy (by omega),cq,dM (by simp;omega),cq]
  rw [show(n:Int).fdiv (2^(min (Int.toNat ((8*k:Nat):Int)) IntKind.u64.bits))=((n/256^k:Nat):Int) by
   rw [Ap,show IntKind.u64.bits=64 from rfl,xi (by omega),Int.fdiv_eq_ediv_of_nonneg _ (Int.pow_nonneg (by omega)),show(2:Int)^(8*k)=((256^k:Nat):Int) by rw [show(256:Nat)=2^8 from rfl,←Nat.pow_mul];norm_cast]
   rfl]
  rw [show IntKind.u8.wrap ((n/256^k:Nat):Int)=((n/256^k%256:Nat):Int) by rw [IntKind.wrap_u8];omega]
  rw [show IntKind.i64.wrap (((8*k:Nat):Int)-8)=8*(k:Int)-8 by rw [FO];omega]
  rw [tY n k f _ (by omega) (by omega) (by simp;omega),rR]
  rfl
theorem wr(b:List Int)(n:Nat)(hb:b.length≤100000):tg b (n:Int)=some (b++tM n 8):=
 tY n 8 sR b (by omega) (by unfold sR;omega) (by omega)

def q6(r:xf)(c:List Int):Bool:=decide (c.length≤16)&&c.all fun e=>decide (0≤e)&&decide (e<(r.length:Int))
theorem sQ{f:Int→Option Bool}{g:Int→Bool}(hf: ∀v,f v=some (g v)): ∀(l:List Int) (i:Nat),∃j:Int,eS f l i=some j∧decide (0≤j)=l.any g
 |[],i=>⟨-1,rfl,rfl⟩
 |e::l,i=>by
  unfold eS
  rw [hf,cq]
  cases h:g e with
  |true=>exact⟨(i:Int),by simp,by simp [h]⟩
  |false=>
   obtain⟨j,h1,h2⟩:=sQ hf l (i+1)
   exact⟨j,by simpa using h1,by rw [h2];simp [h]⟩
theorem iO{f:Int→Option Bool}{g:Int→Bool}(hf: ∀v,f v=some (g v))(l:List Int):ci l f=some (l.any g):=by
 unfold ci jW
 obtain⟨j,h1,h2⟩:=sQ hf l 0
 rw [h1,cq,h2]
theorem HR(r:xf)(c:List Int):AQ r c=some (q6 r c):=by
 unfold AQ q6
 rw [iO (f:=vD r) (g:=fun c=>(decide (c<(0:Int)))||(decide ((r.length:Int)≤c))) (fun v=>rfl)]
 by_cases h:c.length≤16
 ·rw [dy (by rw [ui];omega),cq,cq,yK h,Ak]
  congr 1
  induction c with
  |nil=>rfl
  |cons e c ih=>
   rw [List.any_cons,uo,Bool.not_or,ih (by simp at h;omega)]
   congr 1
   rw [yL];simp only [Ao,Bool.or_eq_false_iff,iP,ui,Hu];omega
 ·rw [dd (by rw [ui];omega),cq,wJ h,Bool.false_and]
def J2(r:xf)(c:List Int):Int:=if th r then(if q6 r c then 0 else 2)else 150
theorem xF(r:xf)(c:List Int):vE [r] c=some (J2 r c):=by
 unfold vE J2
 rw [EQ,Oe [r] (by simp),cq,show Cp [r]=th r by simp [Cp]]
 cases th r with
 |false=>simp
 |true=>
  rw [dy rfl,dd (by decide),iO (f:=ry) (g:=fun c=>decide (c<(0:Int))) (fun v=>rfl),dy rfl]
  by_cases h:c.length≤16
  ·rw [dy (by simp;omega),cq,cq]
   cases hn:c.any (fun c=>decide (c<(0:Int)))with
   |true=>
    rw [dy rfl]
    have:q6 r c=false:=by
     unfold q6
     rw [Bool.and_eq_false_iff];right
     rw [List.all_eq_false]
     obtain⟨e,h1,h2⟩:=An.1 hn
     exact⟨e,h1,by simp at h2 ⊢;omega⟩
    rw [this];rfl
   |false=>
    rw [dd (by decide)]
    unfold qd
    rw [HR,cq]
    cases q6 r c<;>rfl
  ·rw [dd (by simp;omega),cq,dy rfl]
   unfold q6
   rw [wJ h];rfl

def Uu(c:List Int)(r:xf):xf:=(uF r c).getD []

def UK(c:List Int)(r:xf):Nat:=((xE (Uu c r)).getD 0).toNat
def part(c:List Int)(N i:Nat)(l:List xf):List xf:=l.filter fun r=>decide (UK c r%N=i)


theorem sP{f:lN→Option Bool}{g:lN→Bool}(hf: ∀v,f v=some (g v)): ∀(l:List lN) (i:Nat),∃j:Int,du f l i=some j∧decide (0≤j)=l.any g
 |[],i=>⟨-1,rfl,rfl⟩
 |e::l,i=>by
  unfold du
  rw [hf,cq]
  cases h:g e with
  |true=>exact⟨(i:Int),by simp,by simp [h]⟩
  |false=>
   obtain⟨j,h1,h2⟩:=sP hf l (i+1)
   exact⟨j,by simpa using h1,by rw [h2];simp [h]⟩
theorem wj{f:lN→Option Bool}{g:lN→Bool}(hf: ∀v,f v=some (g v))(l:List lN):eg l f=some (l.any g):=by
 unfold eg gq
 obtain⟨j,h1,h2⟩:=sP hf l 0
 rw [h1,cq,h2]
theorem tX(l:List Int)(h:l.length≤68719476736):cD l=some l:=by
 unfold cD
 rw [dM (by simpa using h)];rfl
theorem Re(n:Int)(h0:0≤n)(h:n≤68719476736):j7 n=some []:=by
 unfold j7 kI
 rw [dd (by simp;omega)]
 have e:IntKind.i64.wrap (n-IntKind.i64.wrap ((0:Int)-0))=n:=by
  rw [lW (n:=(0:Int)-0) (by omega) (by omega),lW (by omega) (by omega)];omega
 rw [e]
 by_cases hp:0<n
 ·rw [dy (by simpa using hp)]
  unfold Xh mP
  rw [dy hp]
  simp only [cq]
  rw [dy ⟨h0,h⟩]
  simp only [cq]
  rw [show dq (List.replicate n.toNat (0:Int)) 0 0=some []from by unfold dq;rw [dy (by simp;omega)];simp]
  rfl
 ·rw [dd (by simpa using hp)];rfl
theorem IP(a b:List Int)(ha:a.length≤8000)(hb:b.length≤8000):gN [a,b]=some (a++b):=by
 unfold gN
 simp only [ic]
 rw [lW (n:=(0:Int)+(a.length:Int)) (by omega) (by omega),dd (by simp),lW (by omega) (by omega),dd (by simp;omega),Re _ (by omega) (by omega)]
 simp only [cq,ib]
 rw [dM (by simp;omega)]
 simp only [cq,nF]
 rw [dM (by omega)]
 rfl
structure pO(n:aK):Prop where
 cond:n.Cond.Nodes.length≤5000
 kinds:n.Kinds.length≤5000
 keys:n.Keys.length≤5000
 aggs:n.Aggs.length≤5000
 items:n.Items.length≤5000
 order:n.Order.length≤5000
 args: ∀g∈n.Aggs,g.Arg.Nodes.length≤5000
 exprs: ∀e∈n.Items,e.Nodes.length≤5000
def SZ(a:List Int)(e:Int):Int:=(a[e.toNat]?).getD 0
def EW(a:List Int)(e:Int):Bool:=decide (e<0)||decide ((a.length:Int)≤e)
theorem MU{a:List Int}{e:Int}(h:EW a e=false):dR a e=some (SZ a e):=by
 simp [EW]at h
 rw [nh e.toNat (by omega),pR (by omega)]
 unfold SZ
 rw [pR (by omega)];rfl
end Go.Proofs.YtmogpgcfognefaaGreatDoor

