/- cF of this claim: K1, K2, K3, K4, L1, L2, L3, L4. -/
import Derived.Test.YtmogpgcfognefaaGreatDoorNbF
import Derived.KernelRfl
import Derived.Test.YtmogpgcfognefaaGreatDoorNbV4
set_option linter.all false
namespace Go.Proofs.YtmogpgcfognefaaGreatDoor
open Go

abbrev Row:=List cO
variable{α:Type}{xs:List α}
theorem gF{ys:List α}(h:xs.length+ys.length≤68719476736):nK xs ys=some (xs++ys):=df h
def sP(v:cO):Bool:=(ma v).getD false
theorem wZ(v:cO):ma v=some (sP v):=by
 unfold sP ma
 repeat' split
 all_goals rfl
variable{n:bq}
theorem wA(v:cO):oN v=some (if sP v then 0 else 120):=by
 obtain⟨k,n,u,s⟩:=v
 unfold sP ma oN qO
 simp only [il,ms,mr,mq]
 by_cases h0:k=0
 ·subst h0;simp
  repeat' split
  all_goals simp_all
 by_cases h1:k=1
 ·subst h1
  by_cases n0:n=0
  ·subst n0;simp
   repeat' split
   all_goals simp_all
  by_cases n1:n=1
  ·subst n1;simp
   repeat' split
   all_goals simp_all
  simp [n0,n1]
 by_cases h2:k=2
 ·subst h2;simp
  repeat' split
  all_goals simp_all
 by_cases h3:k=3
 ·subst h3;simp
  repeat' split
  all_goals simp_all
 by_cases h4:k=4
 ·subst h4;simp
  repeat' split
  all_goals simp_all
 simp [h0,h1,h2,h3,h4]

structure Cmp{α:Type}(f:α→α→Int):Prop where
 rng: ∀x y,f x y= -1∨f x y=0∨f x y=1
 anti: ∀x y,f y x= -f x y
 eq: ∀x y,f x y=0↔x=y
 trans: ∀x y z,f x y≤0→f y z≤0→f x z≤0
def key(v:cO):Int×Int×Int×ji:=(v.Kind,v.N,v.U,v.S)

section
variable{f:α→α→Int}
def ltB(f:α→α→Int)(x y:α):Bool:=decide (f x y<0)
def MD(f:α→α→Int)(l:List α):List α:=Kk (ltB f) l
def put(f:α→α→Int)(x:α):List α→List α
 |[]=>[x]
 |y::l=>if f x y<0 then x::y::l else y::put f x l
end
def rk{α:Type} [DecidableEq α]:α→List α→List α
 |_,[]=>[]
 |p,x::t=>if x=p then rk x t else x::rk x t
theorem BX [DecidableEq α](p:α):rk p []=[]:=by unfold rk;rfl
theorem zu [DecidableEq α]{p x:α}(h:x=p)(t:List α):rk p (x::t)=rk x t:=by
 conv=>lhs;unfold rk
 rw [df h]
theorem EG [DecidableEq α]{p x:α}(h: ¬x=p)(t:List α):rk p (x::t)=x::rk x t:=by
 conv=>lhs;unfold rk
 rw [dh h]
def EF{α:Type} [DecidableEq α]:List α→List α
 |[]=>[]
 |x::t=>x::rk x t
theorem xI{α:Type} [DecidableEq α]: ∀(p:α) (l:List α) (z:α),z∈rk p l→z∈l
 |p,x::t,z,h=>by
  unfold rk at h
  split at h
  ·exact lC _ (xI x t z h)
  ·rcases gW.1 h with rfl|h
   ·exact lI ..
   ·exact lC _ (xI x t z h)
theorem xm{α:Type} [DecidableEq α]: ∀(p:α) (l:List α) (z:α),z∈l→z=p∨z∈rk p l
 |p,x::t,z,h=>by
  unfold rk
  by_cases hx:x=p
  ·rw [df hx]
   rcases gW.1 h with rfl|h
   ·exact .inl hx
   ·rcases xm x t z h with h|h
    ·exact .inl (h.trans hx)
    ·exact .inr h
  ·rw [dh hx]
   rcases gW.1 h with rfl|h
   ·exact .inr (lI ..)
   ·rcases xm x t z h with h|h
    ·exact .inr (by rw [h];exact lI ..)
    ·exact .inr (lC _ h)
theorem FL [DecidableEq α](l:List α)(z:α):z∈EF l↔z∈l:=by
 cases l with
 |nil=>exact od
 |cons x t=>
  constructor
  ·intro h
   rcases gW.1 h with rfl|h
   ·exact lI ..
   ·exact lC _ (xI x t z h)
  ·intro h
   rcases gW.1 h with rfl|h
   ·exact lI ..
   ·rcases xm x t z h with rfl|h
    ·exact lI ..
    ·exact lC _ h

structure Small(l:List Row):Prop where
 len:l.length≤8000
 row: ∀r∈l,r.length≤1000
theorem j9{n:Int}(h: -9223372036854775808≤n)(h2:n≤9223372036854775807):IntKind.i64.wrap n=n:=by rw [IntKind.wrap_i64];omega
theorem ry{l m:Nat}(h:l≤m)(h2:m≤xs.length):cy xs (l:Int) (m:Int)=some ((xs.take m).drop l):=by
 unfold cy
 rw [df (by omega)]
 simp

theorem jw{i j:Int}(l m:Nat)(hi:i=(l:Int))(hj:j=(m:Int))(h:l≤m)(h2:m≤xs.length):cy xs i j=some ((xs.take m).drop l):=by
 subst hi hj;exact ry h h2
theorem jg{i:Int}(k:Nat)(hi:i=(k:Int)):fe xs i=xs[k]? :=by subst hi;exact de _ _
def sQ(v:cO):Bool:=sP v&&(v.Kind !=4)
theorem wz(v:cO):oM v=some (sQ v):=by
 unfold oM sQ
 rw [wA]
 cases sP v<;>simp
theorem ot(v:cO):qW v=some (sQ v):=by
 unfold qW sQ
 rw [wZ]
 rfl
theorem Bo{v:cO}(h:sQ v=true):0≤v.Kind∧v.Kind≤3:=by
 obtain⟨k,n,u,s⟩:=v
 unfold sQ sP ma at h
 simp only [iN,bne_iff_ne,ne_eq]at h
 obtain⟨h1,h2⟩:=h
 by_cases h0:k=0
 ·simp [h0]
 by_cases k1:k=1
 ·simp [k1]
 by_cases k2:k=2
 ·simp [k2]
 by_cases k3:k=3
 ·simp [k3]
 simp [h0,k1,k2,k3,h2]at h1
def pk(tag:Int):Option Nat:=if tag=1∨tag=2 then some 0 else if 4≤tag∧tag≤7 then some 1 else if 12≤tag∧tag≤23 then some 2 else none
def K7(tag:Int):Int:=match pk tag with
 |some k=>(k:Int)
 |none=> -1
theorem sq(tag:Int):m9 tag=some (K7 tag):=by
 unfold m9 K7 pk
 by_cases h1:tag=1∨tag=2
 ·rw [df h1,df (by simpa using h1)];rfl
 rw [dh h1,dh (by simpa using h1)]
 by_cases h2:4≤tag∧tag≤7
 ·rw [df h2,df (by simpa using h2)];rfl
 rw [dh h2,dh (by simpa using h2)]
 by_cases h3:12≤tag∧tag≤23
 ·rw [df h3,df (by simpa using h3)];rfl
 rw [dh h3,dh (by simpa using h3)]
def Gs(n:bq):Bool:=(lc n).getD false
theorem nD(n:bq):lc n=some (Gs n):=by
 unfold Gs lc
 rw [ot]
 split
 ·rfl
 ·split<;>rfl
theorem xD(n:bq):o0 n=some (Gs n):=by
 rw [←nD]
 unfold o0 lc
 rw [ot,wz]
inductive Tr where
 |lf (n:bq)
 |un (n:bq) (a:Tr)
 |bi (n:bq) (a b:Tr)
 deriving Inhabited
def Tr.size:Tr→Nat
 | .lf _=>1
 | .un _ a=>a.size+1
 | .bi _ a b=>a.size+b.size+1
def qH(n:bq)(l r:Int):bq:={n with L:=l,R:=r}
def Tr.flat:Tr→Nat→List bq
 | .lf n,_=>[qH n (-1) (-1)]
 | .un n a,s=>a.flat s++[qH n ((s+a.size:Nat)-1) (-1)]
 | .bi n a b,s=>a.flat s++b.flat (s+a.size)++[qH n ((s+a.size:Nat)-1) ((s+a.size+b.size:Nat)-1)]
def Lc(k:Nat)(n:bq):Prop:=pk n.Tag=some k∧Gs n=true∧n.L= -1∧n.R= -1
def Tr.wf:Tr→Prop
 | .lf n=>Lc 0 n
 | .un n a=>Lc 1 n∧a.wf
 | .bi n a b=>Lc 2 n∧a.wf∧b.wf
theorem Tr.size_pos(t:Tr):0<t.size:=by cases t<;>simp [Tr.size]
theorem Tr.flat_len(t:Tr): ∀s,(t.flat s).length=t.size:=by
 induction t with
 |lf n=>intro s;rfl
 |un n a ih=>intro s;simp [Tr.flat,Tr.size,ih]
 |bi n a b iha ihb=>intro s;simp [Tr.flat,Tr.size,iha,ihb];omega
def cm:List Tr→Nat
 |[]=>0
 |t::st=>cm st+t.size
def qA:List Tr→List bq
 |[]=>[]
 |t::st=>qA st++t.flat (cm st)
theorem zf: ∀st:List Tr,(qA st).length=cm st
 |[]=>rfl
 |t::st=>by simp [qA,cm,zf st,t.flat_len]
theorem yR: ∀st:List Tr,st.length≤cm st
 |[]=>fL _
 |t::st=>by have:=yR st;have:=t.size_pos;simp [cm];omega
def push(st:List Tr)(n:bq):Option (List Tr):=
 match pk n.Tag,st with
 |some 0,st=>if Gs n&&n.L== -1&&n.R== -1 then some (.lf (qH n (-1) (-1))::st)else none
 |some 1,a::st=>if Gs n&&n.L==((cm st+a.size:Nat):Int)-1&&n.R== -1 then some (.un (qH n (-1) (-1)) a::st)else none
 |some 2,b::a::st=>if Gs n&&n.L==((cm st+a.size:Nat):Int)-1&&n.R==((cm st+a.size+b.size:Nat):Int)-1 then some (.bi (qH n (-1) (-1)) a b::st)else none
 |_,_=>none
def tB:List bq→List Tr→Option (List Tr)
 |[],st=>some st
 |n::ns,st=>(push st n).bind (tB ns)
def OC(st:List Tr):Prop:= ∀t∈st,t.wf
theorem Ad{l r:Int}(h:n.L=l)(h2:n.R=r):qH (qH n (-1) (-1)) l r=n:=by subst h h2;rfl
theorem Fy{st st' :List Tr}(h:push st n=some st')(hw:OC st):qA st' =qA st++[n]∧cm st' =cm st+1∧OC st' :=by
 unfold push at h
 split at h
 ·rename_i k st0 hk
  split at h
  ·rename_i hc
   simp only [iN,u4]at hc
   obtain⟨⟨h1,h2⟩,h3⟩:=hc
   cases h
   refine⟨?_,rfl,fun t ht=>?_⟩
   ·simp only [qA,Tr.flat]
    rw [Ad h2 h3]
   ·rcases gW.1 ht with rfl|ht
    ·exact⟨hk,h1,rfl,rfl⟩
    ·exact hw t ht
  ·cases h
 ·rename_i k a st0 hk
  split at h
  ·rename_i hc
   simp only [iN,u4]at hc
   obtain⟨⟨h1,h2⟩,h3⟩:=hc
   cases h
   refine⟨?_,by simp [cm,Tr.size];omega,fun t ht=>?_⟩
   ·simp only [qA,Tr.flat]
    rw [Ad h2 h3,qE]
   ·rcases gW.1 ht with rfl|ht
    ·exact⟨⟨hk,h1,rfl,rfl⟩,hw a (lI ..)⟩
    ·exact hw t (lC _ ht)
  ·cases h
 ·rename_i k b a st0 hk
  split at h
  ·rename_i hc
   simp only [iN,u4]at hc
   obtain⟨⟨h1,h2⟩,h3⟩:=hc
   cases h
   refine⟨?_,by simp [cm,Tr.size];omega,fun t ht=>?_⟩
   ·simp only [qA,Tr.flat,cm]
    rw [Ad h2 h3]
    simp only [qE]
   ·rcases gW.1 ht with rfl|ht
    ·exact⟨⟨hk,h1,rfl,rfl⟩,hw a (lC _ (lI ..)),hw b (lI ..)⟩
    ·exact hw t (lC _ (lC _ ht))
  ·cases h
 ·cases h
variable{ns:List bq}
theorem sR: ∀{ns:List bq} {st st' :List Tr},tB ns st=some st' →OC st→qA st' =qA st++ns∧OC st'
 |[],st,st',h,hw=>by cases h;simp [hw]
 |n::ns,st,st',h,hw=>by
  unfold tB at h
  cases hp:push st n with
  |none=>rw [hp]at h;cases h
  |some st1=>
   rw [hp]at h
   obtain⟨h1,_,h3⟩:=Fy hp hw
   obtain⟨h4,h5⟩:=sR (ns:=ns) h h3
   exact⟨by rw [h4,h1];simp,h5⟩
def sF(ns:List bq):Option Tr:=match tB ns []with
 |some [t]=>if ns.length≤1000 then some t else none
 |_=>none
theorem vb{t:Tr}(h:sF ns=some t):t.wf∧ns=t.flat 0∧t.size≤1000:=by
 unfold sF at h
 split at h
 ·rename_i t0 hp
  split at h
  ·rename_i hl
   cases h
   obtain⟨h1,h2⟩:=sR hp (fun t ht=>by cases ht)
   simp only [qA,cm,pM]at h1
   exact⟨h2 t (lI ..),h1.symm,by rw [←t.flat_len 0,h1];exact hl⟩
  ·cases h
 ·cases h
def fl:Tr→Nat→List Int
 | .lf _,s=>[(s:Int)]
 | .un _ a,s=>fl a s++[(s:Int)]
 | .bi _ a b,s=>fl a s++fl b (s+a.size)++[(s:Int)]
def FU:List Tr→List Int
 |[]=>[]
 |t::st=>FU st++fl t (cm st)
def jT:List Tr→List Int
 |[]=>[]
 |t::st=>jT st++[((cm st+t.size:Nat):Int)-1]
theorem qa(t:Tr): ∀s,(fl t s).length=t.size:=by
 induction t with
 |lf n=>intro s;rfl
 |un n a ih=>intro s;simp [fl,Tr.size,ih]
 |bi n a b iha ihb=>intro s;simp [fl,Tr.size,iha,ihb];omega
theorem oX: ∀st:List Tr,(FU st).length=cm st
 |[]=>rfl
 |t::st=>by simp [FU,cm,oX st,qa]
theorem cI: ∀st:List Tr,(jT st).length=st.length
 |[]=>rfl
 |t::st=>by simp [jT,cI st]
theorem IF(t:Tr)(s:Nat):(fl t s)[t.size-1]? =some (s:Int):=by
 cases t with
 |lf n=>rfl
 |un n a=>simp only [fl,Tr.size];rw [A2 (by rw [qa];omega),qa];simp
 |bi n a b=>simp only [fl,Tr.size];rw [A2 (by simp [qa]),kH,qa,qa];simp
theorem xr(t:Tr)(st:List Tr)(rest:List Int):(FU st++fl t (cm st)++rest)[cm st+t.size-1]? =some (cm st:Int):=by
 have:=t.size_pos
 rw [sC (by rw [kH,oX,qa];omega),A2 (by rw [oX];omega),oX,show cm st+t.size-1-cm st=t.size-1 from by omega]
 exact IF t _
theorem FX: ∀(ns:List bq) (st:List Tr),cm st+ns.length≤100000→iy ns (cm st) (FU st) (jT st)=some (match tB ns st with
   |some st' =>(FU st',decide (st'.length=1)&&decide (cm st' ≤1000))
   |none=>([],false)):=by
 intro ns
 induction ns with
 |nil=>
  intro st _
  simp only [iy,tB,cI,oX]
  congr 2
  congr 1
  ·rw [zI];simp;omega
  ·rw [zI];simp;omega
 |cons n ns ih=>
  intro st hs
  simp only [mN]at hs
  have hll:=yR st
  unfold iy
  rw [sq]
  simp only [ce,cI,xD]
  unfold tB
  unfold push
  -- the parts
  cases hk:pk n.Tag with
  |none=>
   have e:K7 n.Tag= -1:=by unfold K7;rw [hk]
   simp [e]
  |some k=>
   have e:K7 n.Tag=(k:Int):=by unfold K7;rw [hk]
   have hk3:k=0∨k=1∨k=2:=by
    unfold pk at hk
    repeat' split at hk
    all_goals simp at hk
    all_goals omega
   rw [e]
   rcases hk3 with rfl|rfl|rfl
   ·-- none
    simp only []
    have c1:(decide (((0:Nat):Int)<0)||decide ((st.length:Int)<((0:Nat):Int)))=false:=by simp
    simp only [c1,Bool.not_false,o8,ce]
    cases hc:Gs n with
    |false=>simp
    |true=>
     simp only [sx,ux,po,yK]
     rw [jw st.length st.length (by rw [j9 (by omega) (by omega)];omega) rfl (fL _) (by rw [cI];exact fL _)]
     have hd:(List.take st.length (jT st)).drop st.length=[]:=vK (by simp;omega)
     simp only [hd,ce,jF]
     by_cases hL:n.L= -1∧n.R= -1
     ·have hb:(n.L== -1&&n.R== -1)=true:=by simp [hL]
      rw [df hb,dh (by simp [hL.1,hL.2])]
      rw [gF (by simp only [mN,yf,oX];omega)]
      simp only [ce]
      rw [jw (i:=0) 0 st.length rfl (by rw [cI,j9 (by omega) (by omega)];omega) (ju _) (by rw [cI];exact fL _)]
      rw [sA (by rw [cI];exact fL _),qJ]
      simp only [ce]
      rw [gF (by simp only [mN,yf,cI];omega)]
      simp only [ce]
      have h2:=ih (.lf (qH n (-1) (-1))::st) (by simp [cm,Tr.size];omega)
      simp only [cm,Tr.size,FU,fl,jT]at h2
      rw [show(((cm st+1:Nat):Int)-1)=(cm st:Int)from by omega]at h2
      exact h2
     ·have hb:(n.L== -1&&n.R== -1)=false:=by
       rw [Bool.eq_false_iff];intro h;apply hL;simpa using h
      rw [hb]
      rw [df (by
       simp only [wt,E2]
       intro h
       have h1:(-1:Int)=n.L:=by injection h
       have h2:(-1:Int)=n.R:=by injection h with _ h;injection h
       exact hL ⟨h1.symm,h2.symm⟩)]
      simp
   ·-- one
    cases st with
    |nil=>simp
    |cons a st=>
     simp only []
     have c1:(decide (((1:Nat):Int)<0)||decide (((a::st).length:Int)<((1:Nat):Int)))=false:=by simp;omega
     simp only [c1,Bool.not_false,o8,ce]
     cases hc:Gs n with
     |false=>simp
     |true=>
      simp only [sx,ux,po,yK]
      simp only [mN]at hll ⊢
      simp only [cm]at hs hll
      have hap:=a.size_pos
      rw [jw st.length (st.length+1) (by rw [j9 (by omega) (by omega)];omega) (by omega) (by omega) (by rw [cI];exact fL _)]
      have hd:(List.take (st.length+1) (jT (a::st))).drop st.length=[((cm st+a.size:Nat):Int)-1]:=by
       rw [sA (by rw [cI];exact fL _)]
       simp only [jT]
       rw [Gv (by rw [cI];exact fL _),vK (by rw [cI];exact fL _),pM]
      rw [hd]
      simp only [ce,jF]
      rw [jg (cm st+a.size-1) (by omega)]
      have hf:=xr a st []
      rw [zJ]at hf
      simp only [FU]
      rw [hf]
      simp only [ce]
      rw [jg 0 rfl]
      simp only [DV,ce]
      have hset:([(-1:Int),-1].set ((0:Nat):Int).toNat (((cm st+a.size:Nat):Int)-1))=[((cm st+a.size:Nat):Int)-1,-1]:=rfl
      rw [hset]
      by_cases hL:n.L=((cm st+a.size:Nat):Int)-1∧n.R= -1
      ·have hb:(n.L==((cm st+a.size:Nat):Int)-1&&n.R== -1)=true:=by simp [hL]
       rw [df hb,dh (by rw [hL.1,hL.2];simp)]
       rw [gF (by simp only [mN,yf,kH,oX,qa];omega)]
       simp only [ce]
       rw [jw (i:=0) 0 st.length rfl (by rw [cI,j9 (by simp<;>omega) (by simp<;>omega)];simp) (ju _) (by rw [cI];simp)]
       have ht:(List.take st.length (jT (a::st))).drop 0=jT st:=by
        simp only [jT,qJ]
        rw [CA (by rw [cI];exact fL _),sA (by rw [cI];exact fL _)]
       rw [ht]
       simp only [ce]
       rw [gF (by simp only [mN,yf,cI];omega)]
       simp only [ce]
       have h2:=ih (.un (qH n (-1) (-1)) a::st) (by simp [cm,Tr.size];omega)
       simp only [cm,Tr.size,FU,fl,jT]at h2
       rw [show(((cm st+(a.size+1):Nat):Int)-1)=((cm st+a.size:Nat):Int)from by omega]at h2
       have hm:min ((cm (a::st):Nat):Int) (cm st:Int)=(cm st:Int):=by simp only [cm];omega
       rw [hm]
       simp only [qE]at h2 ⊢
       exact h2
      ·have hb:(n.L==((cm st+a.size:Nat):Int)-1&&n.R== -1)=false:=by
        rw [Bool.eq_false_iff];intro h;apply hL;simpa using h
       rw [hb]
       rw [df (by
        simp only [wt,E2]
        intro h
        have h1:((cm st+a.size:Nat):Int)-1=n.L:=by injection h
        have h2:(-1:Int)=n.R:=by injection h with _ h;injection h
        exact hL ⟨h1.symm,h2.symm⟩)]
       simp
   ·-- two
    cases st with
    |nil=>simp
    |cons b st=>
     cases st with
     |nil=>simp
     |cons a st=>
      simp only []
      have c1:(decide (((2:Nat):Int)<0)||decide (((b::a::st).length:Int)<((2:Nat):Int)))=false:=by simp;omega
      simp only [c1,Bool.not_false,o8,ce]
      cases hc:Gs n with
      |false=>simp
      |true=>
       simp only [sx,ux,po,yK]
       simp only [mN]at hll ⊢
       simp only [cm]at hs hll
       have hap:=a.size_pos
       have hbp:=b.size_pos
       rw [jw st.length (st.length+1+1) (by rw [j9 (by omega) (by omega)];omega) (by omega) (by omega) (by rw [cI];exact fL _)]
       have hd:(List.take (st.length+1+1) (jT (b::a::st))).drop st.length=[((cm st+a.size:Nat):Int)-1,((cm st+a.size+b.size:Nat):Int)-1]:=by
        rw [sA (by rw [cI];exact fL _)]
        simp only [jT,cm,qE]
        rw [Gv (by rw [cI];exact fL _),vK (by rw [cI];exact fL _),pM]
        rfl
       rw [hd]
       simp only [ce,jF]
       simp only [FU,cm]
       rw [jg (cm st+a.size-1) (by omega)]
       rw [xr a st (fl b (cm st+a.size))]
       simp only [ce]
       rw [jg 0 rfl]
       simp only [DV,ce]
       have hset:([(-1:Int),-1].set ((0:Nat):Int).toNat (((cm st+a.size:Nat):Int)-1))=[((cm st+a.size:Nat):Int)-1,-1]:=rfl
       rw [hset]
       rw [jg (cm st+a.size+b.size-1) (by omega)]
       have hf:=xr b (a::st) []
       rw [zJ]at hf
       simp only [FU,cm]at hf
       rw [hf]
       simp only [ce]
       rw [jg (0+1) rfl]
       simp only [List.getElem?_cons_succ,DV,ce]
       have hset2:([((cm st+a.size:Nat):Int)-1,-1].set ((0+1:Nat):Int).toNat (((cm st+a.size+b.size:Nat):Int)-1))=[((cm st+a.size:Nat):Int)-1,((cm st+a.size+b.size:Nat):Int)-1]:=rfl
       rw [hset2]
       by_cases hL:n.L=((cm st+a.size:Nat):Int)-1∧n.R=((cm st+a.size+b.size:Nat):Int)-1
       ·have hb:(n.L==((cm st+a.size:Nat):Int)-1&&n.R==((cm st+a.size+b.size:Nat):Int)-1)=true:=by rw [hL.1,hL.2];simp
        rw [df hb,dh (by rw [hL.1,hL.2];simp)]
        rw [gF (by simp only [mN,yf,kH,oX,qa];omega)]
        simp only [ce]
        rw [jw (i:=0) 0 st.length rfl (by rw [cI,j9 (by simp;omega) (by simp;omega)];simp;omega) (ju _) (by rw [cI];simp;omega)]
        have ht:(List.take st.length (jT (b::a::st))).drop 0=jT st:=by
         simp only [jT,qJ,qE]
         rw [CA (by rw [cI];exact fL _),sA (by rw [cI];exact fL _)]
        rw [ht]
        simp only [ce]
        rw [gF (by simp only [mN,yf,cI];omega)]
        simp only [ce]
        have h2:=ih (.bi (qH n (-1) (-1)) a b::st) (by simp [cm,Tr.size];omega)
        simp only [cm,Tr.size,FU,fl,jT]at h2
        rw [show(((cm st+(a.size+b.size+1):Nat):Int)-1)=((cm st+a.size+b.size:Nat):Int)from by omega,show cm st+(a.size+b.size+1)=cm st+a.size+b.size+1 from by omega]at h2
        have hm:min (min (((cm st+a.size+b.size:Nat)):Int) (cm st:Int)) ((cm st+a.size:Nat):Int)=(cm st:Int):=by omega
        rw [hm]
        simp only [qE]at h2 ⊢
        exact h2
       ·have hb:(n.L==((cm st+a.size:Nat):Int)-1&&n.R==((cm st+a.size+b.size:Nat):Int)-1)=false:=by
         rw [Bool.eq_false_iff];intro h;apply hL;simpa using h
        rw [hb]
        rw [df (by
         simp only [wt,E2]
         intro h
         have h1:((cm st+a.size:Nat):Int)-1=n.L:=by injection h
         have h2:((cm st+a.size+b.size:Nat):Int)-1=n.R:=by injection h with _ h;injection h
         exact hL ⟨h1.symm,h2.symm⟩)]
        simp

def qV(ns:List bq):Bool:=(sF ns).isSome
theorem Bq{st:List Tr}(h:tB ns []=some st):cm st=ns.length:=by
 have:=(sR h (fun t ht=>by cases ht)).1
 rw [←zf,this];simp [qA]
theorem sr(e:bk)(h:e.Nodes.length≤100000):lU e=some (if qV e.Nodes then 0 else 200):=by
 unfold lU oZ qV sF
 have:=FX e.Nodes [] (by simpa [cm] using h)
 simp only [cm,FU,jT]at this
 rw [this]
 cases hp:tB e.Nodes []with
 |none=>rfl
 |some st=>
  have hsz:=Bq hp
  match st,hsz with
  |[],_=>rfl
  |[t],hsz=>
   simp only [ce,hsz]
   by_cases hl:e.Nodes.length≤1000<;>simp [hl]
  |t::t2::st,_=>simp
theorem CX(h:qV ns=true):1≤ns.length∧ns.length≤1000:=by
 unfold qV at h
 cases ht:sF ns with
 |none=>rw [ht]at h;cases h
 |some t=>
  obtain⟨hw,hN,hs⟩:=vb ht
  have hlen:ns.length=t.size:=by rw [hN,t.flat_len]
  have:=t.size_pos
  omega

theorem Dx(p:List Int)(hp:p.length≤8000)(i:Nat)(y:List Int)(hy:i+y.length=p.length): ∀(k i1:Nat) (x:List Int) (x1:Nat),i1+k=y.length→0<i1→x.length=p.length→x1+1≤i+i1→x.drop (i+i1-1)=p.drop (i+i1-1)→
  dg i y k i1 x (x1:Int)=some (x.take x1++rk ((p[i+i1-1]?).getD 0) (p.drop (i+i1))):=by
 intro k
 induction k with
 |zero=>
  intro i1 x x1 h1 h0 hx h2 h3
  simp only [dg]
  have hx1:x1≤x.length:=by omega
  rw [ry hx1 (fL _)]
  simp only [ce,zK,wu]
  rw [show((0:Int))=((0:Nat):Int)from rfl,ry (ju _) (by simp;omega)]
  simp only [ce,qJ]
  have hn:p.drop (i+i1)=[]:=E1 (by omega)
  rw [hn,BX,zJ,CA (by simp;omega),vE,Nat.min_self]
 |succ k ih=>
  intro i1 x x1 h1 h0 hx h2 h3
  have e1:x[i+i1]? =p[i+i1]? :=by
   have:=congrArg (fun l:List Int=>l[1]?) h3
   simp only [qF]at this
   rwa [show i+i1-1+1=i+i1 from by omega]at this
  have e0:x[i+i1-1]? =p[i+i1-1]? :=by
   have:=congrArg (fun l:List Int=>l[0]?) h3
   simpa only [qF,Nat.add_zero] using this
  have hlt:i+i1<p.length:=by omega
  have g1:yF x (i:Int) y.length (i1:Int)=some p[i+i1]:=by
   unfold yF
   rw [df (by omega),show(i:Int)+(i1:Int)=((i+i1:Nat):Int)from by omega,de,e1,mM hlt]
  have g0:yF x (i:Int) y.length (IntKind.i64.wrap ((i1:Int)-1))=some p[i+i1-1]:=by
   rw [j9 (by omega) (by omega)]
   unfold yF
   rw [df (by omega),show(i:Int)+((i1:Int)-1)=((i+i1-1:Nat):Int)from by omega,de,e0,mM (by omega)]
  have hd:p.drop (i+i1)=p[i+i1]::p.drop (i+i1+1):=wv hlt
  have hp1:(p[i+i1-1]?).getD 0=p[i+i1-1]:=by rw [mM (by omega)];rfl
  simp only [dg,g1,g0,ce]
  rw [hd,hp1]
  by_cases hx2:p[i+i1]=p[i+i1-1]
  ·rw [dh (by simp [hx2])]
   have h3' :x.drop (i+(i1+1)-1)=p.drop (i+(i1+1)-1):=by
    have:=congrArg (List.drop 1) h3
    rwa [pL,pL,show i+i1-1+1=i+(i1+1)-1 from by omega]at this
   rw [ih (i1+1) x x1 (by omega) (by omega) hx (by omega) h3']
   rw [zu hx2,show i+(i1+1)-1=i+i1 from by omega,mM hlt,show i+(i1+1)=i+i1+1 from by omega]
   rfl
  ·rw [df (by simp [hx2]),de,mM (by omega)]
   simp only [ce,wu]
   rw [j9 (by omega) (by omega),show((x1:Int)+1)=((x1+1:Nat):Int)from by omega]
   have h3' :(x.set x1 p[i+i1]).drop (i+(i1+1)-1)=p.drop (i+(i1+1)-1):=by
    rw [List.drop_set_of_lt (by omega)]
    have:=congrArg (List.drop 1) h3
    rwa [pL,pL,show i+i1-1+1=i+(i1+1)-1 from by omega]at this
   rw [ih (i1+1) _ (x1+1) (by omega) (by omega) (by simpa using hx) (by omega) h3']
   rw [EG hx2,show i+(i1+1)-1=i+i1 from by omega,mM hlt,show i+(i1+1)=i+i1+1 from by omega]
   have ht:(x.set x1 p[i+i1]).take (x1+1)=x.take x1++[p[i+i1]]:=by
    rw [Gw (by simp;omega),List.take_set_of_le (by omega)]
    simp
   rw [ht]
   simp
theorem Dy(p:List Int)(hp:p.length≤8000):gY p=some (EF p):=by
 unfold gY
 by_cases h2:p.length<2
 ·rw [df (by simp;omega)]
  match p,h2 with
  |[],_=>rfl
  |[x],_=>rfl
 ·rw [dh (by simp;omega)]
  have key: ∀(l:List Int) (i:Nat),p.drop i=l→0<i→i≤p.length→EF p=p.take i++rk ((p[i-1]?).getD 0) (p.drop i)→dF p l i=some (EF p):=by
   intro l
   induction l with
   |nil=>
    intro i h1 h0 hle h3
    have:=E0.1 h1
    simp only [dF]
    rw [h3,h1,sA (by omega),BX,zJ]
   |cons x t ih=>
    intro i h1 h0 hle h3
    have hi:i<p.length:=by
     rcases jO i p.length with h|h
     ·exact h
     ·rw [E1 h]at h1;cases h1
    have hx:x=p[i]:=by rw [wv hi]at h1;exact(List.cons.inj h1).1.symm
    have ht:p.drop (i+1)=t:=by rw [←pL,h1];rfl
    have hp1:(p[i-1]?).getD 0=p[i-1]:=by rw [mM (by omega)];rfl
    simp only [dF]
    rw [j9 (by omega) (by omega),show(i:Int)-1=((i-1:Nat):Int)from by omega,de,mM (by omega)]
    simp only [ce]
    by_cases he:x=p[i-1]
    ·rw [df (by simp [he])]
     rw [ry hle (fL _)]
     simp only [ce,zK]
     rw [Dx p hp i (p.drop i) (by simp;omega) _ 1 p i (by simp;omega) (by omega) rfl (by omega) (by simp)]
     rw [h3,h1,hp1,zu he,←ht,hx]
     rw [show i+1-1=i from by omega,mM hi];rfl
    ·rw [dh (by simp [he])]
     refine ih (i+1) ht (by omega) (by omega) ?_
     rw [h3,h1,hp1,EG he,Gw hi,←ht,hx,show i+1-1=i from by omega,mM hi]
     rw [qE];rfl
  have hpc:p=p[0]::p.drop 1:=by
   have:=wv (l:=p) (i:=0) (by omega)
   simpa using this
  refine key (p.drop 1) 1 rfl (by omega) (by omega) ?_
  have e:(p[1-1]?).getD 0=p[0]:=by simp [mM (show 0<p.length by omega)]
  rw [e]
  conv=>lhs;rw [hpc]
  have e2:p.take 1=[p[0]]:=by
   conv=>lhs;rw [hpc]
   rfl
  rw [e2];rfl

theorem FK(l:List Int)(z:Int):z∈sortI l↔z∈l:=by unfold sortI;simp
theorem s0: ∀(ns:List bq) (out:List Int),out.length+ns.length≤8000→ ∃cs,jY ns out=some cs∧ ∀c,c∈cs↔c∈out∨ ∃n∈ns,n.Tag=2∧n.Col=c
 |[],out,h=>by
  unfold jY wF
  rw [df (by simp at h;omega)]
  simp only [ce]
  rw [Dy _ (by rw [uD];simpa using h)]
  exact⟨_,rfl,fun c=>by rw [FL,FK];simp⟩
 |n::ns,out,h=>by
  simp only [mN]at h
  unfold jY
  by_cases ht:n.Tag=2
  ·rw [df (by simp [ht]),gF (by simp;omega)]
   simp only [ce]
   obtain⟨cs,h1,h2⟩:=s0 ns (out++[n.Col]) (by simp;omega)
   exact⟨cs,h1,fun c=>by rw [h2];simp [ht,or_assoc,eq_comm]⟩
  ·rw [dh (by simp [ht])]
   obtain⟨cs,h1,h2⟩:=s0 ns out (by omega)
   exact⟨cs,h1,fun c=>by rw [h2];simp [ht]⟩
theorem AD(e:bk)(h:qV e.Nodes=true): ∃cs,pD e=some cs∧ ∀c,c∈cs↔ ∃n∈e.Nodes,n.Tag=2∧n.Col=c:=by
 have hl:=CX h
 unfold pD
 rw [sr e (by omega),h]
 obtain⟨cs,h1,h2⟩:=s0 e.Nodes [] (by simp;omega)
 exact⟨cs,by simpa using h1,fun c=>by rw [h2];simp⟩
def kn(tag l r:Int):Int×Bool:=(wY tag l r).getD (0,false)
def k4(k:Int):Prop:=k=0∨k=1∨k=2∨k=3
theorem Ki(tag l r:Int):k4 (kn tag l r).1:=by
 unfold kn wY oq
 simp only [ce]
 repeat' split
 all_goals simp [k4]
theorem DH(kinds:List Int)(n:bq)(x:Int)(hx:k4 x)(hk:pk n.Tag=some 1):gE kinds n [x]=some (if(kn n.Tag x 0).2 then((kn n.Tag x 0).1,0)else(0,201)):=by
 obtain⟨tag,L,R,col,v⟩:=n
 have ht:tag=4∨tag=5∨tag=6∨tag=7:=by
  unfold pk at hk
  repeat' split at hk
  all_goals simp at hk
  rename_i h
  have h:4≤tag∧tag≤7:=h
  omega
 rcases ht with rfl|rfl|rfl|rfl<;>rcases hx with rfl|rfl|rfl|rfl<;>rfl
theorem DG(kinds:List Int)(n:bq)(x y:Int)(hx:k4 x)(hy:k4 y)(hk:pk n.Tag=some 2):gE kinds n [x,y]=some (if(kn n.Tag x y).2 then((kn n.Tag x y).1,0)else(0,201)):=by
 obtain⟨tag,L,R,col,v⟩:=n
 have ht:tag=12∨tag=13∨tag=14∨tag=15∨tag=16∨tag=17∨tag=18∨tag=19∨tag=20∨tag=21∨tag=22∨tag=23:=by
  unfold pk at hk
  repeat' split at hk
  all_goals simp at hk
  rename_i h
  have h:12≤tag∧tag≤23:=h
  omega
 rcases ht with rfl|rfl|rfl|rfl|rfl|rfl|rfl|rfl|rfl|rfl|rfl|rfl<;>rcases hx with rfl|rfl|rfl|rfl<;>rcases hy with rfl|rfl|rfl|rfl<;>rfl
def kd(kinds:List Int):Tr→Option Int
 | .lf n=>if n.Tag=1 then some n.Value.Kind else some ((kinds[n.Col.toNat]?).getD 0)
 | .un n a=>(kd kinds a).bind fun x=>if(kn n.Tag x 0).2 then some (kn n.Tag x 0).1 else none
 | .bi n a b=>(kd kinds a).bind fun x=>(kd kinds b).bind fun y=>if(kn n.Tag x y).2 then some (kn n.Tag x y).1 else none
theorem MI(kinds:List Int)(n:bq)(a:Tr):kd kinds (.un n a)=(kd kinds a).bind fun x=>if(kn n.Tag x 0).2 then some (kn n.Tag x 0).1 else none:=rfl
theorem MJ(kinds:List Int)(n:bq)(a b:Tr):kd kinds (.bi n a b)=(kd kinds a).bind fun x=>(kd kinds b).bind fun y=>if(kn n.Tag x y).2 then some (kn n.Tag x y).1 else none:=rfl
def BY(m:Nat):Tr→Prop
 | .lf n=>n.Tag=2→n.Col<m
 | .un _ a=>BY m a
 | .bi _ a b=>BY m a∧BY m b
theorem pk0{tag:Int}(h:pk tag=some 0):tag=1∨tag=2:=by
 unfold pk at h
 repeat' split at h
 all_goals simp at h
 assumption
theorem O9(h:Gs n=true)(ht:n.Tag=1):sQ n.Value=true:=by
 have h2:=nD n
 rw [h]at h2
 unfold lc at h2
 rw [df (by simp [ht]),ot]at h2
 simp at h2
 exact h2.1
theorem O8(h:Gs n=true)(ht:n.Tag=2):0≤n.Col∧n.Col<16:=by
 have h2:=nD n
 rw [h]at h2
 unfold lc at h2
 rw [dh (by simp [ht]),df (by simp [ht])]at h2
 simp at h2
 exact⟨h2.1.2,h2.2⟩
theorem G5{kinds:List Int}(hk: ∀k∈kinds,k4 k): ∀(t:Tr),t.wf→ ∀{k},kd kinds t=some k→k4 k
 | .lf n,⟨h1,h2,_,_⟩,k,h=>by
  unfold kd at h
  split at h
  ·rename_i ht
   have:=Bo (O9 h2 ht)
   cases h;unfold k4;omega
  ·injection h with h
   subst h
   cases hc:kinds[n.Col.toNat]? with
   |none=>exact .inl rfl
   |some z=>exact hk z (nM hc)
 | .un n a,_,k,h=>by
  unfold kd at h
  cases ha:kd kinds a with
  |none=>rw [ha]at h;cases h
  |some x=>
   rw [ha,ce]at h
   split at h
   ·cases h;exact Ki ..
   ·cases h
 | .bi n a b,_,k,h=>by
  unfold kd at h
  cases ha:kd kinds a with
  |none=>rw [ha]at h;cases h
  |some x=>
   cases hb:kd kinds b with
   |none=>rw [ha,hb]at h;cases h
   |some y=>
    rw [ha,hb]at h
    simp only [ce]at h
    split at h
    ·cases h;exact Ki ..
    ·cases h
theorem C1(stack l:List Int)(h:stack.length+l.length≤100000):lG (stack++l) (l.length:Int)=some (l,stack):=by
 unfold lG cx
 have e:IntKind.i64.wrap (((stack++l).length:Int)-(l.length:Int))=(stack.length:Int):=by
  rw [kH,j9 (by omega) (by omega)];omega
 rw [e,jw stack.length (stack++l).length rfl rfl (by simp) (fL _)]
 simp only [ce,zK,Gv (fL _),List.drop_length,pM]
 rw [gF (by simp;omega)]
 simp only [ce,pM]
 rw [jw (i:=0) 0 stack.length rfl rfl (ju _) (by simp)]
 simp
theorem Br(stack:List Int){b:Int}(h:b≠0):jE b stack=some (0,b):=by
 unfold jE;rw [df (by simpa using h)]
theorem pj{tag:Int}{k:Nat}(h:pk tag=some k):m9 tag=some (k:Int):=by
 rw [sq];unfold K7;rw [h]
theorem Fz(kinds:List Int)(hk: ∀k∈kinds,k4 k)(t:Tr):t.wf→BY kinds.length t→ ∀(s:Nat) (rest:List bq) (stack:List Int),stack.length+t.size≤50000→
  fm (gE kinds) (t.flat s++rest) 0 stack=match kd kinds t with
   |some k=>fm (gE kinds) rest 0 (stack++[k])
   |none=>some (0,201):=by
 induction t with
 |lf n=>
  intro⟨h1,h2,h3,h4⟩ hc s rest stack hl
  simp only [Tr.flat,Tr.size,yM,pM]at hl ⊢
  rw [fm]
  have e1:(qH n (-1) (-1)).Tag=n.Tag:=rfl
  rw [e1,pj h1]
  have h0:=C1 stack [] (by simp;omega)
  simp only [zJ,yf]at h0
  simp only [ce]
  rw [h0]
  simp only [ce]
  have hv:gE kinds (qH n (-1) (-1)) []=(kd kinds (.lf n)).map (fun k=>(k,(0:Int))):=by
   unfold gE jG kd
   simp only [e1]
   rcases pk0 h1 with ht|ht
   ·rw [df (by simp [ht]),df ht];rfl
   ·rw [dh (by simp [ht]),df (by simp [ht]),dh (by simp [ht])]
    have hb:=O8 h2 ht
    have hm:n.Col<kinds.length:=hc ht
    have e2:(qH n (-1) (-1)).Col=n.Col:=rfl
    rw [e2,jg n.Col.toNat (by omega),mM (by omega)]
    rfl
  rw [hv]
  have: ∃k,kd kinds (.lf n)=some k:=by unfold kd;split<;>exact⟨_,rfl⟩
  obtain⟨k,hk1⟩:=this
  rw [hk1]
  simp only [ww,ce]
  rw [dh (by simp),gF (by simp;omega)]
  rfl
 |un n a ih=>
  intro⟨⟨h1,h2,h3,h4⟩,ha⟩ hc s rest stack hl
  simp only [Tr.flat,Tr.size,qE]at hl ⊢
  rw [MI,ih ha hc s _ stack (by omega)]
  cases hx:kd kinds a with
  |none=>rfl
  |some x=>
   have hx4:=G5 hk a ha hx
   simp only [ce,yM,pM]
   rw [fm]
   have e1:(qH n (((s+a.size:Nat):Int)-1) (-1)).Tag=n.Tag:=rfl
   rw [e1,pj h1]
   have h0:=C1 stack [x] (by simp;omega)
   simp only [ce]
   have e0:(([x]:List Int).length:Int)=((1:Nat):Int):=rfl
   rw [←e0,h0]
   simp only [ce]
   rw [DH kinds _ x hx4 (by rw [e1];exact h1),e1]
   cases hb:(kn n.Tag x 0).2 with
   |true=>
    simp only [o8,ce]
    rw [dh (by simp),gF (by simp;omega)]
    rfl
   |false=>
    simp only [ux,po,ce]
    rw [df (by decide),Br _ (by decide)]
 |bi n a b iha ihb=>
  intro⟨⟨h1,h2,h3,h4⟩,ha,hb⟩ ⟨hca,hcb⟩ s rest stack hl
  simp only [Tr.flat,Tr.size,qE]at hl ⊢
  rw [MJ,iha ha hca s _ stack (by omega)]
  cases hx:kd kinds a with
  |none=>rfl
  |some x=>
   have hx4:=G5 hk a ha hx
   simp only [ce]
   rw [ihb hb hcb (s+a.size) _ (stack++[x]) (by have:=a.size_pos;simp;omega)]
   cases hy:kd kinds b with
   |none=>rfl
   |some y=>
    have hy4:=G5 hk b hb hy
    have hap:=a.size_pos
    simp only [ce,yM,pM]
    rw [fm]
    have e1:(qH n (((s+a.size:Nat):Int)-1) (((s+a.size+b.size:Nat):Int)-1)).Tag=n.Tag:=rfl
    rw [e1,pj h1]
    have h0:=C1 stack [x,y] (by simp;omega)
    simp only [ce]
    have e0:(([x,y]:List Int).length:Int)=((2:Nat):Int):=rfl
    have e9:stack++[x]++[y]=stack++[x,y]:=by simp
    rw [←e0,e9,h0]
    simp only [ce]
    rw [DG kinds _ x y hx4 hy4 (by rw [e1];exact h1),e1]
    cases hb:(kn n.Tag x y).2 with
    |true=>
     simp only [o8,ce]
     rw [dh (by simp),gF (by simp;omega)]
     rfl
    |false=>
     simp only [ux,po,ce]
     rw [df (by decide),Br _ (by decide)]
def rm(m:Nat)(ns:List bq):Bool:=ns.all fun n=> !((n.Tag==2)&&decide ((m:Int)≤n.Col))
theorem BZ(m:Nat)(t:Tr):t.wf→ ∀s,rm m (t.flat s)=true→BY m t:=by
 induction t with
 |lf n=>
  intro _ s h ht
  simp only [rm,Tr.flat,u7,List.all_nil,Bool.and_true]at h
  have e1:(qH n (-1) (-1)).Tag=n.Tag:=rfl
  have e2:(qH n (-1) (-1)).Col=n.Col:=rfl
  simp [e1,e2,ht]at h
  exact h
 |un n a ih=>
  intro⟨_,ha⟩ s h
  simp only [rm,Tr.flat,List.all_append,iN]at h
  exact ih ha s h.1
 |bi n a b iha ihb=>
  intro⟨_,ha,hb⟩ s h
  simp only [rm,Tr.flat,List.all_append,iN]at h
  exact⟨iha ha s h.1.1,ihb hb _ h.1.2⟩
def Lh(kinds:List Int):Bool:=kinds.all fun k=>decide (0≤k)&&decide (k≤3)
theorem G6(k:Int)(ks:List Int):Lh (k::ks)=((decide (0≤k)&&decide (k≤3))&&Lh ks):=rfl
theorem IA{kinds:List Int}(h:Lh kinds=true){k:Int}(hk:k∈kinds):k4 k:=by
 have:=lu.1 h k hk
 simp at this
 unfold k4;omega
def Ek(e:bk)(kinds:List Int):Int×Int:=
 if qV e.Nodes then if Lh kinds then if rm kinds.length e.Nodes then match (sF e.Nodes).bind (kd kinds)with
  |some k=>(k,0)
  |none=>(0,201)else(0,2)else(0,2)else(0,200)
theorem xW(e:bk)(kinds:List Int): ∀cs:List Int,jX e kinds cs=if cs.all (fun c=>decide (c<(kinds.length:Int)))then lB e (gE kinds)else some (0,2)
 |[]=>by
  unfold jX
  cases lB e (gE kinds)<;>rfl
 |c::cs=>by
  unfold jX
  rw [xW e kinds cs]
  by_cases h:(kinds.length:Int)≤c
  ·rw [df (by simpa using h),dh (by simp;omega)]
  ·rw [dh (by simpa using h)]
   have:c<(kinds.length:Int):=by omega
   simp [this]
theorem ql(e:bk)(kinds:List Int)(hl:e.Nodes.length≤50000):mh e kinds=some (Ek e kinds):=by
 unfold mh Ek
 rw [sr e (by omega)]
 cases hr:qV e.Nodes with
 |false=>rfl
 |true=>
  simp only [o8,ce]
  rw [dh (by decide)]
  have key: ∀ks:List Int,mD e kinds ks=if Lh ks then(pD e).bind (jX e kinds)else some (0,2):=by
   intro ks
   induction ks with
   |nil=>rfl
   |cons k ks ih=>
    unfold mD
    rw [ih]
    by_cases h:k<0∨3<k
    ·rw [df (by simpa using h),dh (by simp [Lh];omega)]
    ·rw [dh (by simpa using h)]
     have h1:(decide (0≤k)&&decide (k≤3))=true:=by simp;omega
     rw [G6,h1,yK]
  rw [key]
  cases hk:Lh kinds with
  |false=>rfl
  |true=>
   simp only [o8]
   obtain⟨cs,h1,h2⟩:=AD e hr
   rw [h1,ce,xW]
   have hci:cs.all (fun c=>decide (c<(kinds.length:Int)))=rm kinds.length e.Nodes:=by
    rw [zI]
    simp only [lu,Cx,rm,wt,Bool.and_eq_false_iff,beq_eq_false_iff_ne,E2]
    constructor
    ·intro h n hn
     by_cases ht:n.Tag=2
     ·exact .inr (by have:=h _ ((h2 n.Col).2 ⟨n,hn,ht,rfl⟩);omega)
     ·exact .inl ht
    ·intro h c hc
     obtain⟨n,hn,ht,rfl⟩:=(h2 c).1 hc
     rcases h n hn with h|h
     ·exact absurd ht h
     ·omega
   rw [hci]
   cases hc:rm kinds.length e.Nodes with
   |false=>rfl
   |true=>
    simp only [o8]
    cases ht:sF e.Nodes with
    |none=>unfold qV at hr;rw [ht]at hr;cases hr
    |some t=>
     obtain⟨hw,hN,hs⟩:=vb ht
     have hct:=BZ kinds.length t hw 0 (by rw [←hN];exact hc)
     have:=Fz kinds (fun k=>IA hk) t hw hct 0 [] [] (by simp;omega)
     rw [zJ,←hN]at this
     unfold lB
     rw [this]
     simp only [ce]
     cases kd kinds t with
     |none=>rfl
     |some k=>rfl

theorem rP{tl:List α}{i:Nat}{y:α}(h:xs.drop i=y::tl):fe xs (i:Int)=some y∧i<xs.length∧xs.drop (i+1)=tl:=by
 have hi:i<xs.length:=by
  rcases jO i xs.length with h1|h1
  ·exact h1
  ·rw [E1 h1]at h;cases h
 rw [wv hi]at h
 injection h with h1 h2
 exact⟨by rw [de,mM hi,h1],hi,h2⟩
theorem rf{i:Nat}(h:xs.drop i=[]):xs.length≤i:=E0.1 h
theorem pJ{f:Int→Option Bool}{g:Int→Bool}(hf: ∀v,f v=some (g v)): ∀(l:List Int) (i:Nat),∃j:Int,ea f l i=some j∧decide (0≤j)=l.any g
 |[],i=>⟨-1,rfl,rfl⟩
 |e::l,i=>by
  unfold ea
  rw [hf,ce]
  cases h:g e with
  |true=>exact⟨(i:Int),by simp,by simp [h]⟩
  |false=>
   obtain⟨j,h1,h2⟩:=pJ hf l (i+1)
   exact⟨j,by simpa using h1,by rw [h2];simp [h]⟩
theorem lr{f:Int→Option Bool}{g:Int→Bool}(hf: ∀v,f v=some (g v))(l:List Int):cW l f=some (l.any g):=by
 unfold cW jf
 obtain⟨j,h1,h2⟩:=pJ hf l 0
 rw [h1,ce,h2]
theorem pI{f:iA→Option Bool}{g:iA→Bool}(hf: ∀v,f v=some (g v)): ∀(l:List iA) (i:Nat),∃j:Int,cX f l i=some j∧decide (0≤j)=l.any g
 |[],i=>⟨-1,rfl,rfl⟩
 |e::l,i=>by
  unfold cX
  rw [hf,ce]
  cases h:g e with
  |true=>exact⟨(i:Int),by simp,by simp [h]⟩
  |false=>
   obtain⟨j,h1,h2⟩:=pI hf l (i+1)
   exact⟨j,by simpa using h1,by rw [h2];simp [h]⟩
theorem r0{f:iA→Option Bool}{g:iA→Bool}(hf: ∀v,f v=some (g v))(l:List iA):dC l f=some (l.any g):=by
 unfold dC fD
 obtain⟨j,h1,h2⟩:=pI hf l 0
 rw [h1,ce,h2]
theorem n5(l:List Int)(h:l.length≤68719476736):cx l=some l:=by
 unfold cx
 rw [gF (by simpa using h)];rfl
theorem J9(n:Int)(h0:0≤n)(h:n≤68719476736):jl n=some []:=by
 unfold jl jS
 rw [dh (by simp;omega)]
 have e:IntKind.i64.wrap (n-IntKind.i64.wrap ((0:Int)-0))=n:=by
  rw [j9 (n:=(0:Int)-0) (by omega) (by omega),j9 (by omega) (by omega)];omega
 rw [e]
 by_cases hp:0<n
 ·rw [df (by simpa using hp)]
  unfold OH wy
  rw [df hp]
  simp only [ce]
  rw [df ⟨h0,h⟩]
  simp only [ce]
  rw [show cy (List.replicate n.toNat (0:Int)) 0 0=some []from by unfold cy;rw [df (by simp;omega)];simp]
  rfl
 ·rw [dh (by simpa using hp)];rfl
theorem DL(a b:List Int)(ha:a.length≤8000)(hb:b.length≤8000):fY [a,b]=some (a++b):=by
 unfold fY
 simp only [gm]
 rw [j9 (n:=(0:Int)+(a.length:Int)) (by omega) (by omega),dh (by simp),j9 (by omega) (by omega),dh (by simp;omega),J9 _ (by omega) (by omega)]
 simp only [ce,gk]
 rw [gF (by simp;omega)]
 simp only [ce,pM]
 rw [gF (by omega)]
 rfl
structure xN(n:aB):Prop where
 cond:n.Cond.Nodes.length≤5000
 kinds:n.Kinds.length≤5000
 keys:n.Keys.length≤5000
 aggs:n.Aggs.length≤5000
 items:n.Items.length≤5000
 order:n.Order.length≤5000
 args: ∀g∈n.Aggs,g.Arg.Nodes.length≤5000
 exprs: ∀e∈n.Items,e.Nodes.length≤5000
def OG(a:List Int)(e:Int):Int:=(a[e.toNat]?).getD 0
def Im(a:List Int)(e:Int):Bool:=decide (e<0)||decide ((a.length:Int)≤e)
theorem Lj{a:List Int}{e:Int}(h:Im a e=false):fe a e=some (OG a e):=by
 simp [Im]at h
 rw [jg e.toNat (by omega),mM (by omega)]
 unfold OG
 rw [mM (by omega)];rfl
end Go.Proofs.YtmogpgcfognefaaGreatDoor

