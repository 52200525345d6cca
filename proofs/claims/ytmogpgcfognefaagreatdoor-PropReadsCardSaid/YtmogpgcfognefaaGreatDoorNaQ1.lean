/- cG of this claim: K1, K2, K3, K4, L1, L2, L3, L4. -/
import Derived.Test.YtmogpgcfognefaaGreatDoorNaF
import Derived.KernelRfl
import Derived.Test.YtmogpgcfognefaaGreatDoorNaV4
set_option linter.all false
namespace Go.Proofs.YtmogpgcfognefaaGreatDoor
open Go

abbrev Row:=List cP
variable{α:Type}{xs:List α}
theorem gT{ys:List α}(h:xs.length+ys.length≤68719476736):nS xs ys=some (xs++ys):=dq h
def sR(v:cP):Bool:=(mb v).getD false
theorem xm(v:cP):mb v=some (sR v):=by
 unfold sR mb
 repeat' split
 all_goals rfl
variable{n:bt}
theorem wQ(v:cP):oT v=some (if sR v then 0 else 120):=by
 obtain⟨k,n,u,s⟩:=v
 unfold sR mb oT qP
 simp only [il,mz,my,mw]
 by_cases h0:k=0
 ·subst h0;simp
  repeat' split
  all_goals simp_all
 by_cases h1:k=1
 ·subst h1
  by_cases n0:n=0
  ·subst n0;simp
   repeat' split
   all_goals simp_all
  by_cases n1:n=1
  ·subst n1;simp
   repeat' split
   all_goals simp_all
  simp [n0,n1]
 by_cases h2:k=2
 ·subst h2;simp
  repeat' split
  all_goals simp_all
 by_cases h3:k=3
 ·subst h3;simp
  repeat' split
  all_goals simp_all
 by_cases h4:k=4
 ·subst h4;simp
  repeat' split
  all_goals simp_all
 simp [h0,h1,h2,h3,h4]

structure Cmp{α:Type}(f:α→α→Int):Prop where
 rng: ∀x y,f x y= -1∨f x y=0∨f x y=1
 anti: ∀x y,f y x= -f x y
 eq: ∀x y,f x y=0↔x=y
 trans: ∀x y z,f x y≤0→f y z≤0→f x z≤0
def key(v:cP):Int×Int×Int×ji:=(v.Kind,v.N,v.U,v.S)

section
variable{f:α→α→Int}
def ltB(f:α→α→Int)(x y:α):Bool:=decide (f x y<0)
def MY(f:α→α→Int)(l:List α):List α:=Kz (ltB f) l
def put(f:α→α→Int)(x:α):List α→List α
 |[]=>[x]
 |y::l=>if f x y<0 then x::y::l else y::put f x l
end
def rk{α:Type} [DecidableEq α]:α→List α→List α
 |_,[]=>[]
 |p,x::t=>if x=p then rk x t else x::rk x t
theorem Ck [DecidableEq α](p:α):rk p []=[]:=by unfold rk;rfl
theorem zR [DecidableEq α]{p x:α}(h:x=p)(t:List α):rk p (x::t)=rk x t:=by
 conv=>lhs;unfold rk
 rw [dq h]
theorem EV [DecidableEq α]{p x:α}(h: ¬x=p)(t:List α):rk p (x::t)=x::rk x t:=by
 conv=>lhs;unfold rk
 rw [di h]
def EU{α:Type} [DecidableEq α]:List α→List α
 |[]=>[]
 |x::t=>x::rk x t
theorem ya{α:Type} [DecidableEq α]: ∀(p:α) (l:List α) (z:α),z∈rk p l→z∈l
 |p,x::t,z,h=>by
  unfold rk at h
  split at h
  ·exact ly _ (ya x t z h)
  ·rcases ia.1 h with rfl|h
   ·exact lI ..
   ·exact ly _ (ya x t z h)
theorem xF{α:Type} [DecidableEq α]: ∀(p:α) (l:List α) (z:α),z∈l→z=p∨z∈rk p l
 |p,x::t,z,h=>by
  unfold rk
  by_cases hx:x=p
  ·rw [dq hx]
   rcases ia.1 h with rfl|h
   ·exact .inl hx
   ·rcases xF x t z h with h|h
    ·exact .inl (h.trans hx)
    ·exact .inr h
  ·rw [di hx]
   rcases ia.1 h with rfl|h
   ·exact .inr (lI ..)
   ·rcases xF x t z h with h|h
    ·exact .inr (by rw [h];exact lI ..)
    ·exact .inr (ly _ h)
theorem F5 [DecidableEq α](l:List α)(z:α):z∈EU l↔z∈l:=by
 cases l with
 |nil=>exact ol
 |cons x t=>
  constructor
  ·intro h
   rcases ia.1 h with rfl|h
   ·exact lI ..
   ·exact ly _ (ya x t z h)
  ·intro h
   rcases ia.1 h with rfl|h
   ·exact lI ..
   ·rcases xF x t z h with rfl|h
    ·exact lI ..
    ·exact ly _ h

structure Small(l:List Row):Prop where
 len:l.length≤8000
 row: ∀r∈l,r.length≤1000
theorem kF{n:Int}(h: -9223372036854775808≤n)(h2:n≤9223372036854775807):IntKind.i64.wrap n=n:=by rw [IntKind.wrap_i64];omega
theorem ry{l m:Nat}(h:l≤m)(h2:m≤xs.length):cz xs (l:Int) (m:Int)=some ((xs.take m).drop l):=by
 unfold cz
 rw [dq (by omega)]
 simp

theorem jv{i j:Int}(l m:Nat)(hi:i=(l:Int))(hj:j=(m:Int))(h:l≤m)(h2:m≤xs.length):cz xs i j=some ((xs.take m).drop l):=by
 subst hi hj;exact ry h h2
theorem kY{i:Int}(k:Nat)(hi:i=(k:Int)):eZ xs i=xs[k]? :=by subst hi;exact c8 _ _
def sS(v:cP):Bool:=sR v&&(v.Kind !=4)
theorem wP(v:cP):oS v=some (sS v):=by
 unfold oS sS
 rw [wQ]
 cases sR v<;>simp
theorem ox(v:cP):qX v=some (sS v):=by
 unfold qX sS
 rw [xm]
 rfl
theorem BI{v:cP}(h:sS v=true):0≤v.Kind∧v.Kind≤3:=by
 obtain⟨k,n,u,s⟩:=v
 unfold sS sR mb at h
 simp only [iP,bne_iff_ne,ne_eq]at h
 obtain⟨h1,h2⟩:=h
 by_cases h0:k=0
 ·simp [h0]
 by_cases k1:k=1
 ·simp [k1]
 by_cases k2:k=2
 ·simp [k2]
 by_cases k3:k=3
 ·simp [k3]
 simp [h0,k1,k2,k3,h2]at h1
def pk(tag:Int):Option Nat:=if tag=1∨tag=2 then some 0 else if 4≤tag∧tag≤7 then some 1 else if 12≤tag∧tag≤23 then some 2 else none
def Ln(tag:Int):Int:=match pk tag with
 |some k=>(k:Int)
 |none=> -1
theorem sl(tag:Int):nf tag=some (Ln tag):=by
 unfold nf Ln pk
 by_cases h1:tag=1∨tag=2
 ·rw [dq h1,dq (by simpa using h1)];rfl
 rw [di h1,di (by simpa using h1)]
 by_cases h2:4≤tag∧tag≤7
 ·rw [dq h2,dq (by simpa using h2)];rfl
 rw [di h2,di (by simpa using h2)]
 by_cases h3:12≤tag∧tag≤23
 ·rw [dq h3,dq (by simpa using h3)];rfl
 rw [di h3,di (by simpa using h3)]
def GM(n:bt):Bool:=(lh n).getD false
theorem nM(n:bt):lh n=some (GM n):=by
 unfold GM lh
 rw [ox]
 split
 ·rfl
 ·split<;>rfl
theorem xV(n:bt):o6 n=some (GM n):=by
 rw [←nM]
 unfold o6 lh
 rw [ox,wP]
inductive Tr where
 |lf (n:bt)
 |un (n:bt) (a:Tr)
 |bi (n:bt) (a b:Tr)
 deriving Inhabited
def Tr.size:Tr→Nat
 | .lf _=>1
 | .un _ a=>a.size+1
 | .bi _ a b=>a.size+b.size+1
def qF(n:bt)(l r:Int):bt:={n with L:=l,R:=r}
def Tr.flat:Tr→Nat→List bt
 | .lf n,_=>[qF n (-1) (-1)]
 | .un n a,s=>a.flat s++[qF n ((s+a.size:Nat)-1) (-1)]
 | .bi n a b,s=>a.flat s++b.flat (s+a.size)++[qF n ((s+a.size:Nat)-1) ((s+a.size+b.size:Nat)-1)]
def Lr(k:Nat)(n:bt):Prop:=pk n.Tag=some k∧GM n=true∧n.L= -1∧n.R= -1
def Tr.wf:Tr→Prop
 | .lf n=>Lr 0 n
 | .un n a=>Lr 1 n∧a.wf
 | .bi n a b=>Lr 2 n∧a.wf∧b.wf
theorem Tr.size_pos(t:Tr):0<t.size:=by cases t<;>simp [Tr.size]
theorem Tr.flat_len(t:Tr): ∀s,(t.flat s).length=t.size:=by
 induction t with
 |lf n=>intro s;rfl
 |un n a ih=>intro s;simp [Tr.flat,Tr.size,ih]
 |bi n a b iha ihb=>intro s;simp [Tr.flat,Tr.size,iha,ihb];omega
def co:List Tr→Nat
 |[]=>0
 |t::st=>co st+t.size
def qy:List Tr→List bt
 |[]=>[]
 |t::st=>qy st++t.flat (co st)
theorem zC: ∀st:List Tr,(qy st).length=co st
 |[]=>rfl
 |t::st=>by simp [qy,co,zC st,t.flat_len]
theorem zc: ∀st:List Tr,st.length≤co st
 |[]=>fQ _
 |t::st=>by have:=zc st;have:=t.size_pos;simp [co];omega
def push(st:List Tr)(n:bt):Option (List Tr):=
 match pk n.Tag,st with
 |some 0,st=>if GM n&&n.L== -1&&n.R== -1 then some (.lf (qF n (-1) (-1))::st)else none
 |some 1,a::st=>if GM n&&n.L==((co st+a.size:Nat):Int)-1&&n.R== -1 then some (.un (qF n (-1) (-1)) a::st)else none
 |some 2,b::a::st=>if GM n&&n.L==((co st+a.size:Nat):Int)-1&&n.R==((co st+a.size+b.size:Nat):Int)-1 then some (.bi (qF n (-1) (-1)) a b::st)else none
 |_,_=>none
def tF:List bt→List Tr→Option (List Tr)
 |[],st=>some st
 |n::ns,st=>(push st n).bind (tF ns)
def OZ(st:List Tr):Prop:= ∀t∈st,t.wf
theorem Ax{l r:Int}(h:n.L=l)(h2:n.R=r):qF (qF n (-1) (-1)) l r=n:=by subst h h2;rfl
theorem FT{st st' :List Tr}(h:push st n=some st')(hw:OZ st):qy st' =qy st++[n]∧co st' =co st+1∧OZ st' :=by
 unfold push at h
 split at h
 ·rename_i k st0 hk
  split at h
  ·rename_i hc
   simp only [iP,ve]at hc
   obtain⟨⟨h1,h2⟩,h3⟩:=hc
   cases h
   refine⟨?_,rfl,fun t ht=>?_⟩
   ·simp only [qy,Tr.flat]
    rw [Ax h2 h3]
   ·rcases ia.1 ht with rfl|ht
    ·exact⟨hk,h1,rfl,rfl⟩
    ·exact hw t ht
  ·cases h
 ·rename_i k a st0 hk
  split at h
  ·rename_i hc
   simp only [iP,ve]at hc
   obtain⟨⟨h1,h2⟩,h3⟩:=hc
   cases h
   refine⟨?_,by simp [co,Tr.size];omega,fun t ht=>?_⟩
   ·simp only [qy,Tr.flat]
    rw [Ax h2 h3,qC]
   ·rcases ia.1 ht with rfl|ht
    ·exact⟨⟨hk,h1,rfl,rfl⟩,hw a (lI ..)⟩
    ·exact hw t (ly _ ht)
  ·cases h
 ·rename_i k b a st0 hk
  split at h
  ·rename_i hc
   simp only [iP,ve]at hc
   obtain⟨⟨h1,h2⟩,h3⟩:=hc
   cases h
   refine⟨?_,by simp [co,Tr.size];omega,fun t ht=>?_⟩
   ·simp only [qy,Tr.flat,co]
    rw [Ax h2 h3]
    simp only [qC]
   ·rcases ia.1 ht with rfl|ht
    ·exact⟨⟨hk,h1,rfl,rfl⟩,hw a (ly _ (lI ..)),hw b (lI ..)⟩
    ·exact hw t (ly _ (ly _ ht))
  ·cases h
 ·cases h
variable{ns:List bt}
theorem sU: ∀{ns:List bt} {st st' :List Tr},tF ns st=some st' →OZ st→qy st' =qy st++ns∧OZ st'
 |[],st,st',h,hw=>by cases h;simp [hw]
 |n::ns,st,st',h,hw=>by
  unfold tF at h
  cases hp:push st n with
  |none=>rw [hp]at h;cases h
  |some st1=>
   rw [hp]at h
   obtain⟨h1,_,h3⟩:=FT hp hw
   obtain⟨h4,h5⟩:=sU (ns:=ns) h h3
   exact⟨by rw [h4,h1];simp,h5⟩
def sE(ns:List bt):Option Tr:=match tF ns []with
 |some [t]=>if ns.length≤1000 then some t else none
 |_=>none
theorem vk{t:Tr}(h:sE ns=some t):t.wf∧ns=t.flat 0∧t.size≤1000:=by
 unfold sE at h
 split at h
 ·rename_i t0 hp
  split at h
  ·rename_i hl
   cases h
   obtain⟨h1,h2⟩:=sU hp (fun t ht=>by cases ht)
   simp only [qy,co,pQ]at h1
   exact⟨h2 t (lI ..),h1.symm,by rw [←t.flat_len 0,h1];exact hl⟩
  ·cases h
 ·cases h
def fl:Tr→Nat→List Int
 | .lf _,s=>[(s:Int)]
 | .un _ a,s=>fl a s++[(s:Int)]
 | .bi _ a b,s=>fl a s++fl b (s+a.size)++[(s:Int)]
def Ge:List Tr→List Int
 |[]=>[]
 |t::st=>Ge st++fl t (co st)
def jT:List Tr→List Int
 |[]=>[]
 |t::st=>jT st++[((co st+t.size:Nat):Int)-1]
theorem p9(t:Tr): ∀s,(fl t s).length=t.size:=by
 induction t with
 |lf n=>intro s;rfl
 |un n a ih=>intro s;simp [fl,Tr.size,ih]
 |bi n a b iha ihb=>intro s;simp [fl,Tr.size,iha,ihb];omega
theorem o3: ∀st:List Tr,(Ge st).length=co st
 |[]=>rfl
 |t::st=>by simp [Ge,co,o3 st,p9]
theorem cI: ∀st:List Tr,(jT st).length=st.length
 |[]=>rfl
 |t::st=>by simp [jT,cI st]
theorem IX(t:Tr)(s:Nat):(fl t s)[t.size-1]? =some (s:Int):=by
 cases t with
 |lf n=>rfl
 |un n a=>simp only [fl,Tr.size];rw [Bm (by rw [p9];omega),p9];simp
 |bi n a b=>simp only [fl,Tr.size];rw [Bm (by simp [p9]),kN,p9,p9];simp
theorem xL(t:Tr)(st:List Tr)(rest:List Int):(Ge st++fl t (co st)++rest)[co st+t.size-1]? =some (co st:Int):=by
 have:=t.size_pos
 rw [sA (by rw [kN,o3,p9];omega),Bm (by rw [o3];omega),o3,show co st+t.size-1-co st=t.size-1 from by omega]
 exact IX t _
theorem Gi: ∀(ns:List bt) (st:List Tr),co st+ns.length≤100000→iA ns (co st) (Ge st) (jT st)=some (match tF ns st with
   |some st' =>(Ge st',decide (st'.length=1)&&decide (co st' ≤1000))
   |none=>([],false)):=by
 intro ns
 induction ns with
 |nil=>
  intro st _
  simp only [iA,tF,cI,o3]
  congr 2
  congr 1
  ·rw [z8];simp;omega
  ·rw [z8];simp;omega
 |cons n ns ih=>
  intro st hs
  simp only [mv]at hs
  have hll:=zc st
  unfold iA
  rw [sl]
  simp only [cn,cI,xV]
  unfold tF
  unfold push
  -- the parts
  cases hk:pk n.Tag with
  |none=>
   have e:Ln n.Tag= -1:=by unfold Ln;rw [hk]
   simp [e]
  |some k=>
   have e:Ln n.Tag=(k:Int):=by unfold Ln;rw [hk]
   have hk3:k=0∨k=1∨k=2:=by
    unfold pk at hk
    repeat' split at hk
    all_goals simp at hk
    all_goals omega
   rw [e]
   rcases hk3 with rfl|rfl|rfl
   ·-- none
    simp only []
    have c1:(decide (((0:Nat):Int)<0)||decide ((st.length:Int)<((0:Nat):Int)))=false:=by simp
    simp only [c1,Bool.not_false,pf,cn]
    cases hc:GM n with
    |false=>simp
    |true=>
     simp only [su,uC,pt,y4]
     rw [jv st.length st.length (by rw [kF (by omega) (by omega)];omega) rfl (fQ _) (by rw [cI];exact fQ _)]
     have hd:(List.take st.length (jT st)).drop st.length=[]:=v7 (by simp;omega)
     simp only [hd,cn,jF]
     by_cases hL:n.L= -1∧n.R= -1
     ·have hb:(n.L== -1&&n.R== -1)=true:=by simp [hL]
      rw [dq hb,di (by simp [hL.1,hL.2])]
      rw [gT (by simp only [mv,Ab,o3];omega)]
      simp only [cn]
      rw [jv (i:=0) 0 st.length rfl (by rw [cI,kF (by omega) (by omega)];omega) (jM _) (by rw [cI];exact fQ _)]
      rw [sx (by rw [cI];exact fQ _),qJ]
      simp only [cn]
      rw [gT (by simp only [mv,Ab,cI];omega)]
      simp only [cn]
      have h2:=ih (.lf (qF n (-1) (-1))::st) (by simp [co,Tr.size];omega)
      simp only [co,Tr.size,Ge,fl,jT]at h2
      rw [show(((co st+1:Nat):Int)-1)=(co st:Int)from by omega]at h2
      exact h2
     ·have hb:(n.L== -1&&n.R== -1)=false:=by
       rw [Bool.eq_false_iff];intro h;apply hL;simpa using h
      rw [hb]
      rw [dq (by
       simp only [wJ,Fk]
       intro h
       have h1:(-1:Int)=n.L:=by injection h
       have h2:(-1:Int)=n.R:=by injection h with _ h;injection h
       exact hL ⟨h1.symm,h2.symm⟩)]
      simp
   ·-- one
    cases st with
    |nil=>simp
    |cons a st=>
     simp only []
     have c1:(decide (((1:Nat):Int)<0)||decide (((a::st).length:Int)<((1:Nat):Int)))=false:=by simp;omega
     simp only [c1,Bool.not_false,pf,cn]
     cases hc:GM n with
     |false=>simp
     |true=>
      simp only [su,uC,pt,y4]
      simp only [mv]at hll ⊢
      simp only [co]at hs hll
      have hap:=a.size_pos
      rw [jv st.length (st.length+1) (by rw [kF (by omega) (by omega)];omega) (by omega) (by omega) (by rw [cI];exact fQ _)]
      have hd:(List.take (st.length+1) (jT (a::st))).drop st.length=[((co st+a.size:Nat):Int)-1]:=by
       rw [sx (by rw [cI];exact fQ _)]
       simp only [jT]
       rw [GP (by rw [cI];exact fQ _),v7 (by rw [cI];exact fQ _),pQ]
      rw [hd]
      simp only [cn,jF]
      rw [kY (co st+a.size-1) (by omega)]
      have hf:=xL a st []
      rw [Aa]at hf
      simp only [Ge]
      rw [hf]
      simp only [cn]
      rw [kY 0 rfl]
      simp only [D8,cn]
      have hset:([(-1:Int),-1].set ((0:Nat):Int).toNat (((co st+a.size:Nat):Int)-1))=[((co st+a.size:Nat):Int)-1,-1]:=rfl
      rw [hset]
      by_cases hL:n.L=((co st+a.size:Nat):Int)-1∧n.R= -1
      ·have hb:(n.L==((co st+a.size:Nat):Int)-1&&n.R== -1)=true:=by simp [hL]
       rw [dq hb,di (by rw [hL.1,hL.2];simp)]
       rw [gT (by simp only [mv,Ab,kN,o3,p9];omega)]
       simp only [cn]
       rw [jv (i:=0) 0 st.length rfl (by rw [cI,kF (by simp<;>omega) (by simp<;>omega)];simp) (jM _) (by rw [cI];simp)]
       have ht:(List.take st.length (jT (a::st))).drop 0=jT st:=by
        simp only [jT,qJ]
        rw [CU (by rw [cI];exact fQ _),sx (by rw [cI];exact fQ _)]
       rw [ht]
       simp only [cn]
       rw [gT (by simp only [mv,Ab,cI];omega)]
       simp only [cn]
       have h2:=ih (.un (qF n (-1) (-1)) a::st) (by simp [co,Tr.size];omega)
       simp only [co,Tr.size,Ge,fl,jT]at h2
       rw [show(((co st+(a.size+1):Nat):Int)-1)=((co st+a.size:Nat):Int)from by omega]at h2
       have hm:min ((co (a::st):Nat):Int) (co st:Int)=(co st:Int):=by simp only [co];omega
       rw [hm]
       simp only [qC]at h2 ⊢
       exact h2
      ·have hb:(n.L==((co st+a.size:Nat):Int)-1&&n.R== -1)=false:=by
        rw [Bool.eq_false_iff];intro h;apply hL;simpa using h
       rw [hb]
       rw [dq (by
        simp only [wJ,Fk]
        intro h
        have h1:((co st+a.size:Nat):Int)-1=n.L:=by injection h
        have h2:(-1:Int)=n.R:=by injection h with _ h;injection h
        exact hL ⟨h1.symm,h2.symm⟩)]
       simp
   ·-- two
    cases st with
    |nil=>simp
    |cons b st=>
     cases st with
     |nil=>simp
     |cons a st=>
      simp only []
      have c1:(decide (((2:Nat):Int)<0)||decide (((b::a::st).length:Int)<((2:Nat):Int)))=false:=by simp;omega
      simp only [c1,Bool.not_false,pf,cn]
      cases hc:GM n with
      |false=>simp
      |true=>
       simp only [su,uC,pt,y4]
       simp only [mv]at hll ⊢
       simp only [co]at hs hll
       have hap:=a.size_pos
       have hbp:=b.size_pos
       rw [jv st.length (st.length+1+1) (by rw [kF (by omega) (by omega)];omega) (by omega) (by omega) (by rw [cI];exact fQ _)]
       have hd:(List.take (st.length+1+1) (jT (b::a::st))).drop st.length=[((co st+a.size:Nat):Int)-1,((co st+a.size+b.size:Nat):Int)-1]:=by
        rw [sx (by rw [cI];exact fQ _)]
        simp only [jT,co,qC]
        rw [GP (by rw [cI];exact fQ _),v7 (by rw [cI];exact fQ _),pQ]
        rfl
       rw [hd]
       simp only [cn,jF]
       simp only [Ge,co]
       rw [kY (co st+a.size-1) (by omega)]
       rw [xL a st (fl b (co st+a.size))]
       simp only [cn]
       rw [kY 0 rfl]
       simp only [D8,cn]
       have hset:([(-1:Int),-1].set ((0:Nat):Int).toNat (((co st+a.size:Nat):Int)-1))=[((co st+a.size:Nat):Int)-1,-1]:=rfl
       rw [hset]
       rw [kY (co st+a.size+b.size-1) (by omega)]
       have hf:=xL b (a::st) []
       rw [Aa]at hf
       simp only [Ge,co]at hf
       rw [hf]
       simp only [cn]
       rw [kY (0+1) rfl]
       simp only [List.getElem?_cons_succ,D8,cn]
       have hset2:([((co st+a.size:Nat):Int)-1,-1].set ((0+1:Nat):Int).toNat (((co st+a.size+b.size:Nat):Int)-1))=[((co st+a.size:Nat):Int)-1,((co st+a.size+b.size:Nat):Int)-1]:=rfl
       rw [hset2]
       by_cases hL:n.L=((co st+a.size:Nat):Int)-1∧n.R=((co st+a.size+b.size:Nat):Int)-1
       ·have hb:(n.L==((co st+a.size:Nat):Int)-1&&n.R==((co st+a.size+b.size:Nat):Int)-1)=true:=by rw [hL.1,hL.2];simp
        rw [dq hb,di (by rw [hL.1,hL.2];simp)]
        rw [gT (by simp only [mv,Ab,kN,o3,p9];omega)]
        simp only [cn]
        rw [jv (i:=0) 0 st.length rfl (by rw [cI,kF (by simp;omega) (by simp;omega)];simp;omega) (jM _) (by rw [cI];simp;omega)]
        have ht:(List.take st.length (jT (b::a::st))).drop 0=jT st:=by
         simp only [jT,qJ,qC]
         rw [CU (by rw [cI];exact fQ _),sx (by rw [cI];exact fQ _)]
        rw [ht]
        simp only [cn]
        rw [gT (by simp only [mv,Ab,cI];omega)]
        simp only [cn]
        have h2:=ih (.bi (qF n (-1) (-1)) a b::st) (by simp [co,Tr.size];omega)
        simp only [co,Tr.size,Ge,fl,jT]at h2
        rw [show(((co st+(a.size+b.size+1):Nat):Int)-1)=((co st+a.size+b.size:Nat):Int)from by omega,show co st+(a.size+b.size+1)=co st+a.size+b.size+1 from by omega]at h2
        have hm:min (min (((co st+a.size+b.size:Nat)):Int) (co st:Int)) ((co st+a.size:Nat):Int)=(co st:Int):=by omega
        rw [hm]
        simp only [qC]at h2 ⊢
        exact h2
       ·have hb:(n.L==((co st+a.size:Nat):Int)-1&&n.R==((co st+a.size+b.size:Nat):Int)-1)=false:=by
         rw [Bool.eq_false_iff];intro h;apply hL;simpa using h
        rw [hb]
        rw [dq (by
         simp only [wJ,Fk]
         intro h
         have h1:((co st+a.size:Nat):Int)-1=n.L:=by injection h
         have h2:((co st+a.size+b.size:Nat):Int)-1=n.R:=by injection h with _ h;injection h
         exact hL ⟨h1.symm,h2.symm⟩)]
        simp

def qW(ns:List bt):Bool:=(sE ns).isSome
theorem BK{st:List Tr}(h:tF ns []=some st):co st=ns.length:=by
 have:=(sU h (fun t ht=>by cases ht)).1
 rw [←zC,this];simp [qy]
theorem sm(e:bo)(h:e.Nodes.length≤100000):lX e=some (if qW e.Nodes then 0 else 200):=by
 unfold lX o5 qW sE
 have:=Gi e.Nodes [] (by simpa [co] using h)
 simp only [co,Ge,jT]at this
 rw [this]
 cases hp:tF e.Nodes []with
 |none=>rfl
 |some st=>
  have hsz:=BK hp
  match st,hsz with
  |[],_=>rfl
  |[t],hsz=>
   simp only [cn,hsz]
   by_cases hl:e.Nodes.length≤1000<;>simp [hl]
  |t::t2::st,_=>simp
theorem Dd(h:qW ns=true):1≤ns.length∧ns.length≤1000:=by
 unfold qW at h
 cases ht:sE ns with
 |none=>rw [ht]at h;cases h
 |some t=>
  obtain⟨hw,hN,hs⟩:=vk ht
  have hlen:ns.length=t.size:=by rw [hN,t.flat_len]
  have:=t.size_pos
  omega

theorem DK(p:List Int)(hp:p.length≤8000)(i:Nat)(y:List Int)(hy:i+y.length=p.length): ∀(k i1:Nat) (x:List Int) (x1:Nat),i1+k=y.length→0<i1→x.length=p.length→x1+1≤i+i1→x.drop (i+i1-1)=p.drop (i+i1-1)→
  dg i y k i1 x (x1:Int)=some (x.take x1++rk ((p[i+i1-1]?).getD 0) (p.drop (i+i1))):=by
 intro k
 induction k with
 |zero=>
  intro i1 x x1 h1 h0 hx h2 h3
  simp only [dg]
  have hx1:x1≤x.length:=by omega
  rw [ry hx1 (fQ _)]
  simp only [cn,Ac,vX]
  rw [show((0:Int))=((0:Nat):Int)from rfl,ry (jM _) (by simp;omega)]
  simp only [cn,qJ]
  have hn:p.drop (i+i1)=[]:=Fj (by omega)
  rw [hn,Ck,Aa,CU (by simp;omega),vT,Nat.min_self]
 |succ k ih=>
  intro i1 x x1 h1 h0 hx h2 h3
  have e1:x[i+i1]? =p[i+i1]? :=by
   have:=congrArg (fun l:List Int=>l[1]?) h3
   simp only [qE]at this
   rwa [show i+i1-1+1=i+i1 from by omega]at this
  have e0:x[i+i1-1]? =p[i+i1-1]? :=by
   have:=congrArg (fun l:List Int=>l[0]?) h3
   simpa only [qE,Nat.add_zero] using this
  have hlt:i+i1<p.length:=by omega
  have g1:yV x (i:Int) y.length (i1:Int)=some p[i+i1]:=by
   unfold yV
   rw [dq (by omega),show(i:Int)+(i1:Int)=((i+i1:Nat):Int)from by omega,c8,e1,nT hlt]
  have g0:yV x (i:Int) y.length (IntKind.i64.wrap ((i1:Int)-1))=some p[i+i1-1]:=by
   rw [kF (by omega) (by omega)]
   unfold yV
   rw [dq (by omega),show(i:Int)+((i1:Int)-1)=((i+i1-1:Nat):Int)from by omega,c8,e0,nT (by omega)]
  have hd:p.drop (i+i1)=p[i+i1]::p.drop (i+i1+1):=wK hlt
  have hp1:(p[i+i1-1]?).getD 0=p[i+i1-1]:=by rw [nT (by omega)];rfl
  simp only [dg,g1,g0,cn]
  rw [hd,hp1]
  by_cases hx2:p[i+i1]=p[i+i1-1]
  ·rw [di (by simp [hx2])]
   have h3' :x.drop (i+(i1+1)-1)=p.drop (i+(i1+1)-1):=by
    have:=congrArg (List.drop 1) h3
    rwa [pP,pP,show i+i1-1+1=i+(i1+1)-1 from by omega]at this
   rw [ih (i1+1) x x1 (by omega) (by omega) hx (by omega) h3']
   rw [zR hx2,show i+(i1+1)-1=i+i1 from by omega,nT hlt,show i+(i1+1)=i+i1+1 from by omega]
   rfl
  ·rw [dq (by simp [hx2]),c8,nT (by omega)]
   simp only [cn,vX]
   rw [kF (by omega) (by omega),show((x1:Int)+1)=((x1+1:Nat):Int)from by omega]
   have h3' :(x.set x1 p[i+i1]).drop (i+(i1+1)-1)=p.drop (i+(i1+1)-1):=by
    rw [List.drop_set_of_lt (by omega)]
    have:=congrArg (List.drop 1) h3
    rwa [pP,pP,show i+i1-1+1=i+(i1+1)-1 from by omega]at this
   rw [ih (i1+1) _ (x1+1) (by omega) (by omega) (by simpa using hx) (by omega) h3']
   rw [EV hx2,show i+(i1+1)-1=i+i1 from by omega,nT hlt,show i+(i1+1)=i+i1+1 from by omega]
   have ht:(x.set x1 p[i+i1]).take (x1+1)=x.take x1++[p[i+i1]]:=by
    rw [GQ (by simp;omega),List.take_set_of_le (by omega)]
    simp
   rw [ht]
   simp
theorem DL(p:List Int)(hp:p.length≤8000):gY p=some (EU p):=by
 unfold gY
 by_cases h2:p.length<2
 ·rw [dq (by simp;omega)]
  match p,h2 with
  |[],_=>rfl
  |[x],_=>rfl
 ·rw [di (by simp;omega)]
  have key: ∀(l:List Int) (i:Nat),p.drop i=l→0<i→i≤p.length→EU p=p.take i++rk ((p[i-1]?).getD 0) (p.drop i)→dK p l i=some (EU p):=by
   intro l
   induction l with
   |nil=>
    intro i h1 h0 hle h3
    have:=Fi.1 h1
    simp only [dK]
    rw [h3,h1,sx (by omega),Ck,Aa]
   |cons x t ih=>
    intro i h1 h0 hle h3
    have hi:i<p.length:=by
     rcases jP i p.length with h|h
     ·exact h
     ·rw [Fj h]at h1;cases h1
    have hx:x=p[i]:=by rw [wK hi]at h1;exact(List.cons.inj h1).1.symm
    have ht:p.drop (i+1)=t:=by rw [←pP,h1];rfl
    have hp1:(p[i-1]?).getD 0=p[i-1]:=by rw [nT (by omega)];rfl
    simp only [dK]
    rw [kF (by omega) (by omega),show(i:Int)-1=((i-1:Nat):Int)from by omega,c8,nT (by omega)]
    simp only [cn]
    by_cases he:x=p[i-1]
    ·rw [dq (by simp [he])]
     rw [ry hle (fQ _)]
     simp only [cn,Ac]
     rw [DK p hp i (p.drop i) (by simp;omega) _ 1 p i (by simp;omega) (by omega) rfl (by omega) (by simp)]
     rw [h3,h1,hp1,zR he,←ht,hx]
     rw [show i+1-1=i from by omega,nT hi];rfl
    ·rw [di (by simp [he])]
     refine ih (i+1) ht (by omega) (by omega) ?_
     rw [h3,h1,hp1,EV he,GQ hi,←ht,hx,show i+1-1=i from by omega,nT hi]
     rw [qC];rfl
  have hpc:p=p[0]::p.drop 1:=by
   have:=wK (l:=p) (i:=0) (by omega)
   simpa using this
  refine key (p.drop 1) 1 rfl (by omega) (by omega) ?_
  have e:(p[1-1]?).getD 0=p[0]:=by simp [nT (show 0<p.length by omega)]
  rw [e]
  conv=>lhs;rw [hpc]
  have e2:p.take 1=[p[0]]:=by
   conv=>lhs;rw [hpc]
   rfl
  rw [e2];rfl

theorem F4(l:List Int)(z:Int):z∈sortI l↔z∈l:=by unfold sortI;simp
theorem s5: ∀(ns:List bt) (out:List Int),out.length+ns.length≤8000→ ∃cs,j5 ns out=some cs∧ ∀c,c∈cs↔c∈out∨ ∃n∈ns,n.Tag=2∧n.Col=c
 |[],out,h=>by
  unfold j5 wX
  rw [dq (by simp at h;omega)]
  simp only [cn]
  rw [DL _ (by rw [uI];simpa using h)]
  exact⟨_,rfl,fun c=>by rw [F5,F4];simp⟩
 |n::ns,out,h=>by
  simp only [mv]at h
  unfold j5
  by_cases ht:n.Tag=2
  ·rw [dq (by simp [ht]),gT (by simp;omega)]
   simp only [cn]
   obtain⟨cs,h1,h2⟩:=s5 ns (out++[n.Col]) (by simp;omega)
   exact⟨cs,h1,fun c=>by rw [h2];simp [ht,or_assoc,eq_comm]⟩
  ·rw [di (by simp [ht])]
   obtain⟨cs,h1,h2⟩:=s5 ns out (by omega)
   exact⟨cs,h1,fun c=>by rw [h2];simp [ht]⟩
theorem AZ(e:bo)(h:qW e.Nodes=true): ∃cs,pH e=some cs∧ ∀c,c∈cs↔ ∃n∈e.Nodes,n.Tag=2∧n.Col=c:=by
 have hl:=Dd h
 unfold pH
 rw [sm e (by omega),h]
 obtain⟨cs,h1,h2⟩:=s5 e.Nodes [] (by simp;omega)
 exact⟨cs,by simpa using h1,fun c=>by rw [h2];simp⟩
def kn(tag l r:Int):Int×Bool:=(xl tag l r).getD (0,false)
def k4(k:Int):Prop:=k=0∨k=1∨k=2∨k=3
theorem Kx(tag l r:Int):k4 (kn tag l r).1:=by
 unfold kn xl ow
 simp only [cn]
 repeat' split
 all_goals simp [k4]
theorem DY(kinds:List Int)(n:bt)(x:Int)(hx:k4 x)(hk:pk n.Tag=some 1):gI kinds n [x]=some (if(kn n.Tag x 0).2 then((kn n.Tag x 0).1,0)else(0,201)):=by
 obtain⟨tag,L,R,col,v⟩:=n
 have ht:tag=4∨tag=5∨tag=6∨tag=7:=by
  unfold pk at hk
  repeat' split at hk
  all_goals simp at hk
  rename_i h
  have h:4≤tag∧tag≤7:=h
  omega
 rcases ht with rfl|rfl|rfl|rfl<;>rcases hx with rfl|rfl|rfl|rfl<;>rfl
theorem DX(kinds:List Int)(n:bt)(x y:Int)(hx:k4 x)(hy:k4 y)(hk:pk n.Tag=some 2):gI kinds n [x,y]=some (if(kn n.Tag x y).2 then((kn n.Tag x y).1,0)else(0,201)):=by
 obtain⟨tag,L,R,col,v⟩:=n
 have ht:tag=12∨tag=13∨tag=14∨tag=15∨tag=16∨tag=17∨tag=18∨tag=19∨tag=20∨tag=21∨tag=22∨tag=23:=by
  unfold pk at hk
  repeat' split at hk
  all_goals simp at hk
  rename_i h
  have h:12≤tag∧tag≤23:=h
  omega
 rcases ht with rfl|rfl|rfl|rfl|rfl|rfl|rfl|rfl|rfl|rfl|rfl|rfl<;>rcases hx with rfl|rfl|rfl|rfl<;>rcases hy with rfl|rfl|rfl|rfl<;>rfl
def kd(kinds:List Int):Tr→Option Int
 | .lf n=>if n.Tag=1 then some n.Value.Kind else some ((kinds[n.Col.toNat]?).getD 0)
 | .un n a=>(kd kinds a).bind fun x=>if(kn n.Tag x 0).2 then some (kn n.Tag x 0).1 else none
 | .bi n a b=>(kd kinds a).bind fun x=>(kd kinds b).bind fun y=>if(kn n.Tag x y).2 then some (kn n.Tag x y).1 else none
theorem M3(kinds:List Int)(n:bt)(a:Tr):kd kinds (.un n a)=(kd kinds a).bind fun x=>if(kn n.Tag x 0).2 then some (kn n.Tag x 0).1 else none:=rfl
theorem M4(kinds:List Int)(n:bt)(a b:Tr):kd kinds (.bi n a b)=(kd kinds a).bind fun x=>(kd kinds b).bind fun y=>if(kn n.Tag x y).2 then some (kn n.Tag x y).1 else none:=rfl
def Cl(m:Nat):Tr→Prop
 | .lf n=>n.Tag=2→n.Col<m
 | .un _ a=>Cl m a
 | .bi _ a b=>Cl m a∧Cl m b
theorem pk0{tag:Int}(h:pk tag=some 0):tag=1∨tag=2:=by
 unfold pk at h
 repeat' split at h
 all_goals simp at h
 assumption
theorem Pv(h:GM n=true)(ht:n.Tag=1):sS n.Value=true:=by
 have h2:=nM n
 rw [h]at h2
 unfold lh at h2
 rw [dq (by simp [ht]),ox]at h2
 simp at h2
 exact h2.1
theorem Pu(h:GM n=true)(ht:n.Tag=2):0≤n.Col∧n.Col<16:=by
 have h2:=nM n
 rw [h]at h2
 unfold lh at h2
 rw [di (by simp [ht]),dq (by simp [ht])]at h2
 simp at h2
 exact⟨h2.1.2,h2.2⟩
theorem Hp{kinds:List Int}(hk: ∀k∈kinds,k4 k): ∀(t:Tr),t.wf→ ∀{k},kd kinds t=some k→k4 k
 | .lf n,⟨h1,h2,_,_⟩,k,h=>by
  unfold kd at h
  split at h
  ·rename_i ht
   have:=BI (Pv h2 ht)
   cases h;unfold k4;omega
  ·injection h with h
   subst h
   cases hc:kinds[n.Col.toNat]? with
   |none=>exact .inl rfl
   |some z=>exact hk z (nV hc)
 | .un n a,_,k,h=>by
  unfold kd at h
  cases ha:kd kinds a with
  |none=>rw [ha]at h;cases h
  |some x=>
   rw [ha,cn]at h
   split at h
   ·cases h;exact Kx ..
   ·cases h
 | .bi n a b,_,k,h=>by
  unfold kd at h
  cases ha:kd kinds a with
  |none=>rw [ha]at h;cases h
  |some x=>
   cases hb:kd kinds b with
   |none=>rw [ha,hb]at h;cases h
   |some y=>
    rw [ha,hb]at h
    simp only [cn]at h
    split at h
    ·cases h;exact Kx ..
    ·cases h
theorem Dh(stack l:List Int)(h:stack.length+l.length≤100000):lN (stack++l) (l.length:Int)=some (l,stack):=by
 unfold lN cA
 have e:IntKind.i64.wrap (((stack++l).length:Int)-(l.length:Int))=(stack.length:Int):=by
  rw [kN,kF (by omega) (by omega)];omega
 rw [e,jv stack.length (stack++l).length rfl rfl (by simp) (fQ _)]
 simp only [cn,Ac,GP (fQ _),List.drop_length,pQ]
 rw [gT (by simp;omega)]
 simp only [cn,pQ]
 rw [jv (i:=0) 0 stack.length rfl rfl (jM _) (by simp)]
 simp
theorem BL(stack:List Int){b:Int}(h:b≠0):jE b stack=some (0,b):=by
 unfold jE;rw [dq (by simpa using h)]
theorem po{tag:Int}{k:Nat}(h:pk tag=some k):nf tag=some (k:Int):=by
 rw [sl];unfold Ln;rw [h]
theorem FU(kinds:List Int)(hk: ∀k∈kinds,k4 k)(t:Tr):t.wf→Cl kinds.length t→ ∀(s:Nat) (rest:List bt) (stack:List Int),stack.length+t.size≤50000→
  fq (gI kinds) (t.flat s++rest) 0 stack=match kd kinds t with
   |some k=>fq (gI kinds) rest 0 (stack++[k])
   |none=>some (0,201):=by
 induction t with
 |lf n=>
  intro⟨h1,h2,h3,h4⟩ hc s rest stack hl
  simp only [Tr.flat,Tr.size,y6,pQ]at hl ⊢
  rw [fq]
  have e1:(qF n (-1) (-1)).Tag=n.Tag:=rfl
  rw [e1,po h1]
  have h0:=Dh stack [] (by simp;omega)
  simp only [Aa,Ab]at h0
  simp only [cn]
  rw [h0]
  simp only [cn]
  have hv:gI kinds (qF n (-1) (-1)) []=(kd kinds (.lf n)).map (fun k=>(k,(0:Int))):=by
   unfold gI jG kd
   simp only [e1]
   rcases pk0 h1 with ht|ht
   ·rw [dq (by simp [ht]),dq ht];rfl
   ·rw [di (by simp [ht]),dq (by simp [ht]),di (by simp [ht])]
    have hb:=Pu h2 ht
    have hm:n.Col<kinds.length:=hc ht
    have e2:(qF n (-1) (-1)).Col=n.Col:=rfl
    rw [e2,kY n.Col.toNat (by omega),nT (by omega)]
    rfl
  rw [hv]
  have: ∃k,kd kinds (.lf n)=some k:=by unfold kd;split<;>exact⟨_,rfl⟩
  obtain⟨k,hk1⟩:=this
  rw [hk1]
  simp only [wL,cn]
  rw [di (by simp),gT (by simp;omega)]
  rfl
 |un n a ih=>
  intro⟨⟨h1,h2,h3,h4⟩,ha⟩ hc s rest stack hl
  simp only [Tr.flat,Tr.size,qC]at hl ⊢
  rw [M3,ih ha hc s _ stack (by omega)]
  cases hx:kd kinds a with
  |none=>rfl
  |some x=>
   have hx4:=Hp hk a ha hx
   simp only [cn,y6,pQ]
   rw [fq]
   have e1:(qF n (((s+a.size:Nat):Int)-1) (-1)).Tag=n.Tag:=rfl
   rw [e1,po h1]
   have h0:=Dh stack [x] (by simp;omega)
   simp only [cn]
   have e0:(([x]:List Int).length:Int)=((1:Nat):Int):=rfl
   rw [←e0,h0]
   simp only [cn]
   rw [DY kinds _ x hx4 (by rw [e1];exact h1),e1]
   cases hb:(kn n.Tag x 0).2 with
   |true=>
    simp only [pf,cn]
    rw [di (by simp),gT (by simp;omega)]
    rfl
   |false=>
    simp only [uC,pt,cn]
    rw [dq (by decide),BL _ (by decide)]
 |bi n a b iha ihb=>
  intro⟨⟨h1,h2,h3,h4⟩,ha,hb⟩ ⟨hca,hcb⟩ s rest stack hl
  simp only [Tr.flat,Tr.size,qC]at hl ⊢
  rw [M4,iha ha hca s _ stack (by omega)]
  cases hx:kd kinds a with
  |none=>rfl
  |some x=>
   have hx4:=Hp hk a ha hx
   simp only [cn]
   rw [ihb hb hcb (s+a.size) _ (stack++[x]) (by have:=a.size_pos;simp;omega)]
   cases hy:kd kinds b with
   |none=>rfl
   |some y=>
    have hy4:=Hp hk b hb hy
    have hap:=a.size_pos
    simp only [cn,y6,pQ]
    rw [fq]
    have e1:(qF n (((s+a.size:Nat):Int)-1) (((s+a.size+b.size:Nat):Int)-1)).Tag=n.Tag:=rfl
    rw [e1,po h1]
    have h0:=Dh stack [x,y] (by simp;omega)
    simp only [cn]
    have e0:(([x,y]:List Int).length:Int)=((2:Nat):Int):=rfl
    have e9:stack++[x]++[y]=stack++[x,y]:=by simp
    rw [←e0,e9,h0]
    simp only [cn]
    rw [DX kinds _ x y hx4 hy4 (by rw [e1];exact h1),e1]
    cases hb:(kn n.Tag x y).2 with
    |true=>
     simp only [pf,cn]
     rw [di (by simp),gT (by simp;omega)]
     rfl
    |false=>
     simp only [uC,pt,cn]
     rw [dq (by decide),BL _ (by decide)]
def rm(m:Nat)(ns:List bt):Bool:=ns.all fun n=> !((n.Tag==2)&&decide ((m:Int)≤n.Col))
theorem Cm(m:Nat)(t:Tr):t.wf→ ∀s,rm m (t.flat s)=true→Cl m t:=by
 induction t with
 |lf n=>
  intro _ s h ht
  simp only [rm,Tr.flat,vh,List.all_nil,Bool.and_true]at h
  have e1:(qF n (-1) (-1)).Tag=n.Tag:=rfl
  have e2:(qF n (-1) (-1)).Col=n.Col:=rfl
  simp [e1,e2,ht]at h
  exact h
 |un n a ih=>
  intro⟨_,ha⟩ s h
  simp only [rm,Tr.flat,List.all_append,iP]at h
  exact ih ha s h.1
 |bi n a b iha ihb=>
  intro⟨_,ha,hb⟩ s h
  simp only [rm,Tr.flat,List.all_append,iP]at h
  exact⟨iha ha s h.1.1,ihb hb _ h.1.2⟩
def Lw(kinds:List Int):Bool:=kinds.all fun k=>decide (0≤k)&&decide (k≤3)
theorem Hq(k:Int)(ks:List Int):Lw (k::ks)=((decide (0≤k)&&decide (k≤3))&&Lw ks):=rfl
theorem IU{kinds:List Int}(h:Lw kinds=true){k:Int}(hk:k∈kinds):k4 k:=by
 have:=lz.1 h k hk
 simp at this
 unfold k4;omega
def EA(e:bo)(kinds:List Int):Int×Int:=
 if qW e.Nodes then if Lw kinds then if rm kinds.length e.Nodes then match (sE e.Nodes).bind (kd kinds)with
  |some k=>(k,0)
  |none=>(0,201)else(0,2)else(0,2)else(0,200)
theorem yo(e:bo)(kinds:List Int): ∀cs:List Int,j4 e kinds cs=if cs.all (fun c=>decide (c<(kinds.length:Int)))then lG e (gI kinds)else some (0,2)
 |[]=>by
  unfold j4
  cases lG e (gI kinds)<;>rfl
 |c::cs=>by
  unfold j4
  rw [yo e kinds cs]
  by_cases h:(kinds.length:Int)≤c
  ·rw [dq (by simpa using h),di (by simp;omega)]
  ·rw [di (by simpa using h)]
   have:c<(kinds.length:Int):=by omega
   simp [this]
theorem qj(e:bo)(kinds:List Int)(hl:e.Nodes.length≤50000):ml e kinds=some (EA e kinds):=by
 unfold ml EA
 rw [sm e (by omega)]
 cases hr:qW e.Nodes with
 |false=>rfl
 |true=>
  simp only [pf,cn]
  rw [di (by decide)]
  have key: ∀ks:List Int,mK e kinds ks=if Lw ks then(pH e).bind (j4 e kinds)else some (0,2):=by
   intro ks
   induction ks with
   |nil=>rfl
   |cons k ks ih=>
    unfold mK
    rw [ih]
    by_cases h:k<0∨3<k
    ·rw [dq (by simpa using h),di (by simp [Lw];omega)]
    ·rw [di (by simpa using h)]
     have h1:(decide (0≤k)&&decide (k≤3))=true:=by simp;omega
     rw [Hq,h1,y4]
  rw [key]
  cases hk:Lw kinds with
  |false=>rfl
  |true=>
   simp only [pf]
   obtain⟨cs,h1,h2⟩:=AZ e hr
   rw [h1,cn,yo]
   have hci:cs.all (fun c=>decide (c<(kinds.length:Int)))=rm kinds.length e.Nodes:=by
    rw [z8]
    simp only [lz,wM,rm,wJ,Bool.and_eq_false_iff,beq_eq_false_iff_ne,Fk]
    constructor
    ·intro h n hn
     by_cases ht:n.Tag=2
     ·exact .inr (by have:=h _ ((h2 n.Col).2 ⟨n,hn,ht,rfl⟩);omega)
     ·exact .inl ht
    ·intro h c hc
     obtain⟨n,hn,ht,rfl⟩:=(h2 c).1 hc
     rcases h n hn with h|h
     ·exact absurd ht h
     ·omega
   rw [hci]
   cases hc:rm kinds.length e.Nodes with
   |false=>rfl
   |true=>
    simp only [pf]
    cases ht:sE e.Nodes with
    |none=>unfold qW at hr;rw [ht]at hr;cases hr
    |some t=>
     obtain⟨hw,hN,hs⟩:=vk ht
     have hct:=Cm kinds.length t hw 0 (by rw [←hN];exact hc)
     have:=FU kinds (fun k=>IU hk) t hw hct 0 [] [] (by simp;omega)
     rw [Aa,←hN]at this
     unfold lG
     rw [this]
     simp only [cn]
     cases kd kinds t with
     |none=>rfl
     |some k=>rfl

theorem rM{tl:List α}{i:Nat}{y:α}(h:xs.drop i=y::tl):eZ xs (i:Int)=some y∧i<xs.length∧xs.drop (i+1)=tl:=by
 have hi:i<xs.length:=by
  rcases jP i xs.length with h1|h1
  ·exact h1
  ·rw [Fj h1]at h;cases h
 rw [wK hi]at h
 injection h with h1 h2
 exact⟨by rw [c8,nT hi,h1],hi,h2⟩
theorem ub{i:Nat}(h:xs.drop i=[]):xs.length≤i:=Fi.1 h
theorem pN{f:Int→Option Bool}{g:Int→Bool}(hf: ∀v,f v=some (g v)): ∀(l:List Int) (i:Nat),∃j:Int,eb f l i=some j∧decide (0≤j)=l.any g
 |[],i=>⟨-1,rfl,rfl⟩
 |e::l,i=>by
  unfold eb
  rw [hf,cn]
  cases h:g e with
  |true=>exact⟨(i:Int),by simp,by simp [h]⟩
  |false=>
   obtain⟨j,h1,h2⟩:=pN hf l (i+1)
   exact⟨j,by simpa using h1,by rw [h2];simp [h]⟩
theorem lw{f:Int→Option Bool}{g:Int→Bool}(hf: ∀v,f v=some (g v))(l:List Int):cU l f=some (l.any g):=by
 unfold cU jg
 obtain⟨j,h1,h2⟩:=pN hf l 0
 rw [h1,cn,h2]
theorem pM{f:iC→Option Bool}{g:iC→Bool}(hf: ∀v,f v=some (g v)): ∀(l:List iC) (i:Nat),∃j:Int,cW f l i=some j∧decide (0≤j)=l.any g
 |[],i=>⟨-1,rfl,rfl⟩
 |e::l,i=>by
  unfold cW
  rw [hf,cn]
  cases h:g e with
  |true=>exact⟨(i:Int),by simp,by simp [h]⟩
  |false=>
   obtain⟨j,h1,h2⟩:=pM hf l (i+1)
   exact⟨j,by simpa using h1,by rw [h2];simp [h]⟩
theorem rY{f:iC→Option Bool}{g:iC→Bool}(hf: ∀v,f v=some (g v))(l:List iC):dF l f=some (l.any g):=by
 unfold dF fI
 obtain⟨j,h1,h2⟩:=pM hf l 0
 rw [h1,cn,h2]
theorem oa(l:List Int)(h:l.length≤68719476736):cA l=some l:=by
 unfold cA
 rw [gT (by simpa using h)];rfl
theorem Kq(n:Int)(h0:0≤n)(h:n≤68719476736):jm n=some []:=by
 unfold jm jS
 rw [di (by simp;omega)]
 have e:IntKind.i64.wrap (n-IntKind.i64.wrap ((0:Int)-0))=n:=by
  rw [kF (n:=(0:Int)-0) (by omega) (by omega),kF (by omega) (by omega)];omega
 rw [e]
 by_cases hp:0<n
 ·rw [dq (by simpa using hp)]
  unfold O6 wO
  rw [dq hp]
  simp only [cn]
  rw [dq ⟨h0,h⟩]
  simp only [cn]
  rw [show cz (List.replicate n.toNat (0:Int)) 0 0=some []from by unfold cz;rw [dq (by simp;omega)];simp]
  rfl
 ·rw [di (by simpa using hp)];rfl
theorem D1(a b:List Int)(ha:a.length≤8000)(hb:b.length≤8000):fZ [a,b]=some (a++b):=by
 unfold fZ
 simp only [gq]
 rw [kF (n:=(0:Int)+(a.length:Int)) (by omega) (by omega),di (by simp),kF (by omega) (by omega),di (by simp;omega),Kq _ (by omega) (by omega)]
 simp only [cn,gp]
 rw [gT (by simp;omega)]
 simp only [cn,pQ]
 rw [gT (by omega)]
 rfl
structure yf(n:aF):Prop where
 cond:n.Cond.Nodes.length≤5000
 kinds:n.Kinds.length≤5000
 keys:n.Keys.length≤5000
 aggs:n.Aggs.length≤5000
 items:n.Items.length≤5000
 order:n.Order.length≤5000
 args: ∀g∈n.Aggs,g.Arg.Nodes.length≤5000
 exprs: ∀e∈n.Items,e.Nodes.length≤5000
def O5(a:List Int)(e:Int):Int:=(a[e.toNat]?).getD 0
def II(a:List Int)(e:Int):Bool:=decide (e<0)||decide ((a.length:Int)≤e)
theorem Ly{a:List Int}{e:Int}(h:II a e=false):eZ a e=some (O5 a e):=by
 simp [II]at h
 rw [kY e.toNat (by omega),nT (by omega)]
 unfold O5
 rw [nT (by omega)];rfl
end Go.Proofs.YtmogpgcfognefaaGreatDoor

