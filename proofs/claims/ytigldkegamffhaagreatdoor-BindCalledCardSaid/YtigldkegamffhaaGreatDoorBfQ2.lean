/- de of this claim: L1, L2, L3. -/
import Derived.Test.YtigldkegamffhaaGreatDoorBfQ1
import Derived.Test.YtigldkegamffhaaGreatDoorBfR12
import Derived.KernelRfl
set_option linter.all false
namespace Go.Proofs.YtigldkegamffhaaGreatDoor
open Go

def j7{α:Type}{xs:List α}{i j:Int}(l m:Nat)(hi:i=(l:Int))(hj:j=(m:Int))(h:l<=m)(V:m<=xs.length):dH xs i j=some ((xs.take m).drop l):=by
 subst hi hj;exact we h V
def jz{α:Type}{xs:List α}{i:Int}(k:Nat)(hi:i=(k:Int)):ep xs i=xs[k]? :=by subst hi;exact fE _ _
def ta(v:cr):Bool:=Bq v&&(v.Kind !=4)
def yz(v:cr):sw v=some (ta v):=by
 unfold sw ta
 rw [Gk]
 cases Bq v<;>simp
def n6(v:cr):vf v=some (ta v):=by
 unfold vf ta
 rw [G0]
 rfl
variable{n:ap}
def L4{v:cr}(h:ta v=true):0<=v.Kind/\v.Kind<=3:=by
 obtain⟨k,n,u,s⟩:=v
 unfold ta Bq pY at h
 simp only [gQ,su,ne_eq]at h
 obtain⟨A,V⟩:=h
 by_cases h0:k=0
 ·simp [h0]
 by_cases k1:k=1
 ·simp [k1]
 by_cases k2:k=2
 ·simp [k2]
 by_cases k3:k=3
 ·simp [k3]
 simp [h0,k1,k2,k3,V]at A
def pk(tag:Int):Option Nat:=if tag=1\/tag=2 then some 0 else if 4<=tag/\tag<=7 then some 1 else if 12<=tag/\tag<=23 then some 2 else none
def Kt(tag:Int):Int:=match pk tag with
 |some k=>(k:Int)
 |none=> -1
def AY(tag:Int):rG tag=some (Kt tag):=by
 unfold rG Kt pk
 by_cases A:tag=1\/tag=2
 ·rw [bv A,bv (by simpa using A)];rfl
 rw [bm A,bm (by simpa using A)]
 by_cases V:4<=tag/\tag<=7
 ·rw [bv V,bv (by simpa using V)];rfl
 rw [bm V,bm (by simpa using V)]
 by_cases h3:12<=tag/\tag<=23
 ·rw [bv h3,bv (by simpa using h3)];rfl
 rw [bm h3,bm (by simpa using h3)]
def qB(tag:Int):yS tag=some (Kt tag):=by
 unfold yS vd Kt pk
 by_cases A:tag=1\/tag=2
 ·rw [bv A];rcases A with rfl|rfl<;>rfl
 rw [bm A]
 by_cases V:4<=tag/\tag<=7
 ·rw [bv V]
  have:tag=4\/tag=5\/tag=6\/tag=7:=by omega
  rcases this with rfl|rfl|rfl|rfl<;>rfl
 rw [bm V]
 by_cases h3:12<=tag/\tag<=23
 ·rw [bv h3,bm (by simp;omega),bm (by simp;omega),bm (by simp;omega),bm (by simp;omega)];rfl
 rw [bm h3]
 by_cases h4:tag=3\/(8<=tag/\tag<=11)
 ·rw [bv (by simpa using h4)]
 rw [bm (by simpa using h4),bv (by simp;omega)]
 rfl
def Fk(n:ap):Bool:=(jP n).getD false
def kh(n:ap):jP n=some (Fk n):=by
 unfold Fk jP
 rw [n6]
 split
 ·rfl
 ·split<;>rfl
def HN(n:ap):vy n=some (Fk n):=by
 rw [<-kh]
 unfold vy jP
 rw [n6,yz]
inductive Tr where
 |lf (n:ap)
 |un (n:ap) (a:Tr)
 |bi (n:ap) (a b:Tr)
 deriving Inhabited
def Tr.size:Tr->Nat
 | .lf _=>1
 | .un _ a=>a.size+1
 | .bi _ a b=>a.size+b.size+1
def ia(n:ap)(l r:Int):ap:={n with L:=l,R:=r}
def Tr.flat:Tr->Nat->List ap
 | .lf n,_=>[ia n (-1) (-1)]
 | .un n a,s=>a.flat s++[ia n ((s+a.size:Nat)-1) (-1)]
 | .bi n a b,s=>a.flat s++b.flat (s+a.size)++[ia n ((s+a.size:Nat)-1) ((s+a.size+b.size:Nat)-1)]
def YP(k:Nat)(n:ap):Prop:=pk n.Tag=some k/\Fk n=true/\n.L= -1/\n.R= -1
def Tr.wf:Tr->Prop
 | .lf n=>YP 0 n
 | .un n a=>YP 1 n/\a.wf
 | .bi n a b=>YP 2 n/\a.wf/\b.wf
def Tr.size_pos(t:Tr):0<t.size:=by cases t<;>simp [Tr.size]
def Tr.flat_len(t:Tr): ∀s,(t.flat s).length=t.size:=by
 induction t with
 |lf n=>intro s;rfl
 |un n a ih=>intro s;simp [Tr.flat,Tr.size,ih]
 |bi n a b iha ihb=>intro s;simp [Tr.flat,Tr.size,iha,ihb];omega
def cL:List Tr->Nat
 |[]=>0
 |t::st=>cL st+t.size
def xO:List Tr->List ap
 |[]=>[]
 |t::st=>xO st++t.flat (cL st)
def JA: ∀st:List Tr,(xO st).length=cL st
 |[]=>rfl
 |t::st=>by simp [xO,cL,JA st,t.flat_len]
def I4: ∀st:List Tr,st.length<=cL st
 |[]=>gu _
 |t::st=>by have:=I4 st;have:=t.size_pos;simp [cL];omega
def push(st:List Tr)(n:ap):Option (List Tr):=
 match pk n.Tag,st with
 |some 0,st=>if Fk n&&n.L== -1&&n.R== -1 then some (.lf (ia n (-1) (-1))::st)else none
 |some 1,a::st=>if Fk n&&n.L==((cL st+a.size:Nat):Int)-1&&n.R== -1 then some (.un (ia n (-1) (-1)) a::st)else none
 |some 2,b::a::st=>if Fk n&&n.L==((cL st+a.size:Nat):Int)-1&&n.R==((cL st+a.size+b.size:Nat):Int)-1 then some (.bi (ia n (-1) (-1)) a b::st)else none
 |_,_=>none
def p3:List ap->List Tr->Option (List Tr)
 |[],st=>some st
 |n::ns,st=>(push st n).bind (p3 ns)
def wfs(st:List Tr):Prop:= ∀t∈st,t.wf
def zU{l r:Int}(h:n.L=l)(V:n.R=r):ia (ia n (-1) (-1)) l r=n:=by subst h V;rfl
def Sf{st st' :List Tr}(h:push st n=some st')(hw:wfs st):xO st' =xO st++[n]/\cL st' =cL st+1/\wfs st' :=by
 unfold push at h
 split at h
 ·rename_i k st0 hk
  split at h
  ·rename_i hc
   simp only [gQ,tg]at hc
   obtain⟨⟨A,V⟩,h3⟩:=hc
   cases h
   refine⟨?_,rfl,fun t M=>?_⟩
   ·simp only [xO,Tr.flat]
    rw [zU V h3]
   ·rcases f7.1 M with rfl|M
    ·exact⟨hk,A,rfl,rfl⟩
    ·exact hw t M
  ·cases h
 ·rename_i k a st0 hk
  split at h
  ·rename_i hc
   simp only [gQ,tg]at hc
   obtain⟨⟨A,V⟩,h3⟩:=hc
   cases h
   refine⟨?_,by simp [cL,Tr.size];omega,fun t M=>?_⟩
   ·simp only [xO,Tr.flat]
    rw [zU V h3,gI]
   ·rcases f7.1 M with rfl|M
    ·exact⟨⟨hk,A,rfl,rfl⟩,hw a (lg ..)⟩
    ·exact hw t (li _ M)
  ·cases h
 ·rename_i k b a st0 hk
  split at h
  ·rename_i hc
   simp only [gQ,tg]at hc
   obtain⟨⟨A,V⟩,h3⟩:=hc
   cases h
   refine⟨?_,by simp [cL,Tr.size];omega,fun t M=>?_⟩
   ·simp only [xO,Tr.flat,cL]
    rw [zU V h3]
    simp only [gI]
   ·rcases f7.1 M with rfl|M
    ·exact⟨⟨hk,A,rfl,rfl⟩,hw a (li _ (lg ..)),hw b (lg ..)⟩
    ·exact hw t (li _ (li _ M))
  ·cases h
 ·cases h
variable{ns:List ap}
def Bu: ∀{ns:List ap} {st st' :List Tr},p3 ns st=some st' ->wfs st->xO st' =xO st++ns/\wfs st'
 |[],st,st',h,hw=>by cases h;simp [hw]
 |n::ns,st,st',h,hw=>by
  unfold p3 at h
  cases hp:push st n with
  |none=>rw [hp]at h;cases h
  |some st1=>
   rw [hp]at h
   obtain⟨A,_,h3⟩:=Sf hp hw
   obtain⟨h4,h5⟩:=Bu (ns:=ns) h h3
   exact⟨by rw [h4,A];simp,h5⟩
def tI: ∀(ns ms:List ap) (st:List Tr),p3 (ns++ms) st=(p3 ns st).bind (p3 ms)
 |[],ms,st=>rfl
 |n::ns,ms,st=>by
  simp only [xZ,p3]
  cases push st n with
  |none=>rfl
  |some st1=>exact tI ns ms st1
def Ox(t:Tr): ∀(st:List Tr),t.wf->p3 (t.flat (cL st)) st=some (t::st):=by
 induction t with
 |lf n=>
  intro st ⟨A,V,h3,h4⟩
  have hn' :ia n (-1) (-1)=n:=by cases n;simp only at h3 h4;subst h3 h4;rfl
  simp only [Tr.flat,p3,push,hn']
  rw [A]
  simp [V,h3,h4,p3,hn']
 |un n a ih=>
  intro st ⟨⟨A,V,h3,h4⟩,ha⟩
  have hn' :ia n (-1) (-1)=n:=by cases n;simp only at h3 h4;subst h3 h4;rfl
  simp only [Tr.flat]
  rw [tI,ih st ha]
  simp only [aV,p3,push]
  have e1:(ia n (((cL st+a.size:Nat):Int)-1) (-1)).Tag=n.Tag:=rfl
  rw [e1,A]
  have e2:Fk (ia n (((cL st+a.size:Nat):Int)-1) (-1))=true:=V
  rw [e2]
  simp only [ia,AB,Bool.and_self,i8,aV,p3]
  simp only [ia]at hn'
  rw [hn']
 |bi n a b iha ihb=>
  intro st ⟨⟨A,V,h3,h4⟩,ha,H⟩
  have hn' :ia n (-1) (-1)=n:=by cases n;simp only at h3 h4;subst h3 h4;rfl
  simp only [Tr.flat]
  rw [tI,tI,iha st ha]
  simp only [aV]
  have e0:cL st+a.size=cL (a::st):=rfl
  rw [e0,ihb (a::st) H]
  simp only [aV,p3,push]
  have e1:(ia n (((cL (a::st):Nat):Int)-1) (((cL (a::st)+b.size:Nat):Int)-1)).Tag=n.Tag:=rfl
  rw [e1,A]
  have e2:Fk (ia n (((cL (a::st):Nat):Int)-1) (((cL (a::st)+b.size:Nat):Int)-1))=true:=V
  rw [e2]
  simp only [ia,cL,AB,Bool.and_self,i8,aV,p3]
  simp only [ia]at hn'
  rw [hn']
def rs(ns:List ap):Option Tr:=match p3 ns []with
 |some [t]=>if ns.length<=1000 then some t else none
 |_=>none
def pV{t:Tr}(h:rs ns=some t):t.wf/\ns=t.flat 0/\t.size<=1000:=by
 unfold rs at h
 split at h
 ·rename_i t0 hp
  split at h
  ·rename_i hl
   cases h
   obtain⟨A,V⟩:=Bu hp (fun t M=>by cases M)
   simp only [xO,cL,pe]at A
   exact⟨V t (lg ..),A.symm,by rw [<-t.flat_len 0,A];exact hl⟩
  ·cases h
 ·cases h
def yA{t:Tr}(h:t.wf)(hs:t.size<=1000):rs (t.flat 0)=some t:=by
 unfold rs
 have h0:=Ox t [] h
 simp only [cL]at h0
 rw [h0]
 simp only [t.flat_len,hs,i8]
def fl:Tr->Nat->List Int
 | .lf _,s=>[(s:Int)]
 | .un _ a,s=>fl a s++[(s:Int)]
 | .bi _ a b,s=>fl a s++fl b (s+a.size)++[(s:Int)]
def SK:List Tr->List Int
 |[]=>[]
 |t::st=>SK st++fl t (cL st)
def m6:List Tr->List Int
 |[]=>[]
 |t::st=>m6 st++[((cL st+t.size:Nat):Int)-1]
def w9(t:Tr): ∀s,(fl t s).length=t.size:=by
 induction t with
 |lf n=>intro s;rfl
 |un n a ih=>intro s;simp [fl,Tr.size,ih]
 |bi n a b iha ihb=>intro s;simp [fl,Tr.size,iha,ihb];omega
def vp: ∀st:List Tr,(SK st).length=cL st
 |[]=>rfl
 |t::st=>by simp [SK,cL,vp st,w9]
def d9: ∀st:List Tr,(m6 st).length=st.length
 |[]=>rfl
 |t::st=>by simp [m6,d9 st]
def WO(t:Tr)(s:Nat):(fl t s)[t.size-1]? =some (s:Int):=by
 cases t with
 |lf n=>rfl
 |un n a=>simp only [fl,Tr.size];rw [vZ (by rw [w9];omega),w9];simp
 |bi n a b=>simp only [fl,Tr.size];rw [vZ (by simp [w9]),gA,w9,w9];simp
def Hp(t:Tr)(st:List Tr)(rest:List Int):(SK st++fl t (cL st)++rest)[cL st+t.size-1]? =some (cL st:Int):=by
 have:=t.size_pos
 rw [Cf (by rw [gA,vp,w9];omega),vZ (by rw [vp];omega),vp,show cL st+t.size-1-cL st=t.size-1 from by omega]
 exact WO t _
def SO: ∀(ns:List ap) (st:List Tr),cL st+ns.length<=100000->kY ns (cL st) (SK st) (m6 st)=some (match p3 ns st with
   |some st' =>(SK st',decide (st'.length=1)&&decide (cL st' <=1000))
   |none=>([],false)):=by
 intro ns
 induction ns with
 |nil=>
  intro st _
  simp only [kY,p3,d9,vp]
  congr 2
  congr 1
  ·rw [vV];simp;omega
  ·rw [vV];simp;omega
 |cons n ns ih=>
  intro st hs
  simp only [iZ]at hs
  have hll:=I4 st
  unfold kY
  rw [AY]
  simp only [aV,d9,HN]
  unfold p3
  unfold push
  -- the parts
  cases hk:pk n.Tag with
  |none=>
   have e:Kt n.Tag= -1:=by unfold Kt;rw [hk]
   simp [e]
  |some k=>
   have e:Kt n.Tag=(k:Int):=by unfold Kt;rw [hk]
   have hk3:k=0\/k=1\/k=2:=by
    unfold pk at hk
    repeat' split at hk
    all_goals simp at hk
    all_goals omega
   rw [e]
   rcases hk3 with rfl|rfl|rfl
   ·-- none
    simp only []
    have c1:(decide (((0:Nat):Int)<0)||decide ((st.length:Int)<((0:Nat):Int)))=false:=by simp
    simp only [c1,v8,i8,aV]
    cases hc:Fk n with
    |false=>simp
    |true=>
     simp only [qg,lh,jB,vG]
     rw [j7 st.length st.length (by rw [dP (by omega) (by omega)];omega) rfl (gu _) (by rw [d9];exact gu _)]
     have hd:(List.take st.length (m6 st)).drop st.length=[]:=o6 (by simp;omega)
     simp only [hd,aV,mH]
     by_cases hL:n.L= -1/\n.R= -1
     ·have H:(n.L== -1&&n.R== -1)=true:=by simp [hL]
      rw [bv H,bm (by simp [hL.1,hL.2])]
      rw [dz (by simp only [iZ,rk,vp];omega)]
      simp only [aV]
      rw [j7 (i:=0) 0 st.length rfl (by rw [d9,dP (by omega) (by omega)];omega) (jv _) (by rw [d9];exact gu _)]
      rw [oB (by rw [d9];exact gu _),qh]
      simp only [aV]
      rw [dz (by simp only [iZ,rk,d9];omega)]
      simp only [aV]
      have V:=ih (.lf (ia n (-1) (-1))::st) (by simp [cL,Tr.size];omega)
      simp only [cL,Tr.size,SK,fl,m6]at V
      rw [show(((cL st+1:Nat):Int)-1)=(cL st:Int)from by omega]at V
      exact V
     ·have H:(n.L== -1&&n.R== -1)=false:=by
       rw [IQ];intro h;apply hL;simpa using h
      rw [H]
      rw [bv (by
       simp only [yn,o7]
       intro h
       have A:(-1:Int)=n.L:=by injection h
       have V:(-1:Int)=n.R:=by injection h with _ h;injection h
       exact hL ⟨A.symm,V.symm⟩)]
      simp
   ·-- one
    cases st with
    |nil=>simp
    |cons a st=>
     simp only []
     have c1:(decide (((1:Nat):Int)<0)||decide (((a::st).length:Int)<((1:Nat):Int)))=false:=by simp;omega
     simp only [c1,v8,i8,aV]
     cases hc:Fk n with
     |false=>simp
     |true=>
      simp only [qg,lh,jB,vG]
      simp only [iZ]at hll ⊢
      simp only [cL]at hs hll
      have hap:=a.size_pos
      rw [j7 st.length (st.length+1) (by rw [dP (by omega) (by omega)];omega) (by omega) (by omega) (by rw [d9];exact gu _)]
      have hd:(List.take (st.length+1) (m6 (a::st))).drop st.length=[((cL st+a.size:Nat):Int)-1]:=by
       rw [oB (by rw [d9];exact gu _)]
       simp only [m6]
       rw [ND (by rw [d9];exact gu _),o6 (by rw [d9];exact gu _),pe]
      rw [hd]
      simp only [aV,mH]
      rw [jz (cL st+a.size-1) (by omega)]
      have hf:=Hp a st []
      rw [Ca]at hf
      simp only [SK]
      rw [hf]
      simp only [aV]
      rw [jz 0 rfl]
      simp only [IT,aV]
      have hset:([(-1:Int),-1].set ((0:Nat):Int).toNat (((cL st+a.size:Nat):Int)-1))=[((cL st+a.size:Nat):Int)-1,-1]:=rfl
      rw [hset]
      by_cases hL:n.L=((cL st+a.size:Nat):Int)-1/\n.R= -1
      ·have H:(n.L==((cL st+a.size:Nat):Int)-1&&n.R== -1)=true:=by simp [hL]
       rw [bv H,bm (by rw [hL.1,hL.2];simp)]
       rw [dz (by simp only [iZ,rk,gA,vp,w9];omega)]
       simp only [aV]
       rw [j7 (i:=0) 0 st.length rfl (by rw [d9,dP (by simp<;>omega) (by simp<;>omega)];simp) (jv _) (by rw [d9];simp)]
       have M:(List.take st.length (m6 (a::st))).drop 0=m6 st:=by
        simp only [m6,qh]
        rw [yc (by rw [d9];exact gu _),oB (by rw [d9];exact gu _)]
       rw [M]
       simp only [aV]
       rw [dz (by simp only [iZ,rk,d9];omega)]
       simp only [aV]
       have V:=ih (.un (ia n (-1) (-1)) a::st) (by simp [cL,Tr.size];omega)
       simp only [cL,Tr.size,SK,fl,m6]at V
       rw [show(((cL st+(a.size+1):Nat):Int)-1)=((cL st+a.size:Nat):Int)from by omega]at V
       have hm:min ((cL (a::st):Nat):Int) (cL st:Int)=(cL st:Int):=by simp only [cL];omega
       rw [hm]
       simp only [gI]at V ⊢
       exact V
      ·have H:(n.L==((cL st+a.size:Nat):Int)-1&&n.R== -1)=false:=by
        rw [IQ];intro h;apply hL;simpa using h
       rw [H]
       rw [bv (by
        simp only [yn,o7]
        intro h
        have A:((cL st+a.size:Nat):Int)-1=n.L:=by injection h
        have V:(-1:Int)=n.R:=by injection h with _ h;injection h
        exact hL ⟨A.symm,V.symm⟩)]
       simp
   ·-- two
    cases st with
    |nil=>simp
    |cons b st=>
     cases st with
     |nil=>simp
     |cons a st=>
      simp only []
      have c1:(decide (((2:Nat):Int)<0)||decide (((b::a::st).length:Int)<((2:Nat):Int)))=false:=by simp;omega
      simp only [c1,v8,i8,aV]
      cases hc:Fk n with
      |false=>simp
      |true=>
       simp only [qg,lh,jB,vG]
       simp only [iZ]at hll ⊢
       simp only [cL]at hs hll
       have hap:=a.size_pos
       have hbp:=b.size_pos
       rw [j7 st.length (st.length+1+1) (by rw [dP (by omega) (by omega)];omega) (by omega) (by omega) (by rw [d9];exact gu _)]
       have hd:(List.take (st.length+1+1) (m6 (b::a::st))).drop st.length=[((cL st+a.size:Nat):Int)-1,((cL st+a.size+b.size:Nat):Int)-1]:=by
        rw [oB (by rw [d9];exact gu _)]
        simp only [m6,cL,gI]
        rw [ND (by rw [d9];exact gu _),o6 (by rw [d9];exact gu _),pe]
        rfl
       rw [hd]
       simp only [aV,mH]
       simp only [SK,cL]
       rw [jz (cL st+a.size-1) (by omega)]
       rw [Hp a st (fl b (cL st+a.size))]
       simp only [aV]
       rw [jz 0 rfl]
       simp only [IT,aV]
       have hset:([(-1:Int),-1].set ((0:Nat):Int).toNat (((cL st+a.size:Nat):Int)-1))=[((cL st+a.size:Nat):Int)-1,-1]:=rfl
       rw [hset]
       rw [jz (cL st+a.size+b.size-1) (by omega)]
       have hf:=Hp b (a::st) []
       rw [Ca]at hf
       simp only [SK,cL]at hf
       rw [hf]
       simp only [aV]
       rw [jz (0+1) rfl]
       simp only [List.getElem?_cons_succ,IT,aV]
       have hset2:([((cL st+a.size:Nat):Int)-1,-1].set ((0+1:Nat):Int).toNat (((cL st+a.size+b.size:Nat):Int)-1))=[((cL st+a.size:Nat):Int)-1,((cL st+a.size+b.size:Nat):Int)-1]:=rfl
       rw [hset2]
       by_cases hL:n.L=((cL st+a.size:Nat):Int)-1/\n.R=((cL st+a.size+b.size:Nat):Int)-1
       ·have H:(n.L==((cL st+a.size:Nat):Int)-1&&n.R==((cL st+a.size+b.size:Nat):Int)-1)=true:=by rw [hL.1,hL.2];simp
        rw [bv H,bm (by rw [hL.1,hL.2];simp)]
        rw [dz (by simp only [iZ,rk,gA,vp,w9];omega)]
        simp only [aV]
        rw [j7 (i:=0) 0 st.length rfl (by rw [d9,dP (by simp;omega) (by simp;omega)];simp;omega) (jv _) (by rw [d9];simp;omega)]
        have M:(List.take st.length (m6 (b::a::st))).drop 0=m6 st:=by
         simp only [m6,qh,gI]
         rw [yc (by rw [d9];exact gu _),oB (by rw [d9];exact gu _)]
        rw [M]
        simp only [aV]
        rw [dz (by simp only [iZ,rk,d9];omega)]
        simp only [aV]
        have V:=ih (.bi (ia n (-1) (-1)) a b::st) (by simp [cL,Tr.size];omega)
        simp only [cL,Tr.size,SK,fl,m6]at V
        rw [show(((cL st+(a.size+b.size+1):Nat):Int)-1)=((cL st+a.size+b.size:Nat):Int)from by omega,show cL st+(a.size+b.size+1)=cL st+a.size+b.size+1 from by omega]at V
        have hm:min (min (((cL st+a.size+b.size:Nat)):Int) (cL st:Int)) ((cL st+a.size:Nat):Int)=(cL st:Int):=by omega
        rw [hm]
        simp only [gI]at V ⊢
        exact V
       ·have H:(n.L==((cL st+a.size:Nat):Int)-1&&n.R==((cL st+a.size+b.size:Nat):Int)-1)=false:=by
         rw [IQ];intro h;apply hL;simpa using h
        rw [H]
        rw [bv (by
         simp only [yn,o7]
         intro h
         have A:((cL st+a.size:Nat):Int)-1=n.L:=by injection h
         have V:((cL st+a.size+b.size:Nat):Int)-1=n.R:=by injection h with _ h;injection h
         exact hL ⟨A.symm,V.symm⟩)]
        simp

def z6{n:Nat}(h:n<=1000000):n<=iB:=by unfold iB;omega
def kQ(ns:List ap):Bool:=(rs ns).isSome
def L6{st:List Tr}(h:p3 ns []=some st):cL st=ns.length:=by
 have:=(Bu h (fun t M=>by cases M)).1
 rw [<-JA,this];simp [xO]
def sk(e:aA)(h:e.Nodes.length<=100000):pS e=some (if kQ e.Nodes then 0 else 200):=by
 unfold pS zi kQ rs
 have:=SO e.Nodes [] (by simpa [cL] using h)
 simp only [cL,SK,m6]at this
 rw [this]
 cases hp:p3 e.Nodes []with
 |none=>rfl
 |some st=>
  have hsz:=L6 hp
  match st,hsz with
  |[],_=>rfl
  |[t],hsz=>
   simp only [aV,hsz]
   by_cases hl:e.Nodes.length<=1000<;>simp [hl]
  |t::t2::st,_=>simp
def Wn(t:Tr):t.wf-> ∀(P R N:List ap) (fu:Nat),N=P++t.flat P.length++R->t.size<=fu->N.length<=100000->jO fu ⟨N⟩ (((P.length+t.size:Nat):Int)-1)=some (t.size:Int):=by
 induction t with
 |lf n=>
  intro⟨A,V,h3,h4⟩ P R N fu hN hf hl
  have hNl:=congrArg List.length hN
  simp only [gA,Tr.flat_len]at hNl
  simp only [Tr.size]at hf hNl ⊢
  obtain⟨fu,rfl⟩: ∃k,fu=k+1:=⟨fu-1,by omega⟩
  unfold jO
  have D:N[P.length]? =some (ia n (-1) (-1)):=by
   rw [hN,gI,vZ (gu _),EL];rfl
  rw [bm (by simp;omega),jz P.length (by omega),D]
  have e1:(ia n (-1) (-1)).Tag=n.Tag:=rfl
  simp only [aV]
  rw [e1,qB]
  have e:Kt n.Tag=0:=by unfold Kt;rw [A];rfl
  simp only [e,aV,kh]
  have e2:Fk (ia n (-1) (-1))=true:=V
  rw [e2]
  simp [ia]
 |un n a ih=>
  intro⟨⟨A,V,h3,h4⟩,ha⟩ P R N fu hN hf hl
  obtain⟨m,hm⟩: ∃m,m=ia n (((P.length+a.size:Nat):Int)-1) (-1):=⟨_,rfl⟩
  have hNl:=congrArg List.length hN
  simp only [gA,Tr.flat_len]at hNl
  simp only [Tr.size]at hf hNl ⊢
  simp only [Tr.flat,<-hm]at hN
  obtain⟨fu,rfl⟩: ∃k,fu=k+1:=⟨fu-1,by omega⟩
  have hpos:=a.size_pos
  have hi:=ih ha P ([m]++R) N fu (by rw [hN];simp only [gI]) (by omega) hl
  unfold jO
  have D:N[P.length+a.size]? =some m:=by
   rw [hN,gI,gI,<-gI P,vZ (by simp [a.flat_len])]
   simp [a.flat_len]
  rw [bm (by simp;omega),jz (P.length+a.size) (by omega),D]
  simp only [aV]
  have e1:m.Tag=n.Tag:=by rw [hm];rfl
  rw [e1,qB]
  have e:Kt n.Tag=1:=by unfold Kt;rw [A];rfl
  simp only [e,aV,kh]
  have e2:Fk m=true:=by rw [hm];exact V
  have eL:m.L=((P.length+a.size:Nat):Int)-1:=by rw [hm];rfl
  have eR:m.R= -1:=by rw [hm];rfl
  rw [dP (n:=((P.length+(a.size+1):Nat):Int)-1-1) (by omega) (by omega),show(((P.length+(a.size+1):Nat):Int)-1-1)=(((P.length+a.size:Nat):Int)-1)from by omega]
  rw [hi]
  simp only [aV]
  rw [dP (n:=(a.size:Int)+1) (by omega) (by omega)]
  have n1: ¬a.size=0:=by omega
  simp [e2,eL,eR,n1]
 |bi n a b iha ihb=>
  intro⟨⟨A,V,h3,h4⟩,ha,H⟩ P R N fu hN hf hl
  obtain⟨m,hm⟩: ∃m,m=ia n (((P.length+a.size:Nat):Int)-1) (((P.length+a.size+b.size:Nat):Int)-1):=⟨_,rfl⟩
  have hNl:=congrArg List.length hN
  simp only [gA,Tr.flat_len]at hNl
  simp only [Tr.size]at hf hNl ⊢
  simp only [Tr.flat,<-hm]at hN
  obtain⟨fu,rfl⟩: ∃k,fu=k+1:=⟨fu-1,by omega⟩
  have hap:=a.size_pos
  have hbp:=b.size_pos
  have hi1:=iha ha P (b.flat (P.length+a.size)++[m]++R) N fu (by rw [hN];simp only [gI]) (by omega) hl
  have hi2:=ihb H (P++a.flat P.length) ([m]++R) N fu (by rw [hN];simp only [gI,gA,a.flat_len]) (by omega) hl
  rw [gA,a.flat_len]at hi2
  unfold jO
  have D:N[P.length+a.size+b.size]? =some m:=by
   rw [hN,gI,gI,<-gI P,vZ (by simp [a.flat_len,b.flat_len];omega)]
   have:P.length+a.size+b.size-(P++(a.flat P.length++b.flat (P.length+a.size))).length=0:=by simp [a.flat_len,b.flat_len];omega
   rw [this];rfl
  rw [bm (by simp;omega),jz (P.length+a.size+b.size) (by omega),D]
  simp only [aV]
  have e1:m.Tag=n.Tag:=by rw [hm];rfl
  rw [e1,qB]
  have e:Kt n.Tag=2:=by unfold Kt;rw [A];rfl
  simp only [e,aV,kh]
  have e2:Fk m=true:=by rw [hm];exact V
  have eL:m.L=((P.length+a.size:Nat):Int)-1:=by rw [hm];rfl
  have eR:m.R=((P.length+a.size+b.size:Nat):Int)-1:=by rw [hm];rfl
  rw [dP (n:=((P.length+(a.size+b.size+1):Nat):Int)-1-1) (by omega) (by omega),show(((P.length+(a.size+b.size+1):Nat):Int)-1-1)=(((P.length+a.size+b.size:Nat):Int)-1)from by omega]
  rw [hi2]
  simp only [aV]
  rw [dP (n:=((P.length+a.size+b.size:Nat):Int)-1-(b.size:Int)) (by omega) (by omega),show((P.length+a.size+b.size:Nat):Int)-1-(b.size:Int)=((P.length+a.size:Nat):Int)-1 from by omega]
  rw [hi1]
  simp only [aV]
  rw [dP (n:=(a.size:Int)+(b.size:Int)) (by omega) (by omega),dP (n:=(a.size:Int)+(b.size:Int)+1) (by omega) (by omega)]
  have n1: ¬a.size=0:=by omega
  have n2: ¬b.size=0:=by omega
  have e5:(P.length:Int)+(a.size:Int)+(b.size:Int)-1-(b.size:Int)=(P.length:Int)+(a.size:Int)-1:=by omega
  simp [e2,eL,eR,n1,n2,e5]
def Wo(N:List ap)(hN:N.length<=100000): ∀(fu q:Nat),q<=N.length->q<fu-> ∃k:Nat,jO fu ⟨N⟩ ((q:Int)-1)=some (k:Int)/\(k=0\/ ∃(t:Tr) (P R:List ap),t.wf/\t.size=k/\N=P++t.flat P.length++R/\P.length+k=q):=by
 intro fu
 induction fu with
 |zero=>intro q _ h;omega
 |succ fu ih=>
  intro q hq hf
  unfold jO
  by_cases h0:q=0
  ·subst h0
   exact⟨0,by rw [bv (by simp)];rfl,.inl rfl⟩
  rw [bm (by simp;omega),jz (q-1) (by omega)]
  have hlt:q-1<N.length:=by omega
  rw [qf hlt]
  obtain⟨n,hn⟩: ∃n,n=N[q-1]:=⟨_,rfl⟩
  rw [<-hn]
  have hd:N=N.take (q-1)++([n]++N.drop q):=by
   have A:=ra (q-1) N
   rw [rn hlt,<-hn,show q-1+1=q from by omega]at A
   exact A.symm
  simp only [aV,qB,kh]
  cases hk:pk n.Tag with
  |none=>
   have e:Kt n.Tag= -1:=by unfold Kt;rw [hk]
   exact⟨0,by simp [e],.inl rfl⟩
  |some k=>
   have e:Kt n.Tag=(k:Int):=by unfold Kt;rw [hk]
   have hk3:k=0\/k=1\/k=2:=by
    unfold pk at hk
    repeat' split at hk
    all_goals simp at hk
    all_goals omega
   cases hc:Fk n with
   |false=>exact⟨0,by simp [e,hc],.inl rfl⟩
   |true=>
    rcases hk3 with rfl|rfl|rfl
    ·rw [e]
     by_cases hL:n.L= -1/\n.R= -1
     ·refine⟨1,by simp [hL],.inr ⟨.lf (ia n (-1) (-1)),N.take (q-1),N.drop q,⟨hk,hc,rfl,rfl⟩,rfl,?_,by simp;omega⟩⟩
      simp only [Tr.flat]
      rw [zU hL.1 hL.2,gI]
      exact hd
     ·refine⟨0,?_,.inl rfl⟩
      have:(n.L != -1||n.R != -1)=true:=by
       rw [xY,su,su]
       by_cases hl:n.L= -1
       ·exact .inr fun h=>hL ⟨hl,h⟩
       ·exact .inl hl
      simp [this]
    ·rw [e,dP (by omega) (by omega)]
     have e9:(((q-1:Nat):Int)-1)=(q:Int)-1-1:=by omega
     obtain⟨r2,V,h2'⟩:=ih (q-1) (by omega) (by omega)
     rw [e9]at V
     rw [V]
     rcases h2' with rfl|⟨t,P,R,hw,hs,hN2,hl⟩
     ·exact⟨0,by simp,.inl rfl⟩
     ·have hp:=t.size_pos
      by_cases hL:n.L=(q:Int)-1-1/\n.R= -1
      ·refine⟨r2+1,?_,.inr ⟨.un (ia n (-1) (-1)) t,P,N.drop q,⟨⟨hk,hc,rfl,rfl⟩,hw⟩,by simp only [Tr.size];omega,?_,by omega⟩⟩
       ·simp only [aV]
        rw [dP (n:=(r2:Int)+1) (by omega) (by omega)]
        have: ¬(r2=0):=by omega
        simp [hL,this]
       ·simp only [Tr.flat]
        rw [zU (by rw [hL.1];omega) hL.2]
        have M:N.take (q-1)=P++t.flat P.length:=by
         rw [hN2,yc (by simp [t.flat_len];omega),oB (by simp [t.flat_len];omega)]
        rw [M]at hd
        simpa only [gI] using hd
      ·refine⟨0,?_,.inl rfl⟩
       have:(n.L !=(q:Int)-1-1||n.R != -1)=true:=by
        rw [xY,su,su]
        by_cases hl:n.L=(q:Int)-1-1
        ·exact .inr fun h=>hL ⟨hl,h⟩
        ·exact .inl hl
       simp [this]
    ·rw [e,dP (n:=(q:Int)-1-1) (by omega) (by omega)]
     have e9:(((q-1:Nat):Int)-1)=(q:Int)-1-1:=by omega
     obtain⟨r2,V,h2'⟩:=ih (q-1) (by omega) (by omega)
     rw [e9]at V
     rw [V]
     rcases h2' with rfl|⟨t,P,R,hw,hs,hN2,hl⟩
     ·exact⟨0,by simp,.inl rfl⟩
     ·have hp:=t.size_pos
      simp only [aV]
      rw [dP (n:=(q:Int)-1-1-(r2:Int)) (by omega) (by omega)]
      have e8:(((q-1-r2:Nat):Int)-1)=(q:Int)-1-1-(r2:Int):=by omega
      have n2: ¬(r2=0):=by omega
      obtain⟨r3,h3,h3'⟩:=ih (q-1-r2) (by omega) (by omega)
      rw [e8]at h3
      rw [h3]
      rcases h3' with rfl|⟨t3,P3,R3,hw3,hs3,hN3,hl3⟩
      ·exact⟨0,by simp,.inl rfl⟩
      ·have hp3:=t3.size_pos
       have n3: ¬(r3=0):=by omega
       by_cases hL:n.R=(q:Int)-1-1/\n.L=(q:Int)-1-1-(r2:Int)
       ·refine⟨r3+r2+1,?_,.inr ⟨.bi (ia n (-1) (-1)) t3 t,P3,N.drop q,⟨⟨hk,hc,rfl,rfl⟩,hw3,hw⟩,by simp only [Tr.size];omega,?_,by omega⟩⟩
        ·simp only [aV]
         rw [dP (n:=(r3:Int)+(r2:Int)) (by omega) (by omega),dP (n:=(r3:Int)+(r2:Int)+1) (by omega) (by omega)]
         simp [hL,n2,n3]
        ·simp only [Tr.flat]
         rw [zU (by rw [hL.2];omega) (by rw [hL.1];omega)]
         have M:N.take (q-1)=P++t.flat P.length:=by
          rw [hN2,yc (by simp [t.flat_len];omega),oB (by simp [t.flat_len];omega)]
         have hP:P=N.take P.length:=by
          conv=>rhs;rw [hN2,gI,yc (gu _),oB (gu _)]
         have hP3:P=P3++t3.flat P3.length:=by
          rw [hP]
          have:P.length=P3.length+t3.size:=by omega
          conv=>lhs;rw [this,hN3]
          rw [yc (by simp [t3.flat_len]),oB (by simp [t3.flat_len])]
         have hPl:P.length=P3.length+t3.size:=by omega
         rw [M,hPl]at hd
         rw [hP3]at hd
         simpa only [gI] using hd
       ·clear ih hN2 hN3
        refine⟨0,?_,.inl rfl⟩
        have:(n.R !=(q:Int)-1-1||n.L !=(q:Int)-1-1-(r2:Int))=true:=by
         rw [xY,su,su]
         by_cases hl:n.R=(q:Int)-1-1
         ·exact .inr fun h=>hL ⟨hl,h⟩
         ·exact .inl hl
        have h' :=this
        rw [xY,su,su]at h'
        simp [n2,n3]
        intro A V
        exact absurd V (by rcases h' with h' |h';exact absurd A h';exact h')
def GU(e:aA):yR e=some (kQ e.Nodes):=by
 unfold yR kQ
 by_cases h:1<=e.Nodes.length/\e.Nodes.length<=1000
 ·rw [bv (by simp;omega),dP (by omega) (by omega)]
  unfold GT
  obtain⟨k,A,V⟩:=Wo e.Nodes (by omega) iB e.Nodes.length (gu _) (IR (Nat.lt_succ_self _) (z6 (by omega)))
  have h1' :jO iB e ((e.Nodes.length:Int)-1)=some (k:Int):=A
  rw [h1']
  simp only [aV]
  congr 1
  rw [vV]
  constructor
  ·intro hk
   have hk' :k=e.Nodes.length:=by have:=eq_of_beq hk;omega
   rcases V with rfl|⟨t,P,R,hw,hs,hN,hl⟩
   ·omega
   ·have hP:P=[]:=wA (by omega)
    subst hP
    have hR:R=[]:=by
     have:=congrArg List.length hN
     simp [t.flat_len]at this
     exact wA (by omega)
    subst hR
    have hN' :e.Nodes=t.flat 0:=by simpa using hN
    rw [hN',yA hw (by omega)];rfl
  ·intro hi
   cases M:rs e.Nodes with
   |none=>rw [M]at hi;cases hi
   |some t=>
    obtain⟨hw,hN,hs⟩:=pV M
    have hlen:e.Nodes.length=t.size:=by rw [hN,t.flat_len]
    have h3:=Wn t hw [] [] e.Nodes iB (by simpa using hN) (z6 (by omega)) (by omega)
    simp only [rk,rj]at h3
    rw [<-hlen]at h3
    have h4:some (k:Int)=some (e.Nodes.length:Int):=A.symm.trans h3
    simpa using h4
 ·rw [bm (by simp;omega)]
  simp only [aV]
  congr 1
  symm
  rw [IQ]
  intro hi
  cases M:rs e.Nodes with
  |none=>rw [M]at hi;cases hi
  |some t=>
   obtain⟨hw,hN,hs⟩:=pV M
   have hlen:e.Nodes.length=t.size:=by rw [hN,t.flat_len]
   have:=t.size_pos
   omega
def Ok(h:kQ ns=true):1<=ns.length/\ns.length<=1000:=by
 unfold kQ at h
 cases M:rs ns with
 |none=>rw [M]at h;cases h
 |some t=>
  obtain⟨hw,hN,hs⟩:=pV M
  have hlen:ns.length=t.size:=by rw [hN,t.flat_len]
  have:=t.size_pos
  omega

def PA(p:List Int)(hp:p.length<=8000)(i:Nat)(y:List Int)(hy:i+y.length=p.length): ∀(k i1:Nat) (x:List Int) (x1:Nat),i1+k=y.length->0<i1->x.length=p.length->x1+1<=i+i1->x.drop (i+i1-1)=p.drop (i+i1-1)->
  fe i y k i1 x (x1:Int)=some (x.take x1++zp ((p[i+i1-1]?).getD 0) (p.drop (i+i1))):=by
 intro k
 induction k with
 |zero=>
  intro i1 x x1 A h0 D V h3
  simp only [fe]
  have hx1:x1<=x.length:=by omega
  rw [we hx1 (gu _)]
  simp only [aV,AA,wy]
  rw [show((0:Int))=((0:Nat):Int)from rfl,we (jv _) (by simp;omega)]
  simp only [aV,qh]
  have hn:p.drop (i+i1)=[]:=Qb (by omega)
  rw [hn,MO,Ca,yc (by simp;omega),B0,Nat.min_self]
 |succ k ih=>
  intro i1 x x1 A h0 D V h3
  have e1:x[i+i1]? =p[i+i1]? :=by
   have:=congrArg (fun l:List Int=>l[1]?) h3
   simp only [wz]at this
   rwa [show i+i1-1+1=i+i1 from by omega]at this
  have e0:x[i+i1-1]? =p[i+i1-1]? :=by
   have:=congrArg (fun l:List Int=>l[0]?) h3
   simpa only [wz,F6] using this
  have hlt:i+i1<p.length:=by omega
  have g1:IF x (i:Int) y.length (i1:Int)=some p[i+i1]:=by
   unfold IF
   rw [bv (by omega),show(i:Int)+(i1:Int)=((i+i1:Nat):Int)from by omega,fE,e1,qf hlt]
  have g0:IF x (i:Int) y.length (IntKind.i64.wrap ((i1:Int)-1))=some p[i+i1-1]:=by
   rw [dP (by omega) (by omega)]
   unfold IF
   rw [bv (by omega),show(i:Int)+((i1:Int)-1)=((i+i1-1:Nat):Int)from by omega,fE,e0,qf (by omega)]
  have hd:p.drop (i+i1)=p[i+i1]::p.drop (i+i1+1):=rn hlt
  have hp1:(p[i+i1-1]?).getD 0=p[i+i1-1]:=by rw [qf (by omega)];rfl
  simp only [fe,g1,g0,aV]
  rw [hd,hp1]
  by_cases hx2:p[i+i1]=p[i+i1-1]
  ·rw [bm (by simp [hx2])]
   have h3' :x.drop (i+(i1+1)-1)=p.drop (i+(i1+1)-1):=by
    have:=congrArg (List.drop 1) h3
    rwa [uk,uk,show i+i1-1+1=i+(i1+1)-1 from by omega]at this
   rw [ih (i1+1) x x1 (by omega) (by omega) D (by omega) h3']
   rw [JK hx2,show i+(i1+1)-1=i+i1 from by omega,qf hlt,show i+(i1+1)=i+i1+1 from by omega]
   rfl
  ·rw [bv (by simp [hx2]),fE,qf (by omega)]
   simp only [aV,wy]
   rw [dP (by omega) (by omega),show((x1:Int)+1)=((x1+1:Nat):Int)from by omega]
   have h3' :(x.set x1 p[i+i1]).drop (i+(i1+1)-1)=p.drop (i+(i1+1)-1):=by
    rw [List.drop_set_of_lt (by omega)]
    have:=congrArg (List.drop 1) h3
    rwa [uk,uk,show i+i1-1+1=i+(i1+1)-1 from by omega]at this
   rw [ih (i1+1) _ (x1+1) (by omega) (by omega) (by simpa using D) (by omega) h3']
   rw [Ro hx2,show i+(i1+1)-1=i+i1 from by omega,qf hlt,show i+(i1+1)=i+i1+1 from by omega]
   have M:(x.set x1 p[i+i1]).take (x1+1)=x.take x1++[p[i+i1]]:=by
    rw [NF (by simp;omega),List.take_set_of_le (by omega)]
    simp
   rw [M]
   simp
def PB(p:List Int)(hp:p.length<=8000):kA p=some (Rn p):=by
 unfold kA
 by_cases V:p.length<2
 ·rw [bv (by simp;omega)]
  match p,V with
  |[],_=>rfl
  |[x],_=>rfl
 ·rw [bm (by simp;omega)]
  have key: ∀(l:List Int) (i:Nat),p.drop i=l->0<i->i<=p.length->Rn p=p.take i++zp ((p[i-1]?).getD 0) (p.drop i)->gb p l i=some (Rn p):=by
   intro l
   induction l with
   |nil=>
    intro i A h0 hle h3
    have:=Gc.1 A
    simp only [gb]
    rw [h3,A,oB (by omega),MO,Ca]
   |cons x t ih=>
    intro i A h0 hle h3
    have hi:i<p.length:=by
     rcases lZ i p.length with h|h
     ·exact h
     ·rw [Qb h]at A;cases A
    have D:x=p[i]:=by rw [rn hi]at A;exact(Cg A).1.symm
    have M:p.drop (i+1)=t:=by rw [<-uk,A];rfl
    have hp1:(p[i-1]?).getD 0=p[i-1]:=by rw [qf (by omega)];rfl
    simp only [gb]
    rw [dP (by omega) (by omega),show(i:Int)-1=((i-1:Nat):Int)from by omega,fE,qf (by omega)]
    simp only [aV]
    by_cases he:x=p[i-1]
    ·rw [bv (by simp [he])]
     rw [we hle (gu _)]
     simp only [aV,AA]
     rw [PA p hp i (p.drop i) (by simp;omega) _ 1 p i (by simp;omega) (by omega) rfl (by omega) (by simp)]
     rw [h3,A,hp1,JK he,<-M,D]
     rw [show i+1-1=i from by omega,qf hi];rfl
    ·rw [bm (by simp [he])]
     refine ih (i+1) M (by omega) (by omega) ?_
     rw [h3,A,hp1,Ro he,NF hi,<-M,D,show i+1-1=i from by omega,qf hi]
     rw [gI];rfl
  have hpc:p=p[0]::p.drop 1:=by
   have:=rn (l:=p) (i:=0) (by omega)
   simpa using this
  refine key (p.drop 1) 1 rfl (by omega) (by omega) ?_
  have e:(p[1-1]?).getD 0=p[0]:=by simp [qf (show 0<p.length by omega)]
  rw [e]
  conv=>lhs;rw [hpc]
  have e2:p.take 1=[p[0]]:=by
   conv=>lhs;rw [hpc]
   rfl
  rw [e2];rfl

def Sy(l:List Int)(z:Int):z∈sortI l↔z∈l:=by unfold sortI;simp
def BZ: ∀(ns:List ap) (out:List Int),out.length+ns.length<=8000-> ∃cs,nj ns out=some cs/\ ∀c,c∈cs↔c∈out\/ ∃n∈ns,n.Tag=2/\n.Col=c
 |[],out,h=>by
  unfold nj;rw [I3]
  rw [bv (by simp at h;omega)]
  simp only [aV]
  rw [PB _ (by rw [DH];simpa using h)]
  exact⟨_,rfl,fun c=>by rw [Sz,Sy];simp⟩
 |n::ns,out,h=>by
  simp only [iZ]at h
  unfold nj
  by_cases M:n.Tag=2
  ·rw [bv (by simp [M]),dz (by simp;omega)]
   simp only [aV]
   obtain⟨cs,A,V⟩:=BZ ns (out++[n.Col]) (by simp;omega)
   exact⟨cs,A,fun c=>by rw [V];simp [M,or_assoc,eq_comm]⟩
  ·rw [bm (by simp [M])]
   obtain⟨cs,A,V⟩:=BZ ns out (by omega)
   exact⟨cs,A,fun c=>by rw [V];simp [M]⟩
def K6(e:aA)(h:kQ e.Nodes=true): ∃cs,wt e=some cs/\ ∀c,c∈cs↔ ∃n∈e.Nodes,n.Tag=2/\n.Col=c:=by
 have hl:=Ok h
 unfold wt
 rw [sk e (by omega),h]
 obtain⟨cs,A,V⟩:=BZ e.Nodes [] (by simp;omega)
 exact⟨cs,by simpa using A,fun c=>by rw [V];simp⟩
def kn(tag l r:Int):Int×Bool:=(uC tag l r).getD (0,false)
def AN(tag l r:Int):uC tag l r=some (kn tag l r):=by
 unfold kn uC rA
 simp only [aV]
 repeat' split
 all_goals simp
def k4(k:Int):Prop:=k=0\/k=1\/k=2\/k=3
def X3(tag l r:Int):k4 (kn tag l r).1:=by
 unfold kn uC rA
 simp only [aV]
 repeat' split
 all_goals simp [k4]
def PS(kinds:List Int)(n:ap)(x:Int)(D:k4 x)(hk:pk n.Tag=some 1):jZ kinds n [x]=some (if(kn n.Tag x 0).2 then((kn n.Tag x 0).1,0)else(0,201)):=by
 obtain⟨tag,L,R,col,v⟩:=n
 have M:tag=4\/tag=5\/tag=6\/tag=7:=by
  unfold pk at hk
  repeat' split at hk
  all_goals simp at hk
  rename_i h
  have h:4<=tag/\tag<=7:=h
  omega
 rcases M with rfl|rfl|rfl|rfl<;>rcases D with rfl|rfl|rfl|rfl<;>rfl
def PR(kinds:List Int)(n:ap)(x y:Int)(D:k4 x)(hy:k4 y)(hk:pk n.Tag=some 2):jZ kinds n [x,y]=some (if(kn n.Tag x y).2 then((kn n.Tag x y).1,0)else(0,201)):=by
 obtain⟨tag,L,R,col,v⟩:=n
 have M:tag=12\/tag=13\/tag=14\/tag=15\/tag=16\/tag=17\/tag=18\/tag=19\/tag=20\/tag=21\/tag=22\/tag=23:=by
  unfold pk at hk
  repeat' split at hk
  all_goals simp at hk
  rename_i h
  have h:12<=tag/\tag<=23:=h
  omega
 rcases M with rfl|rfl|rfl|rfl|rfl|rfl|rfl|rfl|rfl|rfl|rfl|rfl<;>rcases D with rfl|rfl|rfl|rfl<;>rcases hy with rfl|rfl|rfl|rfl<;>rfl
def kd(kinds:List Int):Tr->Option Int
 | .lf n=>if n.Tag=1 then some n.Value.Kind else some ((kinds[n.Col.toNat]?).getD 0)
 | .un n a=>(kd kinds a).bind fun x=>if(kn n.Tag x 0).2 then some (kn n.Tag x 0).1 else none
 | .bi n a b=>(kd kinds a).bind fun x=>(kd kinds b).bind fun y=>if(kn n.Tag x y).2 then some (kn n.Tag x y).1 else none
def Mo(kinds:List Int)(n:ap)(a:Tr):kd kinds (.un n a)=(kd kinds a).bind fun x=>if(kn n.Tag x 0).2 then some (kn n.Tag x 0).1 else none:=rfl
def Jq(kinds:List Int)(n:ap)(a b:Tr):kd kinds (.bi n a b)=(kd kinds a).bind fun x=>(kd kinds b).bind fun y=>if(kn n.Tag x y).2 then some (kn n.Tag x y).1 else none:=rfl
def HT(m:Nat):Tr->Prop
 | .lf n=>n.Tag=2->n.Col<m
 | .un _ a=>HT m a
 | .bi _ a b=>HT m a/\HT m b
def pk0{tag:Int}(h:pk tag=some 0):tag=1\/tag=2:=by
 unfold pk at h
 repeat' split at h
 all_goals simp at h
 assumption
def acM(h:Fk n=true)(M:n.Tag=1):ta n.Value=true:=by
 have V:=kh n
 rw [h]at V
 unfold jP at V
 rw [bv (by simp [M]),n6]at V
 simp at V
 exact V.1
def Z6(h:Fk n=true)(M:n.Tag=2):0<=n.Col/\n.Col<16:=by
 have V:=kh n
 rw [h]at V
 unfold jP at V
 rw [bm (by simp [M]),bv (by simp [M])]at V
 simp at V
 exact⟨V.1.2,V.2⟩
def QR{kinds:List Int}(hk: ∀k∈kinds,k4 k): ∀(t:Tr),t.wf-> ∀{k},kd kinds t=some k->k4 k
 | .lf n,⟨A,V,_,_⟩,k,h=>by
  unfold kd at h
  split at h
  ·rename_i M
   have:=L4 (acM V M)
   cases h;unfold k4;omega
  ·injection h with h
   subst h
   cases hc:kinds[n.Col.toNat]? with
   |none=>exact .inl rfl
   |some z=>exact hk z (sR hc)
 | .un n a,_,k,h=>by
  unfold kd at h
  cases ha:kd kinds a with
  |none=>rw [ha]at h;cases h
  |some x=>
   rw [ha,aV]at h
   split at h
   ·cases h;exact X3 ..
   ·cases h
 | .bi n a b,_,k,h=>by
  unfold kd at h
  cases ha:kd kinds a with
  |none=>rw [ha]at h;cases h
  |some x=>
   cases H:kd kinds b with
   |none=>rw [ha,H]at h;cases h
   |some y=>
    rw [ha,H]at h
    simp only [aV]at h
    split at h
    ·cases h;exact X3 ..
    ·cases h
def Oy(stack l:List Int)(h:stack.length+l.length<=100000):pD (stack++l) (l.length:Int)=some (l,stack):=by
 unfold pD lw
 have e:IntKind.i64.wrap (((stack++l).length:Int)-(l.length:Int))=(stack.length:Int):=by
  rw [gA,dP (by omega) (by omega)];omega
 rw [e,j7 stack.length (stack++l).length rfl rfl (by simp) (gu _)]
 simp only [aV,AA,ND (gu _),List.drop_length,pe]
 rw [dz (by simp;omega)]
 simp only [aV,pe]
 rw [j7 (i:=0) 0 stack.length rfl rfl (jv _) (by simp)]
 simp
def L8(stack:List Int){b:Int}(h:b≠0):mF b stack=some (0,b):=by
 unfold mF;rw [bv (by simpa using h)]
def vT{tag:Int}{k:Nat}(h:pk tag=some k):rG tag=some (k:Int):=by
 rw [AY];unfold Kt;rw [h]
def Sj(kinds:List Int)(hk: ∀k∈kinds,k4 k)(t:Tr):t.wf->HT kinds.length t-> ∀(s:Nat) (rest:List ap) (stack:List Int),stack.length+t.size<=50000->
  iQ (jZ kinds) (t.flat s++rest) 0 stack=match kd kinds t with
   |some k=>iQ (jZ kinds) rest 0 (stack++[k])
   |none=>some (0,201):=by
 induction t with
 |lf n=>
  intro⟨A,V,h3,h4⟩ hc s rest stack hl
  simp only [Tr.flat,Tr.size,xZ,pe]at hl ⊢
  rw [iQ]
  have e1:(ia n (-1) (-1)).Tag=n.Tag:=rfl
  rw [e1,vT A]
  have h0:=Oy stack [] (by simp;omega)
  simp only [Ca,rk]at h0
  simp only [aV]
  rw [h0]
  simp only [aV]
  have hv:jZ kinds (ia n (-1) (-1)) []=(kd kinds (.lf n)).map (fun k=>(k,(0:Int))):=by
   unfold jZ mK kd
   simp only [e1]
   rcases pk0 A with M|M
   ·rw [bv (by simp [M]),bv M];rfl
   ·rw [bm (by simp [M]),bv (by simp [M]),bm (by simp [M])]
    have H:=Z6 V M
    have hm:n.Col<kinds.length:=hc M
    have e2:(ia n (-1) (-1)).Col=n.Col:=rfl
    rw [e2,jz n.Col.toNat (by omega),qf (by omega)]
    rfl
  rw [hv]
  have: ∃k,kd kinds (.lf n)=some k:=by unfold kd;split<;>exact⟨_,rfl⟩
  obtain⟨k,hk1⟩:=this
  rw [hk1]
  simp only [EN,aV]
  rw [bm (by simp),dz (by simp;omega)]
  rfl
 |un n a ih=>
  intro⟨⟨A,V,h3,h4⟩,ha⟩ hc s rest stack hl
  simp only [Tr.flat,Tr.size,gI]at hl ⊢
  rw [Mo,ih ha hc s _ stack (by omega)]
  cases D:kd kinds a with
  |none=>rfl
  |some x=>
   have hx4:=QR hk a ha D
   simp only [aV,xZ,pe]
   rw [iQ]
   have e1:(ia n (((s+a.size:Nat):Int)-1) (-1)).Tag=n.Tag:=rfl
   rw [e1,vT A]
   have h0:=Oy stack [x] (by simp;omega)
   simp only [aV]
   have e0:(([x]:List Int).length:Int)=((1:Nat):Int):=rfl
   rw [<-e0,h0]
   simp only [aV]
   rw [PS kinds _ x hx4 (by rw [e1];exact A),e1]
   cases H:(kn n.Tag x 0).2 with
   |true=>
    simp only [i8,aV]
    rw [bm (by simp),dz (by simp;omega)]
    rfl
   |false=>
    simp only [lh,jB,aV]
    rw [bv (by decide),L8 _ (by decide)]
 |bi n a b iha ihb=>
  intro⟨⟨A,V,h3,h4⟩,ha,H⟩ ⟨hca,hcb⟩ s rest stack hl
  simp only [Tr.flat,Tr.size,gI]at hl ⊢
  rw [Jq,iha ha hca s _ stack (by omega)]
  cases D:kd kinds a with
  |none=>rfl
  |some x=>
   have hx4:=QR hk a ha D
   simp only [aV]
   rw [ihb H hcb (s+a.size) _ (stack++[x]) (by have:=a.size_pos;simp;omega)]
   cases hy:kd kinds b with
   |none=>rfl
   |some y=>
    have hy4:=QR hk b H hy
    have hap:=a.size_pos
    simp only [aV,xZ,pe]
    rw [iQ]
    have e1:(ia n (((s+a.size:Nat):Int)-1) (((s+a.size+b.size:Nat):Int)-1)).Tag=n.Tag:=rfl
    rw [e1,vT A]
    have h0:=Oy stack [x,y] (by simp;omega)
    simp only [aV]
    have e0:(([x,y]:List Int).length:Int)=((2:Nat):Int):=rfl
    have e9:stack++[x]++[y]=stack++[x,y]:=by simp
    rw [<-e0,e9,h0]
    simp only [aV]
    rw [PR kinds _ x y hx4 hy4 (by rw [e1];exact A),e1]
    cases H:(kn n.Tag x y).2 with
    |true=>
     simp only [i8,aV]
     rw [bm (by simp),dz (by simp;omega)]
     rfl
    |false=>
     simp only [lh,jB,aV]
     rw [bv (by decide),L8 _ (by decide)]
def Uf(kinds:List Int)(hk: ∀k∈kinds,k4 k)(t:Tr):t.wf->HT kinds.length t-> ∀(rest:List ap) (own:List Int),own.length+t.size<=50000->
  (kd kinds t=none/\ei kinds (t.flat own.length++rest) own=some (0,201))\/
  (∃k w,kd kinds t=some k/\w.length+1=t.size/\ei kinds (t.flat own.length++rest) own=ei kinds rest (own++w++[k])):=by
 induction t with
 |lf n=>
  intro⟨A,V,h3,h4⟩ hc rest own hl
  simp only [Tr.flat,Tr.size,xZ,pe]at hl ⊢
  refine .inr ?_
  have e1:(ia n (-1) (-1)).Tag=n.Tag:=rfl
  unfold kd
  rcases pk0 A with M|M
  ·refine⟨_,[],bv M,rfl,?_⟩
   rw [ei]
   rw [e1,bv (by simp [M]),dz (by simp;omega)]
   simp only [aV,Ca]
   rfl
  ·refine⟨_,[],bm (by simp [M]),rfl,?_⟩
   have H:=Z6 V M
   have hm:n.Col<kinds.length:=hc M
   have e2:(ia n (-1) (-1)).Col=n.Col:=rfl
   rw [ei]
   rw [e1,bm (by simp [M]),bv (by simp [M]),e2,jz n.Col.toNat (by omega),qf (by omega)]
   simp only [aV,Ca,Option.getD_some]
   rw [dz (by simp;omega)]
   rfl
 |un n a ih=>
  intro⟨⟨A,V,h3,h4⟩,ha⟩ hc rest own hl
  have hap:=a.size_pos
  simp only [Tr.flat,Tr.size,gI]at hl ⊢
  rcases ih ha hc ([ia n (((own.length+a.size:Nat):Int)-1) (-1)]++rest) own (by omega)with⟨D,he⟩|⟨x,w,D,hw,he⟩
  ·exact .inl ⟨by rw [Mo,D];rfl,by rw [he]⟩
  ·rw [he]
   rw [Mo,D]
   simp only [aV,xZ,pe]
   have e1:(ia n (((own.length+a.size:Nat):Int)-1) (-1)).Tag=n.Tag:=rfl
   have n1:n.Tag≠1:=fun h=>by rw [h]at A;simp [pk]at A
   have n2:n.Tag≠2:=fun h=>by rw [h]at A;simp [pk]at A
   have hstep:ei kinds (ia n (((own.length+a.size:Nat):Int)-1) (-1)::rest) (own++w++[x])=if(kn n.Tag x 0).2 then ei kinds rest (own++w++[x]++[(kn n.Tag x 0).1])else some (0,201):=by
    rw [ei]
    rw [e1,bm (by simpa using n1),bm (by simpa using n2)]
    have eL:(ia n (((own.length+a.size:Nat):Int)-1) (-1)).L=((own.length+a.size:Nat):Int)-1:=rfl
    have eR:(ia n (((own.length+a.size:Nat):Int)-1) (-1)).R= -1:=rfl
    rw [eL,eR,jz (own++w).length (by simp;omega),vZ (gu _),EL]
    simp only [IT,aV]
    rw [bm (by decide)]
    unfold sd
    rw [e1,AN]
    simp only [aV]
    cases H:(kn n.Tag x 0).2 with
    |true=>
     simp only [qg,lh,jB,i8]
     rw [dz (by simp;omega)];rfl
    |false=>rfl
   rw [hstep]
   cases H:(kn n.Tag x 0).2 with
   |true=>exact .inr ⟨(kn n.Tag x 0).1,w++[x],by simp,by simp;omega,by simp⟩
   |false=>exact .inl ⟨by simp,by simp⟩
 |bi n a b iha ihb=>
  intro⟨⟨A,V,h3,h4⟩,ha,H⟩ ⟨hca,hcb⟩ rest own hl
  have hap:=a.size_pos
  have hbp:=b.size_pos
  simp only [Tr.flat,Tr.size,gI]at hl ⊢
  obtain⟨m,hm⟩: ∃m,m=ia n (((own.length+a.size:Nat):Int)-1) (((own.length+a.size+b.size:Nat):Int)-1):=⟨_,rfl⟩
  rw [<-hm]
  rcases iha ha hca (b.flat (own.length+a.size)++([m]++rest)) own (by omega)with⟨D,he⟩|⟨x,w,D,hw,he⟩
  ·exact .inl ⟨by rw [Jq,D];rfl,by rw [he]⟩
  ·rw [he]
   have hl2:(own++w++[x]).length=own.length+a.size:=by simp;omega
   rw [<-hl2]
   rcases ihb H hcb ([m]++rest) (own++w++[x]) (by rw [hl2];omega)with⟨hy,he2⟩|⟨y,w2,hy,hw2,he2⟩
   ·exact .inl ⟨by rw [Jq,D,hy];rfl,by rw [he2]⟩
   ·rw [he2]
    rw [Jq,D,hy]
    simp only [aV,xZ,pe]
    have e1:m.Tag=n.Tag:=by rw [hm];rfl
    have eL:m.L=((own.length+a.size:Nat):Int)-1:=by rw [hm];rfl
    have eR:m.R=((own.length+a.size+b.size:Nat):Int)-1:=by rw [hm];rfl
    have n1:n.Tag≠1:=fun h=>by rw [h]at A;simp [pk]at A
    have n2:n.Tag≠2:=fun h=>by rw [h]at A;simp [pk]at A
    have hstep:ei kinds (m::rest) (own++w++[x]++w2++[y])=if(kn n.Tag x y).2 then ei kinds rest (own++w++[x]++w2++[y]++[(kn n.Tag x y).1])else some (0,201):=by
     rw [ei]
     rw [e1,bm (by simpa using n1),bm (by simpa using n2)]
     rw [eL,eR,jz (own++w).length (by simp;omega)]
     have g1:(own++w++[x]++w2++[y])[(own++w).length]? =some x:=by
      rw [gI,gI,vZ (gu _),EL];rfl
     rw [g1]
     simp only [aV]
     rw [bv (by rw [mo];omega),jz (own++w++[x]++w2).length (by simp;omega)]
     have g2:(own++w++[x]++w2++[y])[(own++w++[x]++w2).length]? =some y:=by
      rw [vZ (gu _),EL];rfl
     rw [g2]
     simp only [aV]
     unfold sd
     rw [e1,AN]
     simp only [aV]
     cases H:(kn n.Tag x y).2 with
     |true=>
      simp only [qg,lh,jB,i8]
      rw [dz (by simp;omega)];rfl
     |false=>rfl
    rw [hstep]
    cases H:(kn n.Tag x y).2 with
    |true=>exact .inr ⟨(kn n.Tag x y).1,w++[x]++w2++[y],by simp,by simp;omega,by simp⟩
    |false=>exact .inl ⟨by simp,by simp⟩
def np(m:Nat)(ns:List ap):Bool:=ns.all fun n=> !((n.Tag==2)&&decide ((m:Int)<=n.Col))
def MP(m:Nat)(n:ap)(ns:List ap):np m (n::ns)=(!((n.Tag==2)&&decide ((m:Int)<=n.Col))&&np m ns):=rfl
def zr(m:Nat)(t:Tr):t.wf-> ∀s,np m (t.flat s)=true->HT m t:=by
 induction t with
 |lf n=>
  intro _ s h M
  simp only [np,Tr.flat,sn,List.all_nil,Bool.and_true]at h
  have e1:(ia n (-1) (-1)).Tag=n.Tag:=rfl
  have e2:(ia n (-1) (-1)).Col=n.Col:=rfl
  simp [e1,e2,M]at h
  exact h
 |un n a ih=>
  intro⟨_,ha⟩ s h
  simp only [np,Tr.flat,List.all_append,gQ]at h
  exact ih ha s h.1
 |bi n a b iha ihb=>
  intro⟨_,ha,H⟩ s h
  simp only [np,Tr.flat,List.all_append,gQ]at h
  exact⟨iha ha s h.1.1,ihb H _ h.1.2⟩
def Tx(kinds:List Int):Bool:=kinds.all fun k=>decide (0<=k)&&decide (k<=3)
def Mp(k:Int)(ks:List Int):Tx (k::ks)=((decide (0<=k)&&decide (k<=3))&&Tx ks):=rfl
def QS{kinds:List Int}(h:Tx kinds=true){k:Int}(hk:k∈kinds):k4 k:=by
 have:=mZ.1 h k hk
 simp at this
 unfold k4;omega
def gK(e:aA)(kinds:List Int):Int×Int:=
 if kQ e.Nodes then if Tx kinds then if np kinds.length e.Nodes then match (rs e.Nodes).bind (kd kinds)with
  |some k=>(k,0)
  |none=>(0,201)else(0,2)else(0,2)else(0,200)
def Ij(e:aA)(kinds:List Int): ∀cs:List Int,ni e kinds cs=if cs.all (fun c=>decide (c<(kinds.length:Int)))then pu e (jZ kinds)else some (0,2)
 |[]=>by
  unfold ni
  cases pu e (jZ kinds)<;>rfl
 |c::cs=>by
  unfold ni
  rw [Ij e kinds cs]
  by_cases h:(kinds.length:Int)<=c
  ·rw [bv (by simpa using h),bm (by simp;omega)]
  ·rw [bm (by simpa using h)]
   have:c<(kinds.length:Int):=by omega
   simp [this]
def tN(e:aA)(kinds:List Int)(hl:e.Nodes.length<=50000):kN e kinds=some (gK e kinds):=by
 unfold kN gK
 rw [sk e (by omega)]
 cases hr:kQ e.Nodes with
 |false=>rfl
 |true=>
  simp only [i8,aV]
  rw [bm (by decide)]
  have key: ∀ks:List Int,qP e kinds ks=if Tx ks then(wt e).bind (ni e kinds)else some (0,2):=by
   intro ks
   induction ks with
   |nil=>rfl
   |cons k ks ih=>
    unfold qP
    rw [ih]
    by_cases h:k<0\/3<k
    ·rw [bv (by simpa using h),bm (by simp [Tx];omega)]
    ·rw [bm (by simpa using h)]
     have A:(decide (0<=k)&&decide (k<=3))=true:=by simp;omega
     rw [Mp,A,vG]
  rw [key]
  cases hk:Tx kinds with
  |false=>rfl
  |true=>
   simp only [i8]
   obtain⟨cs,A,V⟩:=K6 e hr
   rw [A,aV,Ij]
   have hci:cs.all (fun c=>decide (c<(kinds.length:Int)))=np kinds.length e.Nodes:=by
    rw [vV]
    simp only [mZ,mo,np,yn,Bool.and_eq_false_iff,Lp,o7]
    constructor
    ·intro h n hn
     by_cases M:n.Tag=2
     ·exact .inr (by have:=h _ ((V n.Col).2 ⟨n,hn,M,rfl⟩);omega)
     ·exact .inl M
    ·intro h c hc
     obtain⟨n,hn,M,rfl⟩:=(V c).1 hc
     rcases h n hn with h|h
     ·exact absurd M h
     ·omega
   rw [hci]
   cases hc:np kinds.length e.Nodes with
   |false=>rfl
   |true=>
    simp only [i8]
    cases M:rs e.Nodes with
    |none=>unfold kQ at hr;rw [M]at hr;cases hr
    |some t=>
     obtain⟨hw,hN,hs⟩:=pV M
     have hct:=zr kinds.length t hw 0 (by rw [<-hN];exact hc)
     have:=Sj kinds (fun k=>QS hk) t hw hct 0 [] [] (by simp;omega)
     rw [Ca,<-hN]at this
     unfold pu
     rw [this]
     simp only [aV]
     cases kd kinds t with
     |none=>rfl
     |some k=>rfl
def pn(e:aA)(kinds:List Int):rC e kinds=some (gK e kinds):=by
 unfold rC gK
 rw [GU e]
 cases hr:kQ e.Nodes with
 |false=>rfl
 |true=>
  simp only [i8,aV,qg,lh,jB]
  have aaT: ∀ns:List ap,pm e kinds ns=if np kinds.length ns then ei kinds e.Nodes []else some (0,2):=by
   intro ns
   induction ns with
   |nil=>rfl
   |cons n ns ih=>
    unfold pm
    rw [ih,MP]
    cases ((n.Tag==2)&&decide ((kinds.length:Int)<=n.Col))<;>simp
  have key: ∀ks:List Int,sb e kinds ks=if Tx ks then pm e kinds e.Nodes else some (0,2):=by
   intro ks
   induction ks with
   |nil=>rfl
   |cons k ks ih=>
    unfold sb
    rw [ih]
    by_cases h:k<0\/3<k
    ·rw [bv (by simpa using h),bm (by simp [Tx];omega)]
    ·rw [bm (by simpa using h)]
     have A:(decide (0<=k)&&decide (k<=3))=true:=by simp;omega
     rw [Mp,A,vG]
  rw [key,aaT]
  cases hk:Tx kinds with
  |false=>rfl
  |true=>
   cases hc:np kinds.length e.Nodes with
   |false=>rfl
   |true=>
    simp only [i8]
    cases M:rs e.Nodes with
    |none=>unfold kQ at hr;rw [M]at hr;cases hr
    |some t=>
     obtain⟨hw,hN,hs⟩:=pV M
     have hct:=zr kinds.length t hw 0 (by rw [<-hN];exact hc)
     have:=Uf kinds (fun k=>QS hk) t hw hct [] [] (by simp;omega)
     rw [Ca,rk,<-hN]at this
     simp only [aV]
     rcases this with⟨A,V⟩|⟨k,w,A,V,h3⟩
     ·rw [A,V]
     ·rw [A,h3]
      unfold ei
      have hls:t.size<=1000:=hs
      rw [pe,jz w.length (by rw [dP (by simp<;>omega) (by simp<;>omega)];simp),vZ (gu _),EL]
      rfl
end Go.Proofs.YtigldkegamffhaaGreatDoor

