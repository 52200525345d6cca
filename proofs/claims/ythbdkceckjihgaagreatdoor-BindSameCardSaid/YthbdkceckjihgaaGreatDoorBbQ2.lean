/- du of this claim: L1, L2, L3. -/
import Derived.Test.YthbdkceckjihgaaGreatDoorBbQ1
import Derived.Test.YthbdkceckjihgaaGreatDoorBbF
import Derived.KernelRfl
set_option linter.all false
namespace Go.Proofs.YthbdkceckjihgaaGreatDoor
open Go

def kO{α:Type}{xs:List α}{i j:Int}(l m:Nat)(hi:i=(l:Int))(hj:j=(m:Int))(h:l<=m)(Z:m<=xs.length):dN xs i j=some ((xs.take m).drop l):=by
 subst hi hj;exact xe h Z
def j3{α:Type}{xs:List α}{i:Int}(k:Nat)(hi:i=(k:Int)):fB xs i=xs[k]? :=by subst hi;exact kr _ _
def ux(v:cJ):Bool:=BE v&&(v.Kind !=4)
def zf(v:cJ):tP v=some (ux v):=by
 unfold tP ux
 rw [Ga]
 cases BE v<;>simp
def pe(v:cJ):tX v=some (ux v):=by
 unfold tX ux
 rw [GK]
 rfl
variable{n:aC}
def Lq{v:cJ}(h:ux v=true):0<=v.Kind/\v.Kind<=3:=by
 obtain⟨k,n,u,s⟩:=v
 unfold ux BE pd at h
 simp only [jR,tL,ne_eq]at h
 obtain⟨V,Z⟩:=h
 by_cases h0:k=0
 ·simp [h0]
 by_cases k1:k=1
 ·simp [k1]
 by_cases k2:k=2
 ·simp [k2]
 by_cases k3:k=3
 ·simp [k3]
 simp [h0,k1,k2,k3,Z]at V
def pk(tag:Int):Option Nat:=if tag=1\/tag=2 then some 0 else if 4<=tag/\tag<=7 then some 1 else if 12<=tag/\tag<=23 then some 2 else none
def JK(tag:Int):Int:=match pk tag with
 |some k=>(k:Int)
 |none=> -1
def Bc(tag:Int):sY tag=some (JK tag):=by
 unfold sY JK pk
 by_cases V:tag=1\/tag=2
 ·rw [cz V,cz (by simpa using V)];rfl
 rw [cr V,cr (by simpa using V)]
 by_cases Z:4<=tag/\tag<=7
 ·rw [cz Z,cz (by simpa using Z)];rfl
 rw [cr Z,cr (by simpa using Z)]
 by_cases h3:12<=tag/\tag<=23
 ·rw [cz h3,cz (by simpa using h3)];rfl
 rw [cr h3,cr (by simpa using h3)]
def rF(tag:Int):wd tag=some (JK tag):=by
 unfold wd tU JK pk
 by_cases V:tag=1\/tag=2
 ·rw [cz V];rcases V with rfl|rfl<;>rfl
 rw [cr V]
 by_cases Z:4<=tag/\tag<=7
 ·rw [cz Z]
  have:tag=4\/tag=5\/tag=6\/tag=7:=by omega
  rcases this with rfl|rfl|rfl|rfl<;>rfl
 rw [cr Z]
 by_cases h3:12<=tag/\tag<=23
 ·rw [cz h3,cr (by simp;omega),cr (by simp;omega),cr (by simp;omega),cr (by simp;omega)];rfl
 rw [cr h3]
 by_cases h4:tag=3\/(8<=tag/\tag<=11)
 ·rw [cz (by simpa using h4)]
 rw [cr (by simpa using h4),cz (by simp;omega)]
 rfl
def EX(n:aC):Bool:=(ju n).getD false
def la(n:aC):ju n=some (EX n):=by
 unfold EX ju
 rw [pe]
 split
 ·rfl
 ·split<;>rfl
def Hi(n:aC):wC n=some (EX n):=by
 rw [<-la]
 unfold wC ju
 rw [pe,zf]
inductive Tr where
 |lf (n:aC)
 |un (n:aC) (a:Tr)
 |bi (n:aC) (a b:Tr)
 deriving Inhabited
def Tr.size:Tr->Nat
 | .lf _=>1
 | .un _ a=>a.size+1
 | .bi _ a b=>a.size+b.size+1
def hU(n:aC)(l r:Int):aC:={n with L:=l,R:=r}
def Tr.flat:Tr->Nat->List aC
 | .lf n,_=>[hU n (-1) (-1)]
 | .un n a,s=>a.flat s++[hU n ((s+a.size:Nat)-1) (-1)]
 | .bi n a b,s=>a.flat s++b.flat (s+a.size)++[hU n ((s+a.size:Nat)-1) ((s+a.size+b.size:Nat)-1)]
def Yc(k:Nat)(n:aC):Prop:=pk n.Tag=some k/\EX n=true/\n.L= -1/\n.R= -1
def Tr.wf:Tr->Prop
 | .lf n=>Yc 0 n
 | .un n a=>Yc 1 n/\a.wf
 | .bi n a b=>Yc 2 n/\a.wf/\b.wf
def Tr.size_pos(t:Tr):0<t.size:=by cases t<;>simp [Tr.size]
def Tr.flat_len(t:Tr): ∀s,(t.flat s).length=t.size:=by
 induction t with
 |lf n=>intro s;rfl
 |un n a ih=>intro s;simp [Tr.flat,Tr.size,ih]
 |bi n a b iha ihb=>intro s;simp [Tr.flat,Tr.size,iha,ihb];omega
def db:List Tr->Nat
 |[]=>0
 |t::st=>db st+t.size
def yL:List Tr->List aC
 |[]=>[]
 |t::st=>yL st++t.flat (db st)
def I6: ∀st:List Tr,(yL st).length=db st
 |[]=>rfl
 |t::st=>by simp [yL,db,I6 st,t.flat_len]
def ID: ∀st:List Tr,st.length<=db st
 |[]=>gc _
 |t::st=>by have:=ID st;have:=t.size_pos;simp [db];omega
def push(st:List Tr)(n:aC):Option (List Tr):=
 match pk n.Tag,st with
 |some 0,st=>if EX n&&n.L== -1&&n.R== -1 then some (.lf (hU n (-1) (-1))::st)else none
 |some 1,a::st=>if EX n&&n.L==((db st+a.size:Nat):Int)-1&&n.R== -1 then some (.un (hU n (-1) (-1)) a::st)else none
 |some 2,b::a::st=>if EX n&&n.L==((db st+a.size:Nat):Int)-1&&n.R==((db st+a.size+b.size:Nat):Int)-1 then some (.bi (hU n (-1) (-1)) a b::st)else none
 |_,_=>none
def rd:List aC->List Tr->Option (List Tr)
 |[],st=>some st
 |n::ns,st=>(push st n).bind (rd ns)
def wfs(st:List Tr):Prop:= ∀t∈st,t.wf
def Ag{l r:Int}(h:n.L=l)(Z:n.R=r):hU (hU n (-1) (-1)) l r=n:=by subst h Z;rfl
def QZ{st st' :List Tr}(h:push st n=some st')(hw:wfs st):yL st' =yL st++[n]/\db st' =db st+1/\wfs st' :=by
 unfold push at h
 split at h
 ·rename_i k st0 hk
  split at h
  ·rename_i hc
   simp only [jR,vW]at hc
   obtain⟨⟨V,Z⟩,h3⟩:=hc
   cases h
   refine⟨?_,rfl,fun t M=>?_⟩
   ·simp only [yL,Tr.flat]
    rw [Ag Z h3]
   ·rcases gw.1 M with rfl|M
    ·exact⟨hk,V,rfl,rfl⟩
    ·exact hw t M
  ·cases h
 ·rename_i k a st0 hk
  split at h
  ·rename_i hc
   simp only [jR,vW]at hc
   obtain⟨⟨V,Z⟩,h3⟩:=hc
   cases h
   refine⟨?_,by simp [db,Tr.size];omega,fun t M=>?_⟩
   ·simp only [yL,Tr.flat]
    rw [Ag Z h3,gK]
   ·rcases gw.1 M with rfl|M
    ·exact⟨⟨hk,V,rfl,rfl⟩,hw a (oa ..)⟩
    ·exact hw t (oD _ M)
  ·cases h
 ·rename_i k b a st0 hk
  split at h
  ·rename_i hc
   simp only [jR,vW]at hc
   obtain⟨⟨V,Z⟩,h3⟩:=hc
   cases h
   refine⟨?_,by simp [db,Tr.size];omega,fun t M=>?_⟩
   ·simp only [yL,Tr.flat,db]
    rw [Ag Z h3]
    simp only [gK]
   ·rcases gw.1 M with rfl|M
    ·exact⟨⟨hk,V,rfl,rfl⟩,hw a (oD _ (oa ..)),hw b (oa ..)⟩
    ·exact hw t (oD _ (oD _ M))
  ·cases h
 ·cases h
variable{ns:List aC}
def BI: ∀{ns:List aC} {st st' :List Tr},rd ns st=some st' ->wfs st->yL st' =yL st++ns/\wfs st'
 |[],st,st',h,hw=>by cases h;simp [hw]
 |n::ns,st,st',h,hw=>by
  unfold rd at h
  cases hp:push st n with
  |none=>rw [hp]at h;cases h
  |some st1=>
   rw [hp]at h
   obtain⟨V,_,h3⟩:=QZ hp hw
   obtain⟨h4,h5⟩:=BI (ns:=ns) h h3
   exact⟨by rw [h4,V];simp,h5⟩
def uV: ∀(ns ms:List aC) (st:List Tr),rd (ns++ms) st=(rd ns st).bind (rd ms)
 |[],ms,st=>rfl
 |n::ns,ms,st=>by
  simp only [yU,rd]
  cases push st n with
  |none=>rfl
  |some st1=>exact uV ns ms st1
def No(t:Tr): ∀(st:List Tr),t.wf->rd (t.flat (db st)) st=some (t::st):=by
 induction t with
 |lf n=>
  intro st ⟨V,Z,h3,h4⟩
  have hn' :hU n (-1) (-1)=n:=by cases n;simp only at h3 h4;subst h3 h4;rfl
  simp only [Tr.flat,rd,push,hn']
  rw [V]
  simp [Z,h3,h4,rd,hn']
 |un n a ih=>
  intro st ⟨⟨V,Z,h3,h4⟩,ha⟩
  have hn' :hU n (-1) (-1)=n:=by cases n;simp only at h3 h4;subst h3 h4;rfl
  simp only [Tr.flat]
  rw [uV,ih st ha]
  simp only [bH,rd,push]
  have e1:(hU n (((db st+a.size:Nat):Int)-1) (-1)).Tag=n.Tag:=rfl
  rw [e1,V]
  have e2:EX (hU n (((db st+a.size:Nat):Int)-1) (-1))=true:=Z
  rw [e2]
  simp only [hU,AV,Bool.and_self,jo,bH,rd]
  simp only [hU]at hn'
  rw [hn']
 |bi n a b iha ihb=>
  intro st ⟨⟨V,Z,h3,h4⟩,ha,Y⟩
  have hn' :hU n (-1) (-1)=n:=by cases n;simp only at h3 h4;subst h3 h4;rfl
  simp only [Tr.flat]
  rw [uV,uV,iha st ha]
  simp only [bH]
  have e0:db st+a.size=db (a::st):=rfl
  rw [e0,ihb (a::st) Y]
  simp only [bH,rd,push]
  have e1:(hU n (((db (a::st):Nat):Int)-1) (((db (a::st)+b.size:Nat):Int)-1)).Tag=n.Tag:=rfl
  rw [e1,V]
  have e2:EX (hU n (((db (a::st):Nat):Int)-1) (((db (a::st)+b.size:Nat):Int)-1))=true:=Z
  rw [e2]
  simp only [hU,db,AV,Bool.and_self,jo,bH,rd]
  simp only [hU]at hn'
  rw [hn']
def sJ(ns:List aC):Option Tr:=match rd ns []with
 |some [t]=>if ns.length<=1000 then some t else none
 |_=>none
def q8{t:Tr}(h:sJ ns=some t):t.wf/\ns=t.flat 0/\t.size<=1000:=by
 unfold sJ at h
 split at h
 ·rename_i t0 hp
  split at h
  ·rename_i hl
   cases h
   obtain⟨V,Z⟩:=BI hp (fun t M=>by cases M)
   simp only [yL,db,qg]at V
   exact⟨Z t (oa ..),V.symm,by rw [<-t.flat_len 0,V];exact hl⟩
  ·cases h
 ·cases h
def zg{t:Tr}(h:t.wf)(hs:t.size<=1000):sJ (t.flat 0)=some t:=by
 unfold sJ
 have h0:=No t [] h
 simp only [db]at h0
 rw [h0]
 simp only [t.flat_len,hs,jo]
def fl:Tr->Nat->List Int
 | .lf _,s=>[(s:Int)]
 | .un _ a,s=>fl a s++[(s:Int)]
 | .bi _ a b,s=>fl a s++fl b (s+a.size)++[(s:Int)]
def Rs:List Tr->List Int
 |[]=>[]
 |t::st=>Rs st++fl t (db st)
def nL:List Tr->List Int
 |[]=>[]
 |t::st=>nL st++[((db st+t.size:Nat):Int)-1]
def yb(t:Tr): ∀s,(fl t s).length=t.size:=by
 induction t with
 |lf n=>intro s;rfl
 |un n a ih=>intro s;simp [fl,Tr.size,ih]
 |bi n a b iha ihb=>intro s;simp [fl,Tr.size,iha,ihb];omega
def wv: ∀st:List Tr,(Rs st).length=db st
 |[]=>rfl
 |t::st=>by simp [Rs,db,wv st,yb]
def ed: ∀st:List Tr,(nL st).length=st.length
 |[]=>rfl
 |t::st=>by simp [nL,ed st]
def Vj(t:Tr)(s:Nat):(fl t s)[t.size-1]? =some (s:Int):=by
 cases t with
 |lf n=>rfl
 |un n a=>simp only [fl,Tr.size];rw [xI (by rw [yb];omega),yb];simp
 |bi n a b=>simp only [fl,Tr.size];rw [xI (by simp [yb]),pF,yb,yb];simp
def G6(t:Tr)(st:List Tr)(rest:List Int):(Rs st++fl t (db st)++rest)[db st+t.size-1]? =some (db st:Int):=by
 have:=t.size_pos
 rw [E0 (by rw [pF,wv,yb];omega),xI (by rw [wv];omega),wv,show db st+t.size-1-db st=t.size-1 from by omega]
 exact Vj t _
def Rv: ∀(ns:List aC) (st:List Tr),db st+ns.length<=100000->md ns (db st) (Rs st) (nL st)=some (match rd ns st with
   |some st' =>(Rs st',decide (st'.length=1)&&decide (db st' <=1000))
   |none=>([],false)):=by
 intro ns
 induction ns with
 |nil=>
  intro st _
  simp only [md,rd,ed,wv]
  congr 2
  congr 1
  ·rw [wZ];simp;omega
  ·rw [wZ];simp;omega
 |cons n ns ih=>
  intro st hs
  simp only [jm]at hs
  have hll:=ID st
  unfold md
  rw [Bc]
  simp only [bH,ed,Hi]
  unfold rd
  unfold push
  -- the parts
  cases hk:pk n.Tag with
  |none=>
   have e:JK n.Tag= -1:=by unfold JK;rw [hk]
   simp [e]
  |some k=>
   have e:JK n.Tag=(k:Int):=by unfold JK;rw [hk]
   have hk3:k=0\/k=1\/k=2:=by
    unfold pk at hk
    repeat' split at hk
    all_goals simp at hk
    all_goals omega
   rw [e]
   rcases hk3 with rfl|rfl|rfl
   ·-- none
    simp only []
    have c1:(decide (((0:Nat):Int)<0)||decide ((st.length:Int)<((0:Nat):Int)))=false:=by simp
    simp only [c1,Cd,jo,bH]
    cases hc:EX n with
    |false=>simp
    |true=>
     simp only [rn,lu,jQ,wK]
     rw [kO st.length st.length (by rw [d6 (by omega) (by omega)];omega) rfl (gc _) (by rw [ed];exact gc _)]
     have hd:(List.take st.length (nL st)).drop st.length=[]:=rp (by simp;omega)
     simp only [hd,bH,np]
     by_cases hL:n.L= -1/\n.R= -1
     ·have Y:(n.L== -1&&n.R== -1)=true:=by simp [hL]
      rw [cz Y,cr (by simp [hL.1,hL.2])]
      rw [dH (by simp only [jm,sD,wv];omega)]
      simp only [bH]
      rw [kO (i:=0) 0 st.length rfl (by rw [ed,d6 (by omega) (by omega)];omega) (jW _) (by rw [ed];exact gc _)]
      rw [rt (by rw [ed];exact gc _),sC]
      simp only [bH]
      rw [dH (by simp only [jm,sD,ed];omega)]
      simp only [bH]
      have Z:=ih (.lf (hU n (-1) (-1))::st) (by simp [db,Tr.size];omega)
      simp only [db,Tr.size,Rs,fl,nL]at Z
      rw [show(((db st+1:Nat):Int)-1)=(db st:Int)from by omega]at Z
      exact Z
     ·have Y:(n.L== -1&&n.R== -1)=false:=by
       rw [Ip];intro h;apply hL;simpa using h
      rw [Y]
      rw [cz (by
       simp only [AI,qM]
       intro h
       have V:(-1:Int)=n.L:=by injection h
       have Z:(-1:Int)=n.R:=by injection h with _ h;injection h
       exact hL ⟨V.symm,Z.symm⟩)]
      simp
   ·-- one
    cases st with
    |nil=>simp
    |cons a st=>
     simp only []
     have c1:(decide (((1:Nat):Int)<0)||decide (((a::st).length:Int)<((1:Nat):Int)))=false:=by simp;omega
     simp only [c1,Cd,jo,bH]
     cases hc:EX n with
     |false=>simp
     |true=>
      simp only [rn,lu,jQ,wK]
      simp only [jm]at hll ⊢
      simp only [db]at hs hll
      have hap:=a.size_pos
      rw [kO st.length (st.length+1) (by rw [d6 (by omega) (by omega)];omega) (by omega) (by omega) (by rw [ed];exact gc _)]
      have hd:(List.take (st.length+1) (nL (a::st))).drop st.length=[((db st+a.size:Nat):Int)-1]:=by
       rw [rt (by rw [ed];exact gc _)]
       simp only [nL]
       rw [ME (by rw [ed];exact gc _),rp (by rw [ed];exact gc _),qg]
      rw [hd]
      simp only [bH,np]
      rw [j3 (db st+a.size-1) (by omega)]
      have hf:=G6 a st []
      rw [Ce]at hf
      simp only [Rs]
      rw [hf]
      simp only [bH]
      rw [j3 0 rfl]
      simp only [KJ,bH]
      have hset:([(-1:Int),-1].set ((0:Nat):Int).toNat (((db st+a.size:Nat):Int)-1))=[((db st+a.size:Nat):Int)-1,-1]:=rfl
      rw [hset]
      by_cases hL:n.L=((db st+a.size:Nat):Int)-1/\n.R= -1
      ·have Y:(n.L==((db st+a.size:Nat):Int)-1&&n.R== -1)=true:=by simp [hL]
       rw [cz Y,cr (by rw [hL.1,hL.2];simp)]
       rw [dH (by simp only [jm,sD,pF,wv,yb];omega)]
       simp only [bH]
       rw [kO (i:=0) 0 st.length rfl (by rw [ed,d6 (by simp<;>omega) (by simp<;>omega)];simp) (jW _) (by rw [ed];simp)]
       have M:(List.take st.length (nL (a::st))).drop 0=nL st:=by
        simp only [nL,sC]
        rw [zb (by rw [ed];exact gc _),rt (by rw [ed];exact gc _)]
       rw [M]
       simp only [bH]
       rw [dH (by simp only [jm,sD,ed];omega)]
       simp only [bH]
       have Z:=ih (.un (hU n (-1) (-1)) a::st) (by simp [db,Tr.size];omega)
       simp only [db,Tr.size,Rs,fl,nL]at Z
       rw [show(((db st+(a.size+1):Nat):Int)-1)=((db st+a.size:Nat):Int)from by omega]at Z
       have hm:min ((db (a::st):Nat):Int) (db st:Int)=(db st:Int):=by simp only [db];omega
       rw [hm]
       simp only [gK]at Z ⊢
       exact Z
      ·have Y:(n.L==((db st+a.size:Nat):Int)-1&&n.R== -1)=false:=by
        rw [Ip];intro h;apply hL;simpa using h
       rw [Y]
       rw [cz (by
        simp only [AI,qM]
        intro h
        have V:((db st+a.size:Nat):Int)-1=n.L:=by injection h
        have Z:(-1:Int)=n.R:=by injection h with _ h;injection h
        exact hL ⟨V.symm,Z.symm⟩)]
       simp
   ·-- two
    cases st with
    |nil=>simp
    |cons b st=>
     cases st with
     |nil=>simp
     |cons a st=>
      simp only []
      have c1:(decide (((2:Nat):Int)<0)||decide (((b::a::st).length:Int)<((2:Nat):Int)))=false:=by simp;omega
      simp only [c1,Cd,jo,bH]
      cases hc:EX n with
      |false=>simp
      |true=>
       simp only [rn,lu,jQ,wK]
       simp only [jm]at hll ⊢
       simp only [db]at hs hll
       have hap:=a.size_pos
       have hbp:=b.size_pos
       rw [kO st.length (st.length+1+1) (by rw [d6 (by omega) (by omega)];omega) (by omega) (by omega) (by rw [ed];exact gc _)]
       have hd:(List.take (st.length+1+1) (nL (b::a::st))).drop st.length=[((db st+a.size:Nat):Int)-1,((db st+a.size+b.size:Nat):Int)-1]:=by
        rw [rt (by rw [ed];exact gc _)]
        simp only [nL,db,gK]
        rw [ME (by rw [ed];exact gc _),rp (by rw [ed];exact gc _),qg]
        rfl
       rw [hd]
       simp only [bH,np]
       simp only [Rs,db]
       rw [j3 (db st+a.size-1) (by omega)]
       rw [G6 a st (fl b (db st+a.size))]
       simp only [bH]
       rw [j3 0 rfl]
       simp only [KJ,bH]
       have hset:([(-1:Int),-1].set ((0:Nat):Int).toNat (((db st+a.size:Nat):Int)-1))=[((db st+a.size:Nat):Int)-1,-1]:=rfl
       rw [hset]
       rw [j3 (db st+a.size+b.size-1) (by omega)]
       have hf:=G6 b (a::st) []
       rw [Ce]at hf
       simp only [Rs,db]at hf
       rw [hf]
       simp only [bH]
       rw [j3 (0+1) rfl]
       simp only [List.getElem?_cons_succ,KJ,bH]
       have hset2:([((db st+a.size:Nat):Int)-1,-1].set ((0+1:Nat):Int).toNat (((db st+a.size+b.size:Nat):Int)-1))=[((db st+a.size:Nat):Int)-1,((db st+a.size+b.size:Nat):Int)-1]:=rfl
       rw [hset2]
       by_cases hL:n.L=((db st+a.size:Nat):Int)-1/\n.R=((db st+a.size+b.size:Nat):Int)-1
       ·have Y:(n.L==((db st+a.size:Nat):Int)-1&&n.R==((db st+a.size+b.size:Nat):Int)-1)=true:=by rw [hL.1,hL.2];simp
        rw [cz Y,cr (by rw [hL.1,hL.2];simp)]
        rw [dH (by simp only [jm,sD,pF,wv,yb];omega)]
        simp only [bH]
        rw [kO (i:=0) 0 st.length rfl (by rw [ed,d6 (by simp;omega) (by simp;omega)];simp;omega) (jW _) (by rw [ed];simp;omega)]
        have M:(List.take st.length (nL (b::a::st))).drop 0=nL st:=by
         simp only [nL,sC,gK]
         rw [zb (by rw [ed];exact gc _),rt (by rw [ed];exact gc _)]
        rw [M]
        simp only [bH]
        rw [dH (by simp only [jm,sD,ed];omega)]
        simp only [bH]
        have Z:=ih (.bi (hU n (-1) (-1)) a b::st) (by simp [db,Tr.size];omega)
        simp only [db,Tr.size,Rs,fl,nL]at Z
        rw [show(((db st+(a.size+b.size+1):Nat):Int)-1)=((db st+a.size+b.size:Nat):Int)from by omega,show db st+(a.size+b.size+1)=db st+a.size+b.size+1 from by omega]at Z
        have hm:min (min (((db st+a.size+b.size:Nat)):Int) (db st:Int)) ((db st+a.size:Nat):Int)=(db st:Int):=by omega
        rw [hm]
        simp only [gK]at Z ⊢
        exact Z
       ·have Y:(n.L==((db st+a.size:Nat):Int)-1&&n.R==((db st+a.size+b.size:Nat):Int)-1)=false:=by
         rw [Ip];intro h;apply hL;simpa using h
        rw [Y]
        rw [cz (by
         simp only [AI,qM]
         intro h
         have V:((db st+a.size:Nat):Int)-1=n.L:=by injection h
         have Z:((db st+a.size+b.size:Nat):Int)-1=n.R:=by injection h with _ h;injection h
         exact hL ⟨V.symm,Z.symm⟩)]
        simp

def Am{n:Nat}(h:n<=1000000):n<=gi:=by unfold gi;omega
def lU(ns:List aC):Bool:=(sJ ns).isSome
def Ls{st:List Tr}(h:rd ns []=some st):db st=ns.length:=by
 have:=(BI h (fun t M=>by cases M)).1
 rw [<-I6,this];simp [yL]
def tE(e:aW)(h:e.Nodes.length<=100000):qY e=some (if lU e.Nodes then 0 else 200):=by
 unfold qY zG lU sJ
 have:=Rv e.Nodes [] (by simpa [db] using h)
 simp only [db,Rs,nL]at this
 rw [this]
 cases hp:rd e.Nodes []with
 |none=>rfl
 |some st=>
  have hsz:=Ls hp
  match st,hsz with
  |[],_=>rfl
  |[t],hsz=>
   simp only [bH,hsz]
   by_cases hl:e.Nodes.length<=1000<;>simp [hl]
  |t::t2::st,_=>simp
def UX(t:Tr):t.wf-> ∀(P R N:List aC) (fu:Nat),N=P++t.flat P.length++R->t.size<=fu->N.length<=100000->jt fu ⟨N⟩ (((P.length+t.size:Nat):Int)-1)=some (t.size:Int):=by
 induction t with
 |lf n=>
  intro⟨V,Z,h3,h4⟩ P R N fu hN hf hl
  have hNl:=congrArg List.length hN
  simp only [pF,Tr.flat_len]at hNl
  simp only [Tr.size]at hf hNl ⊢
  obtain⟨fu,rfl⟩: ∃k,fu=k+1:=⟨fu-1,by omega⟩
  unfold jt
  have A:N[P.length]? =some (hU n (-1) (-1)):=by
   rw [hN,gK,xI (gc _),FV];rfl
  rw [cr (by simp;omega),j3 P.length (by omega),A]
  have e1:(hU n (-1) (-1)).Tag=n.Tag:=rfl
  simp only [bH]
  rw [e1,rF]
  have e:JK n.Tag=0:=by unfold JK;rw [V];rfl
  simp only [e,bH,la]
  have e2:EX (hU n (-1) (-1))=true:=Z
  rw [e2]
  simp [hU]
 |un n a ih=>
  intro⟨⟨V,Z,h3,h4⟩,ha⟩ P R N fu hN hf hl
  obtain⟨m,hm⟩: ∃m,m=hU n (((P.length+a.size:Nat):Int)-1) (-1):=⟨_,rfl⟩
  have hNl:=congrArg List.length hN
  simp only [pF,Tr.flat_len]at hNl
  simp only [Tr.size]at hf hNl ⊢
  simp only [Tr.flat,<-hm]at hN
  obtain⟨fu,rfl⟩: ∃k,fu=k+1:=⟨fu-1,by omega⟩
  have hpos:=a.size_pos
  have hi:=ih ha P ([m]++R) N fu (by rw [hN];simp only [gK]) (by omega) hl
  unfold jt
  have A:N[P.length+a.size]? =some m:=by
   rw [hN,gK,gK,<-gK P,xI (by simp [a.flat_len])]
   simp [a.flat_len]
  rw [cr (by simp;omega),j3 (P.length+a.size) (by omega),A]
  simp only [bH]
  have e1:m.Tag=n.Tag:=by rw [hm];rfl
  rw [e1,rF]
  have e:JK n.Tag=1:=by unfold JK;rw [V];rfl
  simp only [e,bH,la]
  have e2:EX m=true:=by rw [hm];exact Z
  have eL:m.L=((P.length+a.size:Nat):Int)-1:=by rw [hm];rfl
  have eR:m.R= -1:=by rw [hm];rfl
  rw [d6 (n:=((P.length+(a.size+1):Nat):Int)-1-1) (by omega) (by omega),show(((P.length+(a.size+1):Nat):Int)-1-1)=(((P.length+a.size:Nat):Int)-1)from by omega]
  rw [hi]
  simp only [bH]
  rw [d6 (n:=(a.size:Int)+1) (by omega) (by omega)]
  have n1: ¬a.size=0:=by omega
  simp [e2,eL,eR,n1]
 |bi n a b iha ihb=>
  intro⟨⟨V,Z,h3,h4⟩,ha,Y⟩ P R N fu hN hf hl
  obtain⟨m,hm⟩: ∃m,m=hU n (((P.length+a.size:Nat):Int)-1) (((P.length+a.size+b.size:Nat):Int)-1):=⟨_,rfl⟩
  have hNl:=congrArg List.length hN
  simp only [pF,Tr.flat_len]at hNl
  simp only [Tr.size]at hf hNl ⊢
  simp only [Tr.flat,<-hm]at hN
  obtain⟨fu,rfl⟩: ∃k,fu=k+1:=⟨fu-1,by omega⟩
  have hap:=a.size_pos
  have hbp:=b.size_pos
  have hi1:=iha ha P (b.flat (P.length+a.size)++[m]++R) N fu (by rw [hN];simp only [gK]) (by omega) hl
  have hi2:=ihb Y (P++a.flat P.length) ([m]++R) N fu (by rw [hN];simp only [gK,pF,a.flat_len]) (by omega) hl
  rw [pF,a.flat_len]at hi2
  unfold jt
  have A:N[P.length+a.size+b.size]? =some m:=by
   rw [hN,gK,gK,<-gK P,xI (by simp [a.flat_len,b.flat_len];omega)]
   have:P.length+a.size+b.size-(P++(a.flat P.length++b.flat (P.length+a.size))).length=0:=by simp [a.flat_len,b.flat_len];omega
   rw [this];rfl
  rw [cr (by simp;omega),j3 (P.length+a.size+b.size) (by omega),A]
  simp only [bH]
  have e1:m.Tag=n.Tag:=by rw [hm];rfl
  rw [e1,rF]
  have e:JK n.Tag=2:=by unfold JK;rw [V];rfl
  simp only [e,bH,la]
  have e2:EX m=true:=by rw [hm];exact Z
  have eL:m.L=((P.length+a.size:Nat):Int)-1:=by rw [hm];rfl
  have eR:m.R=((P.length+a.size+b.size:Nat):Int)-1:=by rw [hm];rfl
  rw [d6 (n:=((P.length+(a.size+b.size+1):Nat):Int)-1-1) (by omega) (by omega),show(((P.length+(a.size+b.size+1):Nat):Int)-1-1)=(((P.length+a.size+b.size:Nat):Int)-1)from by omega]
  rw [hi2]
  simp only [bH]
  rw [d6 (n:=((P.length+a.size+b.size:Nat):Int)-1-(b.size:Int)) (by omega) (by omega),show((P.length+a.size+b.size:Nat):Int)-1-(b.size:Int)=((P.length+a.size:Nat):Int)-1 from by omega]
  rw [hi1]
  simp only [bH]
  rw [d6 (n:=(a.size:Int)+(b.size:Int)) (by omega) (by omega),d6 (n:=(a.size:Int)+(b.size:Int)+1) (by omega) (by omega)]
  have n1: ¬a.size=0:=by omega
  have n2: ¬b.size=0:=by omega
  have e5:(P.length:Int)+(a.size:Int)+(b.size:Int)-1-(b.size:Int)=(P.length:Int)+(a.size:Int)-1:=by omega
  simp [e2,eL,eR,n1,n2,e5]
def UY(N:List aC)(hN:N.length<=100000): ∀(fu q:Nat),q<=N.length->q<fu-> ∃k:Nat,jt fu ⟨N⟩ ((q:Int)-1)=some (k:Int)/\(k=0\/ ∃(t:Tr) (P R:List aC),t.wf/\t.size=k/\N=P++t.flat P.length++R/\P.length+k=q):=by
 intro fu
 induction fu with
 |zero=>intro q _ h;omega
 |succ fu ih=>
  intro q hq hf
  unfold jt
  by_cases h0:q=0
  ·subst h0
   exact⟨0,by rw [cz (by simp)];rfl,.inl rfl⟩
  rw [cr (by simp;omega),j3 (q-1) (by omega)]
  have hlt:q-1<N.length:=by omega
  rw [lP hlt]
  obtain⟨n,hn⟩: ∃n,n=N[q-1]:=⟨_,rfl⟩
  rw [<-hn]
  have hd:N=N.take (q-1)++([n]++N.drop q):=by
   have V:=uH (q-1) N
   rw [sG hlt,<-hn,show q-1+1=q from by omega]at V
   exact V.symm
  simp only [bH,rF,la]
  cases hk:pk n.Tag with
  |none=>
   have e:JK n.Tag= -1:=by unfold JK;rw [hk]
   exact⟨0,by simp [e],.inl rfl⟩
  |some k=>
   have e:JK n.Tag=(k:Int):=by unfold JK;rw [hk]
   have hk3:k=0\/k=1\/k=2:=by
    unfold pk at hk
    repeat' split at hk
    all_goals simp at hk
    all_goals omega
   cases hc:EX n with
   |false=>exact⟨0,by simp [e,hc],.inl rfl⟩
   |true=>
    rcases hk3 with rfl|rfl|rfl
    ·rw [e]
     by_cases hL:n.L= -1/\n.R= -1
     ·refine⟨1,by simp [hL],.inr ⟨.lf (hU n (-1) (-1)),N.take (q-1),N.drop q,⟨hk,hc,rfl,rfl⟩,rfl,?_,by simp;omega⟩⟩
      simp only [Tr.flat]
      rw [Ag hL.1 hL.2,gK]
      exact hd
     ·refine⟨0,?_,.inl rfl⟩
      have:(n.L != -1||n.R != -1)=true:=by
       rw [y7,tL,tL]
       by_cases hl:n.L= -1
       ·exact .inr fun h=>hL ⟨hl,h⟩
       ·exact .inl hl
      simp [this]
    ·rw [e,d6 (by omega) (by omega)]
     have e9:(((q-1:Nat):Int)-1)=(q:Int)-1-1:=by omega
     obtain⟨r2,Z,h2'⟩:=ih (q-1) (by omega) (by omega)
     rw [e9]at Z
     rw [Z]
     rcases h2' with rfl|⟨t,P,R,hw,hs,hN2,hl⟩
     ·exact⟨0,by simp,.inl rfl⟩
     ·have hp:=t.size_pos
      by_cases hL:n.L=(q:Int)-1-1/\n.R= -1
      ·refine⟨r2+1,?_,.inr ⟨.un (hU n (-1) (-1)) t,P,N.drop q,⟨⟨hk,hc,rfl,rfl⟩,hw⟩,by simp only [Tr.size];omega,?_,by omega⟩⟩
       ·simp only [bH]
        rw [d6 (n:=(r2:Int)+1) (by omega) (by omega)]
        have: ¬(r2=0):=by omega
        simp [hL,this]
       ·simp only [Tr.flat]
        rw [Ag (by rw [hL.1];omega) hL.2]
        have M:N.take (q-1)=P++t.flat P.length:=by
         rw [hN2,zb (by simp [t.flat_len];omega),rt (by simp [t.flat_len];omega)]
        rw [M]at hd
        simpa only [gK] using hd
      ·refine⟨0,?_,.inl rfl⟩
       have:(n.L !=(q:Int)-1-1||n.R != -1)=true:=by
        rw [y7,tL,tL]
        by_cases hl:n.L=(q:Int)-1-1
        ·exact .inr fun h=>hL ⟨hl,h⟩
        ·exact .inl hl
       simp [this]
    ·rw [e,d6 (n:=(q:Int)-1-1) (by omega) (by omega)]
     have e9:(((q-1:Nat):Int)-1)=(q:Int)-1-1:=by omega
     obtain⟨r2,Z,h2'⟩:=ih (q-1) (by omega) (by omega)
     rw [e9]at Z
     rw [Z]
     rcases h2' with rfl|⟨t,P,R,hw,hs,hN2,hl⟩
     ·exact⟨0,by simp,.inl rfl⟩
     ·have hp:=t.size_pos
      simp only [bH]
      rw [d6 (n:=(q:Int)-1-1-(r2:Int)) (by omega) (by omega)]
      have e8:(((q-1-r2:Nat):Int)-1)=(q:Int)-1-1-(r2:Int):=by omega
      have n2: ¬(r2=0):=by omega
      obtain⟨r3,h3,h3'⟩:=ih (q-1-r2) (by omega) (by omega)
      rw [e8]at h3
      rw [h3]
      rcases h3' with rfl|⟨t3,P3,R3,hw3,hs3,hN3,hl3⟩
      ·exact⟨0,by simp,.inl rfl⟩
      ·have hp3:=t3.size_pos
       have n3: ¬(r3=0):=by omega
       by_cases hL:n.R=(q:Int)-1-1/\n.L=(q:Int)-1-1-(r2:Int)
       ·refine⟨r3+r2+1,?_,.inr ⟨.bi (hU n (-1) (-1)) t3 t,P3,N.drop q,⟨⟨hk,hc,rfl,rfl⟩,hw3,hw⟩,by simp only [Tr.size];omega,?_,by omega⟩⟩
        ·simp only [bH]
         rw [d6 (n:=(r3:Int)+(r2:Int)) (by omega) (by omega),d6 (n:=(r3:Int)+(r2:Int)+1) (by omega) (by omega)]
         simp [hL,n2,n3]
        ·simp only [Tr.flat]
         rw [Ag (by rw [hL.2];omega) (by rw [hL.1];omega)]
         have M:N.take (q-1)=P++t.flat P.length:=by
          rw [hN2,zb (by simp [t.flat_len];omega),rt (by simp [t.flat_len];omega)]
         have hP:P=N.take P.length:=by
          conv=>rhs;rw [hN2,gK,zb (gc _),rt (gc _)]
         have hP3:P=P3++t3.flat P3.length:=by
          rw [hP]
          have:P.length=P3.length+t3.size:=by omega
          conv=>lhs;rw [this,hN3]
          rw [zb (by simp [t3.flat_len]),rt (by simp [t3.flat_len])]
         have hPl:P.length=P3.length+t3.size:=by omega
         rw [M,hPl]at hd
         rw [hP3]at hd
         simpa only [gK] using hd
       ·clear ih hN2 hN3
        refine⟨0,?_,.inl rfl⟩
        have:(n.R !=(q:Int)-1-1||n.L !=(q:Int)-1-1-(r2:Int))=true:=by
         rw [y7,tL,tL]
         by_cases hl:n.R=(q:Int)-1-1
         ·exact .inr fun h=>hL ⟨hl,h⟩
         ·exact .inl hl
        have h' :=this
        rw [y7,tL,tL]at h'
        simp [n2,n3]
        intro V Z
        exact absurd Z (by rcases h' with h' |h';exact absurd V h';exact h')
def GF(e:aW):wc e=some (lU e.Nodes):=by
 unfold wc lU
 by_cases h:1<=e.Nodes.length/\e.Nodes.length<=1000
 ·rw [cz (by simp;omega),d6 (by omega) (by omega)]
  unfold BG
  obtain⟨k,V,Z⟩:=UY e.Nodes (by omega) gi e.Nodes.length (gc _) (Iq (Nat.lt_succ_self _) (Am (by omega)))
  have h1' :jt gi e ((e.Nodes.length:Int)-1)=some (k:Int):=V
  rw [h1']
  simp only [bH]
  congr 1
  rw [wZ]
  constructor
  ·intro hk
   have hk' :k=e.Nodes.length:=by have:=eq_of_beq hk;omega
   rcases Z with rfl|⟨t,P,R,hw,hs,hN,hl⟩
   ·omega
   ·have hP:P=[]:=za (by omega)
    subst hP
    have hR:R=[]:=by
     have:=congrArg List.length hN
     simp [t.flat_len]at this
     exact za (by omega)
    subst hR
    have hN' :e.Nodes=t.flat 0:=by simpa using hN
    rw [hN',zg hw (by omega)];rfl
  ·intro hi
   cases M:sJ e.Nodes with
   |none=>rw [M]at hi;cases hi
   |some t=>
    obtain⟨hw,hN,hs⟩:=q8 M
    have hlen:e.Nodes.length=t.size:=by rw [hN,t.flat_len]
    have h3:=UX t hw [] [] e.Nodes gi (by simpa using hN) (Am (by omega)) (by omega)
    simp only [sD,sB]at h3
    rw [<-hlen]at h3
    have h4:some (k:Int)=some (e.Nodes.length:Int):=V.symm.trans h3
    simpa using h4
 ·rw [cr (by simp;omega)]
  simp only [bH]
  congr 1
  symm
  rw [Ip]
  intro hi
  cases M:sJ e.Nodes with
  |none=>rw [M]at hi;cases hi
  |some t=>
   obtain⟨hw,hN,hs⟩:=q8 M
   have hlen:e.Nodes.length=t.size:=by rw [hN,t.flat_len]
   have:=t.size_pos
   omega
def Ni(h:lU ns=true):1<=ns.length/\ns.length<=1000:=by
 unfold lU at h
 cases M:sJ ns with
 |none=>rw [M]at h;cases h
 |some t=>
  obtain⟨hw,hN,hs⟩:=q8 M
  have hlen:ns.length=t.size:=by rw [hN,t.flat_len]
  have:=t.size_pos
  omega

def N9(p:List Int)(hp:p.length<=8000)(i:Nat)(y:List Int)(hy:i+y.length=p.length): ∀(k i1:Nat) (x:List Int) (x1:Nat),i1+k=y.length->0<i1->x.length=p.length->x1+1<=i+i1->x.drop (i+i1-1)=p.drop (i+i1-1)->
  eZ i y k i1 x (x1:Int)=some (x.take x1++zN ((p[i+i1-1]?).getD 0) (p.drop (i+i1))):=by
 intro k
 induction k with
 |zero=>
  intro i1 x x1 V h0 A Z h3
  simp only [eZ]
  have hx1:x1<=x.length:=by omega
  rw [xe hx1 (gc _)]
  simp only [bH,AU,Cm]
  rw [show((0:Int))=((0:Nat):Int)from rfl,xe (jW _) (by simp;omega)]
  simp only [bH,sC]
  have hn:p.drop (i+i1)=[]:=OG (by omega)
  rw [hn,Mc,Ce,zb (by simp;omega),yD,Nat.min_self]
 |succ k ih=>
  intro i1 x x1 V h0 A Z h3
  have e1:x[i+i1]? =p[i+i1]? :=by
   have:=congrArg (fun l:List Int=>l[1]?) h3
   simp only [yX]at this
   rwa [show i+i1-1+1=i+i1 from by omega]at this
  have e0:x[i+i1-1]? =p[i+i1-1]? :=by
   have:=congrArg (fun l:List Int=>l[0]?) h3
   simpa only [yX,FU] using this
  have hlt:i+i1<p.length:=by omega
  have g1:Ia x (i:Int) y.length (i1:Int)=some p[i+i1]:=by
   unfold Ia
   rw [cz (by omega),show(i:Int)+(i1:Int)=((i+i1:Nat):Int)from by omega,kr,e1,lP hlt]
  have g0:Ia x (i:Int) y.length (IntKind.i64.wrap ((i1:Int)-1))=some p[i+i1-1]:=by
   rw [d6 (by omega) (by omega)]
   unfold Ia
   rw [cz (by omega),show(i:Int)+((i1:Int)-1)=((i+i1-1:Nat):Int)from by omega,kr,e0,lP (by omega)]
  have hd:p.drop (i+i1)=p[i+i1]::p.drop (i+i1+1):=sG hlt
  have hp1:(p[i+i1-1]?).getD 0=p[i+i1-1]:=by rw [lP (by omega)];rfl
  simp only [eZ,g1,g0,bH]
  rw [hd,hp1]
  by_cases hx2:p[i+i1]=p[i+i1-1]
  ·rw [cr (by simp [hx2])]
   have h3' :x.drop (i+(i1+1)-1)=p.drop (i+(i1+1)-1):=by
    have:=congrArg (List.drop 1) h3
    rwa [xH,xH,show i+i1-1+1=i+(i1+1)-1 from by omega]at this
   rw [ih (i1+1) x x1 (by omega) (by omega) A (by omega) h3']
   rw [Jd hx2,show i+(i1+1)-1=i+i1 from by omega,lP hlt,show i+(i1+1)=i+i1+1 from by omega]
   rfl
  ·rw [cz (by simp [hx2]),kr,lP (by omega)]
   simp only [bH,Cm]
   rw [d6 (by omega) (by omega),show((x1:Int)+1)=((x1+1:Nat):Int)from by omega]
   have h3' :(x.set x1 p[i+i1]).drop (i+(i1+1)-1)=p.drop (i+(i1+1)-1):=by
    rw [List.drop_set_of_lt (by omega)]
    have:=congrArg (List.drop 1) h3
    rwa [xH,xH,show i+i1-1+1=i+(i1+1)-1 from by omega]at this
   rw [ih (i1+1) _ (x1+1) (by omega) (by omega) (by simpa using A) (by omega) h3']
   rw [PX hx2,show i+(i1+1)-1=i+i1 from by omega,lP hlt,show i+(i1+1)=i+i1+1 from by omega]
   have M:(x.set x1 p[i+i1]).take (x1+1)=x.take x1++[p[i+i1]]:=by
    rw [MF (by simp;omega),List.take_set_of_le (by omega)]
    simp
   rw [M]
   simp
def Oa(p:List Int)(hp:p.length<=8000):lw p=some (PW p):=by
 unfold lw
 by_cases Z:p.length<2
 ·rw [cz (by simp;omega)]
  match p,Z with
  |[],_=>rfl
  |[x],_=>rfl
 ·rw [cr (by simp;omega)]
  have key: ∀(l:List Int) (i:Nat),p.drop i=l->0<i->i<=p.length->PW p=p.take i++zN ((p[i-1]?).getD 0) (p.drop i)->fR p l i=some (PW p):=by
   intro l
   induction l with
   |nil=>
    intro i V h0 hle h3
    have:=KH.1 V
    simp only [fR]
    rw [h3,V,rt (by omega),Mc,Ce]
   |cons x t ih=>
    intro i V h0 hle h3
    have hi:i<p.length:=by
     rcases oE i p.length with h|h
     ·exact h
     ·rw [OG h]at V;cases V
    have A:x=p[i]:=by rw [sG hi]at V;exact(Ci V).1.symm
    have M:p.drop (i+1)=t:=by rw [<-xH,V];rfl
    have hp1:(p[i-1]?).getD 0=p[i-1]:=by rw [lP (by omega)];rfl
    simp only [fR]
    rw [d6 (by omega) (by omega),show(i:Int)-1=((i-1:Nat):Int)from by omega,kr,lP (by omega)]
    simp only [bH]
    by_cases he:x=p[i-1]
    ·rw [cz (by simp [he])]
     rw [xe hle (gc _)]
     simp only [bH,AU]
     rw [N9 p hp i (p.drop i) (by simp;omega) _ 1 p i (by simp;omega) (by omega) rfl (by omega) (by simp)]
     rw [h3,V,hp1,Jd he,<-M,A]
     rw [show i+1-1=i from by omega,lP hi];rfl
    ·rw [cr (by simp [he])]
     refine ih (i+1) M (by omega) (by omega) ?_
     rw [h3,V,hp1,PX he,MF hi,<-M,A,show i+1-1=i from by omega,lP hi]
     rw [gK];rfl
  have hpc:p=p[0]::p.drop 1:=by
   have:=sG (l:=p) (i:=0) (by omega)
   simpa using this
  refine key (p.drop 1) 1 rfl (by omega) (by omega) ?_
  have e:(p[1-1]?).getD 0=p[0]:=by simp [lP (show 0<p.length by omega)]
  rw [e]
  conv=>lhs;rw [hpc]
  have e2:p.take 1=[p[0]]:=by
   conv=>lhs;rw [hpc]
   rfl
  rw [e2];rfl

def Rf(l:List Int)(z:Int):z∈sortI l↔z∈l:=by unfold sortI;simp
def Ca: ∀(ns:List aC) (out:List Int),out.length+ns.length<=8000-> ∃cs,n4 ns out=some cs/\ ∀c,c∈cs↔c∈out\/ ∃n∈ns,n.Tag=2/\n.Col=c
 |[],out,h=>by
  unfold n4;rw [IB]
  rw [cz (by simp at h;omega)]
  simp only [bH]
  rw [Oa _ (by rw [DD];simpa using h)]
  exact⟨_,rfl,fun c=>by rw [Rg,Rf];simp⟩
 |n::ns,out,h=>by
  simp only [jm]at h
  unfold n4
  by_cases M:n.Tag=2
  ·rw [cz (by simp [M]),dH (by simp;omega)]
   simp only [bH]
   obtain⟨cs,V,Z⟩:=Ca ns (out++[n.Col]) (by simp;omega)
   exact⟨cs,V,fun c=>by rw [Z];simp [M,or_assoc,eq_comm]⟩
  ·rw [cr (by simp [M])]
   obtain⟨cs,V,Z⟩:=Ca ns out (by omega)
   exact⟨cs,V,fun c=>by rw [Z];simp [M]⟩
def Kk(e:aW)(h:lU e.Nodes=true): ∃cs,xw e=some cs/\ ∀c,c∈cs↔ ∃n∈e.Nodes,n.Tag=2/\n.Col=c:=by
 have hl:=Ni h
 unfold xw
 rw [tE e (by omega),h]
 obtain⟨cs,V,Z⟩:=Ca e.Nodes [] (by simp;omega)
 exact⟨cs,by simpa using V,fun c=>by rw [Z];simp⟩
def kn(tag l r:Int):Int×Bool:=(sN tag l r).getD (0,false)
def A4(tag l r:Int):sN tag l r=some (kn tag l r):=by
 unfold kn sN qQ
 simp only [bH]
 repeat' split
 all_goals simp
def k4(k:Int):Prop:=k=0\/k=1\/k=2\/k=3
def Xb(tag l r:Int):k4 (kn tag l r).1:=by
 unfold kn sN qQ
 simp only [bH]
 repeat' split
 all_goals simp [k4]
def Ox(kinds:List Int)(n:aC)(x:Int)(A:k4 x)(hk:pk n.Tag=some 1):kI kinds n [x]=some (if(kn n.Tag x 0).2 then((kn n.Tag x 0).1,0)else(0,201)):=by
 obtain⟨tag,L,R,col,v⟩:=n
 have M:tag=4\/tag=5\/tag=6\/tag=7:=by
  unfold pk at hk
  repeat' split at hk
  all_goals simp at hk
  rename_i h
  have h:4<=tag/\tag<=7:=h
  omega
 rcases M with rfl|rfl|rfl|rfl<;>rcases A with rfl|rfl|rfl|rfl<;>rfl
def Ow(kinds:List Int)(n:aC)(x y:Int)(A:k4 x)(hy:k4 y)(hk:pk n.Tag=some 2):kI kinds n [x,y]=some (if(kn n.Tag x y).2 then((kn n.Tag x y).1,0)else(0,201)):=by
 obtain⟨tag,L,R,col,v⟩:=n
 have M:tag=12\/tag=13\/tag=14\/tag=15\/tag=16\/tag=17\/tag=18\/tag=19\/tag=20\/tag=21\/tag=22\/tag=23:=by
  unfold pk at hk
  repeat' split at hk
  all_goals simp at hk
  rename_i h
  have h:12<=tag/\tag<=23:=h
  omega
 rcases M with rfl|rfl|rfl|rfl|rfl|rfl|rfl|rfl|rfl|rfl|rfl|rfl<;>rcases A with rfl|rfl|rfl|rfl<;>rcases hy with rfl|rfl|rfl|rfl<;>rfl
def kd(kinds:List Int):Tr->Option Int
 | .lf n=>if n.Tag=1 then some n.Value.Kind else some ((kinds[n.Col.toNat]?).getD 0)
 | .un n a=>(kd kinds a).bind fun x=>if(kn n.Tag x 0).2 then some (kn n.Tag x 0).1 else none
 | .bi n a b=>(kd kinds a).bind fun x=>(kd kinds b).bind fun y=>if(kn n.Tag x y).2 then some (kn n.Tag x y).1 else none
def S6(kinds:List Int)(n:aC)(a:Tr):kd kinds (.un n a)=(kd kinds a).bind fun x=>if(kn n.Tag x 0).2 then some (kn n.Tag x 0).1 else none:=rfl
def Pq(kinds:List Int)(n:aC)(a b:Tr):kd kinds (.bi n a b)=(kd kinds a).bind fun x=>(kd kinds b).bind fun y=>if(kn n.Tag x y).2 then some (kn n.Tag x y).1 else none:=rfl
def Je(m:Nat):Tr->Prop
 | .lf n=>n.Tag=2->n.Col<m
 | .un _ a=>Je m a
 | .bi _ a b=>Je m a/\Je m b
def pk0{tag:Int}(h:pk tag=some 0):tag=1\/tag=2:=by
 unfold pk at h
 repeat' split at h
 all_goals simp at h
 assumption
def aca(h:EX n=true)(M:n.Tag=1):ux n.Value=true:=by
 have Z:=la n
 rw [h]at Z
 unfold ju at Z
 rw [cz (by simp [M]),pe]at Z
 simp at Z
 exact Z.1
def aaC(h:EX n=true)(M:n.Tag=2):0<=n.Col/\n.Col<16:=by
 have Z:=la n
 rw [h]at Z
 unfold ju at Z
 rw [cr (by simp [M]),cz (by simp [M])]at Z
 simp at Z
 exact⟨Z.1.2,Z.2⟩
def Pp{kinds:List Int}(hk: ∀k∈kinds,k4 k): ∀(t:Tr),t.wf-> ∀{k},kd kinds t=some k->k4 k
 | .lf n,⟨V,Z,_,_⟩,k,h=>by
  unfold kd at h
  split at h
  ·rename_i M
   have:=Lq (aca Z M)
   cases h;unfold k4;omega
  ·injection h with h
   subst h
   cases hc:kinds[n.Col.toNat]? with
   |none=>exact .inl rfl
   |some z=>exact hk z (uk hc)
 | .un n a,_,k,h=>by
  unfold kd at h
  cases ha:kd kinds a with
  |none=>rw [ha]at h;cases h
  |some x=>
   rw [ha,bH]at h
   split at h
   ·cases h;exact Xb ..
   ·cases h
 | .bi n a b,_,k,h=>by
  unfold kd at h
  cases ha:kd kinds a with
  |none=>rw [ha]at h;cases h
  |some x=>
   cases Y:kd kinds b with
   |none=>rw [ha,Y]at h;cases h
   |some y=>
    rw [ha,Y]at h
    simp only [bH]at h
    split at h
    ·cases h;exact Xb ..
    ·cases h
def Np(stack l:List Int)(h:stack.length+l.length<=100000):qH (stack++l) (l.length:Int)=some (l,stack):=by
 unfold qH mD
 have e:IntKind.i64.wrap (((stack++l).length:Int)-(l.length:Int))=(stack.length:Int):=by
  rw [pF,d6 (by omega) (by omega)];omega
 rw [e,kO stack.length (stack++l).length rfl rfl (by simp) (gc _)]
 simp only [bH,AU,ME (gc _),List.drop_length,qg]
 rw [dH (by simp;omega)]
 simp only [bH,qg]
 rw [kO (i:=0) 0 stack.length rfl rfl (jW _) (by simp)]
 simp
def Lu(stack:List Int){b:Int}(h:b≠0):nl b stack=some (0,b):=by
 unfold nl;rw [cz (by simpa using h)]
def wW{tag:Int}{k:Nat}(h:pk tag=some k):sY tag=some (k:Int):=by
 rw [Bc];unfold JK;rw [h]
def Q5(kinds:List Int)(hk: ∀k∈kinds,k4 k)(t:Tr):t.wf->Je kinds.length t-> ∀(s:Nat) (rest:List aC) (stack:List Int),stack.length+t.size<=50000->
  jc (kI kinds) (t.flat s++rest) 0 stack=match kd kinds t with
   |some k=>jc (kI kinds) rest 0 (stack++[k])
   |none=>some (0,201):=by
 induction t with
 |lf n=>
  intro⟨V,Z,h3,h4⟩ hc s rest stack hl
  simp only [Tr.flat,Tr.size,yU,qg]at hl ⊢
  rw [jc]
  have e1:(hU n (-1) (-1)).Tag=n.Tag:=rfl
  rw [e1,wW V]
  have h0:=Np stack [] (by simp;omega)
  simp only [Ce,sD]at h0
  simp only [bH]
  rw [h0]
  simp only [bH]
  have hv:kI kinds (hU n (-1) (-1)) []=(kd kinds (.lf n)).map (fun k=>(k,(0:Int))):=by
   unfold kI nq kd
   simp only [e1]
   rcases pk0 V with M|M
   ·rw [cz (by simp [M]),cz M];rfl
   ·rw [cr (by simp [M]),cz (by simp [M]),cr (by simp [M])]
    have Y:=aaC Z M
    have hm:n.Col<kinds.length:=hc M
    have e2:(hU n (-1) (-1)).Col=n.Col:=rfl
    rw [e2,j3 n.Col.toNat (by omega),lP (by omega)]
    rfl
  rw [hv]
  have: ∃k,kd kinds (.lf n)=some k:=by unfold kd;split<;>exact⟨_,rfl⟩
  obtain⟨k,hk1⟩:=this
  rw [hk1]
  simp only [Il,bH]
  rw [cr (by simp),dH (by simp;omega)]
  rfl
 |un n a ih=>
  intro⟨⟨V,Z,h3,h4⟩,ha⟩ hc s rest stack hl
  simp only [Tr.flat,Tr.size,gK]at hl ⊢
  rw [S6,ih ha hc s _ stack (by omega)]
  cases A:kd kinds a with
  |none=>rfl
  |some x=>
   have hx4:=Pp hk a ha A
   simp only [bH,yU,qg]
   rw [jc]
   have e1:(hU n (((s+a.size:Nat):Int)-1) (-1)).Tag=n.Tag:=rfl
   rw [e1,wW V]
   have h0:=Np stack [x] (by simp;omega)
   simp only [bH]
   have e0:(([x]:List Int).length:Int)=((1:Nat):Int):=rfl
   rw [<-e0,h0]
   simp only [bH]
   rw [Ox kinds _ x hx4 (by rw [e1];exact V),e1]
   cases Y:(kn n.Tag x 0).2 with
   |true=>
    simp only [jo,bH]
    rw [cr (by simp),dH (by simp;omega)]
    rfl
   |false=>
    simp only [lu,jQ,bH]
    rw [cz (by decide),Lu _ (by decide)]
 |bi n a b iha ihb=>
  intro⟨⟨V,Z,h3,h4⟩,ha,Y⟩ ⟨hca,hcb⟩ s rest stack hl
  simp only [Tr.flat,Tr.size,gK]at hl ⊢
  rw [Pq,iha ha hca s _ stack (by omega)]
  cases A:kd kinds a with
  |none=>rfl
  |some x=>
   have hx4:=Pp hk a ha A
   simp only [bH]
   rw [ihb Y hcb (s+a.size) _ (stack++[x]) (by have:=a.size_pos;simp;omega)]
   cases hy:kd kinds b with
   |none=>rfl
   |some y=>
    have hy4:=Pp hk b Y hy
    have hap:=a.size_pos
    simp only [bH,yU,qg]
    rw [jc]
    have e1:(hU n (((s+a.size:Nat):Int)-1) (((s+a.size+b.size:Nat):Int)-1)).Tag=n.Tag:=rfl
    rw [e1,wW V]
    have h0:=Np stack [x,y] (by simp;omega)
    simp only [bH]
    have e0:(([x,y]:List Int).length:Int)=((2:Nat):Int):=rfl
    have e9:stack++[x]++[y]=stack++[x,y]:=by simp
    rw [<-e0,e9,h0]
    simp only [bH]
    rw [Ow kinds _ x y hx4 hy4 (by rw [e1];exact V),e1]
    cases Y:(kn n.Tag x y).2 with
    |true=>
     simp only [jo,bH]
     rw [cr (by simp),dH (by simp;omega)]
     rfl
    |false=>
     simp only [lu,jQ,bH]
     rw [cz (by decide),Lu _ (by decide)]
def SF(kinds:List Int)(hk: ∀k∈kinds,k4 k)(t:Tr):t.wf->Je kinds.length t-> ∀(rest:List aC) (own:List Int),own.length+t.size<=50000->
  (kd kinds t=none/\dU kinds (t.flat own.length++rest) own=some (0,201))\/
  (∃k w,kd kinds t=some k/\w.length+1=t.size/\dU kinds (t.flat own.length++rest) own=dU kinds rest (own++w++[k])):=by
 induction t with
 |lf n=>
  intro⟨V,Z,h3,h4⟩ hc rest own hl
  simp only [Tr.flat,Tr.size,yU,qg]at hl ⊢
  refine .inr ?_
  have e1:(hU n (-1) (-1)).Tag=n.Tag:=rfl
  unfold kd
  rcases pk0 V with M|M
  ·refine⟨_,[],cz M,rfl,?_⟩
   rw [dU]
   rw [e1,cz (by simp [M]),dH (by simp;omega)]
   simp only [bH,Ce]
   rfl
  ·refine⟨_,[],cr (by simp [M]),rfl,?_⟩
   have Y:=aaC Z M
   have hm:n.Col<kinds.length:=hc M
   have e2:(hU n (-1) (-1)).Col=n.Col:=rfl
   rw [dU]
   rw [e1,cr (by simp [M]),cz (by simp [M]),e2,j3 n.Col.toNat (by omega),lP (by omega)]
   simp only [bH,Ce,Option.getD_some]
   rw [dH (by simp;omega)]
   rfl
 |un n a ih=>
  intro⟨⟨V,Z,h3,h4⟩,ha⟩ hc rest own hl
  have hap:=a.size_pos
  simp only [Tr.flat,Tr.size,gK]at hl ⊢
  rcases ih ha hc ([hU n (((own.length+a.size:Nat):Int)-1) (-1)]++rest) own (by omega)with⟨A,he⟩|⟨x,w,A,hw,he⟩
  ·exact .inl ⟨by rw [S6,A];rfl,by rw [he]⟩
  ·rw [he]
   rw [S6,A]
   simp only [bH,yU,qg]
   have e1:(hU n (((own.length+a.size:Nat):Int)-1) (-1)).Tag=n.Tag:=rfl
   have n1:n.Tag≠1:=fun h=>by rw [h]at V;simp [pk]at V
   have n2:n.Tag≠2:=fun h=>by rw [h]at V;simp [pk]at V
   have hstep:dU kinds (hU n (((own.length+a.size:Nat):Int)-1) (-1)::rest) (own++w++[x])=if(kn n.Tag x 0).2 then dU kinds rest (own++w++[x]++[(kn n.Tag x 0).1])else some (0,201):=by
    rw [dU]
    rw [e1,cr (by simpa using n1),cr (by simpa using n2)]
    have eL:(hU n (((own.length+a.size:Nat):Int)-1) (-1)).L=((own.length+a.size:Nat):Int)-1:=rfl
    have eR:(hU n (((own.length+a.size:Nat):Int)-1) (-1)).R= -1:=rfl
    rw [eL,eR,j3 (own++w).length (by simp;omega),xI (gc _),FV]
    simp only [KJ,bH]
    rw [cr (by decide)]
    unfold qp
    rw [e1,A4]
    simp only [bH]
    cases Y:(kn n.Tag x 0).2 with
    |true=>
     simp only [rn,lu,jQ,jo]
     rw [dH (by simp;omega)];rfl
    |false=>rfl
   rw [hstep]
   cases Y:(kn n.Tag x 0).2 with
   |true=>exact .inr ⟨(kn n.Tag x 0).1,w++[x],by simp,by simp;omega,by simp⟩
   |false=>exact .inl ⟨by simp,by simp⟩
 |bi n a b iha ihb=>
  intro⟨⟨V,Z,h3,h4⟩,ha,Y⟩ ⟨hca,hcb⟩ rest own hl
  have hap:=a.size_pos
  have hbp:=b.size_pos
  simp only [Tr.flat,Tr.size,gK]at hl ⊢
  obtain⟨m,hm⟩: ∃m,m=hU n (((own.length+a.size:Nat):Int)-1) (((own.length+a.size+b.size:Nat):Int)-1):=⟨_,rfl⟩
  rw [<-hm]
  rcases iha ha hca (b.flat (own.length+a.size)++([m]++rest)) own (by omega)with⟨A,he⟩|⟨x,w,A,hw,he⟩
  ·exact .inl ⟨by rw [Pq,A];rfl,by rw [he]⟩
  ·rw [he]
   have hl2:(own++w++[x]).length=own.length+a.size:=by simp;omega
   rw [<-hl2]
   rcases ihb Y hcb ([m]++rest) (own++w++[x]) (by rw [hl2];omega)with⟨hy,he2⟩|⟨y,w2,hy,hw2,he2⟩
   ·exact .inl ⟨by rw [Pq,A,hy];rfl,by rw [he2]⟩
   ·rw [he2]
    rw [Pq,A,hy]
    simp only [bH,yU,qg]
    have e1:m.Tag=n.Tag:=by rw [hm];rfl
    have eL:m.L=((own.length+a.size:Nat):Int)-1:=by rw [hm];rfl
    have eR:m.R=((own.length+a.size+b.size:Nat):Int)-1:=by rw [hm];rfl
    have n1:n.Tag≠1:=fun h=>by rw [h]at V;simp [pk]at V
    have n2:n.Tag≠2:=fun h=>by rw [h]at V;simp [pk]at V
    have hstep:dU kinds (m::rest) (own++w++[x]++w2++[y])=if(kn n.Tag x y).2 then dU kinds rest (own++w++[x]++w2++[y]++[(kn n.Tag x y).1])else some (0,201):=by
     rw [dU]
     rw [e1,cr (by simpa using n1),cr (by simpa using n2)]
     rw [eL,eR,j3 (own++w).length (by simp;omega)]
     have g1:(own++w++[x]++w2++[y])[(own++w).length]? =some x:=by
      rw [gK,gK,xI (gc _),FV];rfl
     rw [g1]
     simp only [bH]
     rw [cz (by rw [nE];omega),j3 (own++w++[x]++w2).length (by simp;omega)]
     have g2:(own++w++[x]++w2++[y])[(own++w++[x]++w2).length]? =some y:=by
      rw [xI (gc _),FV];rfl
     rw [g2]
     simp only [bH]
     unfold qp
     rw [e1,A4]
     simp only [bH]
     cases Y:(kn n.Tag x y).2 with
     |true=>
      simp only [rn,lu,jQ,jo]
      rw [dH (by simp;omega)];rfl
     |false=>rfl
    rw [hstep]
    cases Y:(kn n.Tag x y).2 with
    |true=>exact .inr ⟨(kn n.Tag x y).1,w++[x]++w2++[y],by simp,by simp;omega,by simp⟩
    |false=>exact .inl ⟨by simp,by simp⟩
def sb(m:Nat)(ns:List aC):Bool:=ns.all fun n=> !((n.Tag==2)&&decide ((m:Int)<=n.Col))
def Me(m:Nat)(n:aC)(ns:List aC):sb m (n::ns)=(!((n.Tag==2)&&decide ((m:Int)<=n.Col))&&sb m ns):=rfl
def EW(m:Nat)(t:Tr):t.wf-> ∀s,sb m (t.flat s)=true->Je m t:=by
 induction t with
 |lf n=>
  intro _ s h M
  simp only [sb,Tr.flat,tI,List.all_nil,Bool.and_true]at h
  have e1:(hU n (-1) (-1)).Tag=n.Tag:=rfl
  have e2:(hU n (-1) (-1)).Col=n.Col:=rfl
  simp [e1,e2,M]at h
  exact h
 |un n a ih=>
  intro⟨_,ha⟩ s h
  simp only [sb,Tr.flat,List.all_append,jR]at h
  exact ih ha s h.1
 |bi n a b iha ihb=>
  intro⟨_,ha,Y⟩ s h
  simp only [sb,Tr.flat,List.all_append,jR]at h
  exact⟨iha ha s h.1.1,ihb Y _ h.1.2⟩
def R5(kinds:List Int):Bool:=kinds.all fun k=>decide (0<=k)&&decide (k<=3)
def LM(k:Int)(ks:List Int):R5 (k::ks)=((decide (0<=k)&&decide (k<=3))&&R5 ks):=rfl
def Pr{kinds:List Int}(h:R5 kinds=true){k:Int}(hk:k∈kinds):k4 k:=by
 have:=pG.1 h k hk
 simp at this
 unfold k4;omega
def kF(e:aW)(kinds:List Int):Int×Int:=
 if lU e.Nodes then if R5 kinds then if sb kinds.length e.Nodes then match (sJ e.Nodes).bind (kd kinds)with
  |some k=>(k,0)
  |none=>(0,201)else(0,2)else(0,2)else(0,200)
def HO(e:aW)(kinds:List Int): ∀cs:List Int,nZ e kinds cs=if cs.all (fun c=>decide (c<(kinds.length:Int)))then qz e (kI kinds)else some (0,2)
 |[]=>by
  unfold nZ
  cases qz e (kI kinds)<;>rfl
 |c::cs=>by
  unfold nZ
  rw [HO e kinds cs]
  by_cases h:(kinds.length:Int)<=c
  ·rw [cz (by simpa using h),cr (by simp;omega)]
  ·rw [cr (by simpa using h)]
   have:c<(kinds.length:Int):=by omega
   simp [this]
def u6(e:aW)(kinds:List Int)(hl:e.Nodes.length<=50000):s0 e kinds=some (kF e kinds):=by
 unfold s0 kF
 rw [tE e (by omega)]
 cases hr:lU e.Nodes with
 |false=>rfl
 |true=>
  simp only [jo,bH]
  rw [cr (by decide)]
  have key: ∀ks:List Int,r0 e kinds ks=if R5 ks then(xw e).bind (nZ e kinds)else some (0,2):=by
   intro ks
   induction ks with
   |nil=>rfl
   |cons k ks ih=>
    unfold r0
    rw [ih]
    by_cases h:k<0\/3<k
    ·rw [cz (by simpa using h),cr (by simp [R5];omega)]
    ·rw [cr (by simpa using h)]
     have V:(decide (0<=k)&&decide (k<=3))=true:=by simp;omega
     rw [LM,V,wK]
  rw [key]
  cases hk:R5 kinds with
  |false=>rfl
  |true=>
   simp only [jo]
   obtain⟨cs,V,Z⟩:=Kk e hr
   rw [V,bH,HO]
   have hci:cs.all (fun c=>decide (c<(kinds.length:Int)))=sb kinds.length e.Nodes:=by
    rw [wZ]
    simp only [pG,nE,sb,AI,Bool.and_eq_false_iff,KG,qM]
    constructor
    ·intro h n hn
     by_cases M:n.Tag=2
     ·exact .inr (by have:=h _ ((Z n.Col).2 ⟨n,hn,M,rfl⟩);omega)
     ·exact .inl M
    ·intro h c hc
     obtain⟨n,hn,M,rfl⟩:=(Z c).1 hc
     rcases h n hn with h|h
     ·exact absurd M h
     ·omega
   rw [hci]
   cases hc:sb kinds.length e.Nodes with
   |false=>rfl
   |true=>
    simp only [jo]
    cases M:sJ e.Nodes with
    |none=>unfold lU at hr;rw [M]at hr;cases hr
    |some t=>
     obtain⟨hw,hN,hs⟩:=q8 M
     have hct:=EW kinds.length t hw 0 (by rw [<-hN];exact hc)
     have:=Q5 kinds (fun k=>Pr hk) t hw hct 0 [] [] (by simp;omega)
     rw [Ce,<-hN]at this
     unfold qz
     rw [this]
     simp only [bH]
     cases kd kinds t with
     |none=>rfl
     |some k=>rfl
def qq(e:aW)(kinds:List Int):qR e kinds=some (kF e kinds):=by
 unfold qR kF
 rw [GF e]
 cases hr:lU e.Nodes with
 |false=>rfl
 |true=>
  simp only [jo,bH,rn,lu,jQ]
  have Z3: ∀ns:List aC,oy e kinds ns=if sb kinds.length ns then dU kinds e.Nodes []else some (0,2):=by
   intro ns
   induction ns with
   |nil=>rfl
   |cons n ns ih=>
    unfold oy
    rw [ih,Me]
    cases ((n.Tag==2)&&decide ((kinds.length:Int)<=n.Col))<;>simp
  have key: ∀ks:List Int,qo e kinds ks=if R5 ks then oy e kinds e.Nodes else some (0,2):=by
   intro ks
   induction ks with
   |nil=>rfl
   |cons k ks ih=>
    unfold qo
    rw [ih]
    by_cases h:k<0\/3<k
    ·rw [cz (by simpa using h),cr (by simp [R5];omega)]
    ·rw [cr (by simpa using h)]
     have V:(decide (0<=k)&&decide (k<=3))=true:=by simp;omega
     rw [LM,V,wK]
  rw [key,Z3]
  cases hk:R5 kinds with
  |false=>rfl
  |true=>
   cases hc:sb kinds.length e.Nodes with
   |false=>rfl
   |true=>
    simp only [jo]
    cases M:sJ e.Nodes with
    |none=>unfold lU at hr;rw [M]at hr;cases hr
    |some t=>
     obtain⟨hw,hN,hs⟩:=q8 M
     have hct:=EW kinds.length t hw 0 (by rw [<-hN];exact hc)
     have:=SF kinds (fun k=>Pr hk) t hw hct [] [] (by simp;omega)
     rw [Ce,sD,<-hN]at this
     simp only [bH]
     rcases this with⟨V,Z⟩|⟨k,w,V,Z,h3⟩
     ·rw [V,Z]
     ·rw [V,h3]
      unfold dU
      have hls:t.size<=1000:=hs
      rw [qg,j3 w.length (by rw [d6 (by simp<;>omega) (by simp<;>omega)];simp),xI (gc _),FV]
      rfl
end Go.Proofs.YthbdkceckjihgaaGreatDoor

