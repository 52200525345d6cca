/- dr of this claim: M1, M2, M3, M4, M5, M6, M7, M8, M9, L8, L9, L10, L11. -/
import Derived.Test.YtnmjbolollcokaaGreatDoorRdQ2
set_option linter.all false
namespace Go.Proofs.YtnmjbolollcokaaGreatDoor
open Go

def zV:df:=⟨0,0,0,[]⟩
def bV(b:Bool):df:=⟨1,if b then 1 else 0,0,[]⟩
def iV(n:Int):df:=⟨2,n,0,[]⟩
def sV(s:jb):df:=⟨3,0,0,s⟩
def r64(n:Int):Prop:= -9223372036854775808≤n∧n≤9223372036854775807
inductive Pl:df→Prop
 |z:Pl zV
 |b (b:Bool):Pl (bV b)
 |i (n:Int) (h:r64 n):Pl (iV n)
 |s (s:jb) (h:s.length≤40):Pl (sV s)
inductive Tu:df→Prop
 |z:Tu zV
 |b (b:Bool):Tu (bV b)
def tn(v:df):Int:=if v.Kind=0 then 1 else 2*v.N
def tv(n:Int):df:=if n=0 then bV false else if n=1 then zV else bV true
def Y6(a b:df):df:=tv (min (tn a) (tn b))



variable{α:Type}
theorem QH(f:α→α)(xs:List α)(i:Nat)(h:i<xs.length):((xs.take i).map f++xs.drop i).set i (f xs[i])=(xs.take (i+1)).map f++xs.drop (i+1):=by
 rw [HN _ _ (by simp;omega)]
 have e:i-((xs.take i).map f).length=0:=by simp;omega
 rw [e,r0 h,List.set_cons_zero,Mt h,Dh]
 simp
theorem Q0(f:α→α)(xs:List α)(i:Nat)(h:i<xs.length):dw ((xs.take i).map f++xs.drop i) (i:Int)=some xs[i]:=by
 rw [cQ,sP (by simp;omega)]
 have e:i-((xs.take i).map f).length=0:=by simp;omega
 rw [e,xb]
 simp [h]

variable{l:bR}{n:af}
theorem Hm(e:bf)(h:e.Nodes.length≤50000):tM e=some (gN e.Nodes&& !(e.Nodes.any Sr)):=by
 unfold tM
 rw [rW e (by omega)]
 cases gN e.Nodes with
 |false=>rfl
 |true=>
  simp only [jW,bC]
  rw [bS (by decide)]
  have key: ∀(l:List bq),ew l sK=some (l.any Sr):=by
   intro l
   unfold ew gZ
   have h2: ∀(l:List bq) (i:Nat),∃z:Int,dE sK l i=some z∧(0≤z↔l.any Sr=true):=by
    intro l
    induction l with
    |nil=>intro i;exact⟨-1,rfl,by simp⟩
    |cons n l ih=>
     intro i
     unfold dE
     have e1:sK n=some (Sr n):=rfl
     rw [e1]
     simp only [bC]
     cases hb:Sr n with
     |true=>exact⟨(i:Int),by simp,by simp [hb]⟩
     |false=>
      obtain⟨z,h3,h4⟩:=ih (i+1)
      exact⟨z,by simpa using h3,by simpa [hb] using h4⟩
   obtain⟨z,h3,h4⟩:=h2 l 0
   rw [h3]
   simp only [bC]
   congr 1
   rw [yF,←h4];simp
  rw [key];rfl

def sh(s:Nat)(x:Int):Int:=if 0≤x then x+(s:Int)else x
def Dc(t:Tr):bf:=⟨t.flat 0⟩
theorem KH(l:List bq)(h:l.length≤1000000):cj l=some l:=by
 unfold cj
 rw [cP (by simp;omega)]
 simp
variable{t:Tr}
theorem Ig(hw:t.wf)(hs:t.size≤1000):gN (t.flat 0)=true:=by unfold gN;rw [B5 hw hs];rfl

def s7:Tr→List Tr
 | .lf n=>[.lf n]
 | .un n a=>[.un n a]
 | .bi n a b=>if n.Tag=22 then s7 a++s7 b else [.bi n a b]
theorem vI(n:bq)(a b:Tr):s7 (.bi n a b)=if n.Tag=22 then s7 a++s7 b else [.bi n a b]:=rfl
def us(s:Nat)(x:Int):Int:=if 0≤x then x-(s:Int)else x
def Bk(s:Nat)(n:bq):bq:=gP n (us s n.L) (us s n.R)
variable{k:Nat}
theorem HT(k:Nat)(n:bq)(l r:Int):Bk k (gP n l r)=gP n (us k l) (us k r):=rfl
variable{x:Int}
theorem Do(h:0≤x):us k x=x-(k:Int):=bS h
theorem TF(k:Nat):us k (-1)= -1:=rfl
theorem Ly(t:Tr)(k:Nat): ∀s,(t.flat (s+k)).map (Bk k)=t.flat s:=by
 induction t with
 |lf m=>intro s;rfl
 |un m a ih=>
  intro s
  have:=a.size_pos
  simp only [Tr.flat,Dh,ih,yE,z6,HT,TF]
  rw [Do (by omega),show((s+k+a.size:Nat):Int)-1-(k:Int)=((s+a.size:Nat):Int)-1 from by omega]
 |bi m a b iha ihb=>
  intro s
  have:=a.size_pos
  have:=b.size_pos
  have hb:=ihb (s+a.size)
  rw [show s+a.size+k=s+k+a.size from by omega]at hb
  simp only [Tr.flat,Dh,iha,hb,yE,z6,HT]
  rw [Do (by omega),Do (by omega),show((s+k+a.size:Nat):Int)-1-(k:Int)=((s+a.size:Nat):Int)-1 from by omega,show((s+k+a.size+b.size:Nat):Int)-1-(k:Int)=((s+a.size+b.size:Nat):Int)-1 from by omega]
def Vj(n:bq):Prop:= -1000000≤n.L∧n.L≤1000000∧ -1000000≤n.R∧n.R≤1000000
theorem FZ(t:Tr): ∀s,s+t.size≤1000000→ ∀n∈t.flat s,Vj n:=by
 induction t with
 |lf m=>intro s _ n hn;simp only [Tr.flat,tQ]at hn;subst hn;refine⟨?_,?_,?_,?_⟩<;>simp [gP]
 |un m a ih=>
  intro s hs n hn
  simp only [Tr.size]at hs
  simp only [Tr.flat,wT,tQ]at hn
  rcases hn with hn|rfl
  ·exact ih s (by omega) n hn
  ·refine⟨?_,?_,?_,?_⟩<;>simp only [gP]<;>omega
 |bi m a b iha ihb=>
  intro s hs n hn
  simp only [Tr.size]at hs
  simp only [Tr.flat,wT,tQ]at hn
  rcases hn with(hn|hn)|rfl
  ·exact iha s (by omega) n hn
  ·exact ihb _ (by omega) n hn
  ·refine⟨?_,?_,?_,?_⟩<;>simp only [gP]<;>omega
variable{j:Nat}
theorem EF(nx:List bf→List Int→Option (List bf))(out:List bf)(ho:out.length≤100000)(y:List Int)(k:Nat)(hk:k≤1000000)(xs:List bq)(hb: ∀n∈xs,Vj n): ∀(tl:List bq) (i:Nat),xs.drop i=tl→
  kM nx out y (k:Int) tl i ⟨(xs.take i).map (Bk k)++xs.drop i⟩=nx (out++[⟨xs.map (Bk k)⟩]) y
 |[],i,h=>by
  have:=zY.1 h
  unfold kM
  rw [cP (by simp;omega)]
  unfold qP
  rw [h,zU,rZ this]
  rfl
 |e::tl,i,h=>by
  have hi:i<xs.length:=by
   rcases lu i xs.length with q|q
   ·exact q
   ·rw [Bf q]at h;cases h
  obtain⟨b1,b2,b3,b4⟩:=hb xs[i] (List.getElem_mem hi)
  have hd:xs.drop (i+1)=tl:=by rw [←va,h];rfl
  have ih:=EF nx out ho y k hk xs hb tl (i+1) hd
  have hs:=QH (Bk k) xs i hi
  have hx:=Q0 (Bk k) xs i hi
  unfold kM
  dsimp only
  rw [hx]
  simp only [bC]
  have hk2: ∀(m:bq),m.Tag=xs[i].Tag→m.Col=xs[i].Col→m.Value=xs[i].Value→m.R=xs[i].R→m.L=us k xs[i].L→ ∀zs:List bq,zs[i]? =some m→zs.set i (Bk k xs[i])=(xs.take (i+1)).map (Bk k)++xs.drop (i+1)→
    qO (k:Int) (kM nx out y (k:Int) tl) i ⟨zs⟩=nx (out++[⟨xs.map (Bk k)⟩]) y:=by
   intro m h1 h2 h3 h4 h5 zs hz hset
   unfold qO
   dsimp only
   rw [cQ,hz]
   simp only [bC]
   by_cases hR:0≤m.R
   ·rw [bS (by simpa using hR)]
    have hm:({m with R:=IntKind.i64.wrap (m.R-(k:Int))}:bq)=Bk k xs[i]:=by
     rw [cA (by omega) (by omega)]
     obtain⟨mt,ml,mr,mc,mv⟩:=m
     simp only at h1 h2 h3 h4 h5 hR
     subst h1 h2 h3 h4 h5
     simp only [Bk,gP,Do hR]
    rw [hm,yG,hset]
    exact ih
   ·rw [bM (by simpa using hR)]
    have hm:m=Bk k xs[i]:=by
     obtain⟨mt,ml,mr,mc,mv⟩:=m
     simp only at h1 h2 h3 h4 h5 hR
     subst h1 h2 h3 h4 h5
     simp only [Bk,gP,us,bM hR]
    have e1:zs.set i (Bk k xs[i])=zs:=by
     rw [←hm]
     apply Fb
     intro j
     by_cases hj:j=i
     ·subst hj
      have hlt:=(qW.1 hz).1
      rw [List.getElem?_set_self hlt,hz]
     ·rw [List.getElem?_set_ne (by omega)]
    rw [←e1,hset]
    exact ih
  have hzi:((xs.take i).map (Bk k)++xs.drop i)[i]? =some xs[i]:=by rw [←cQ];exact hx
  have hlen:i<((xs.take i).map (Bk k)++xs.drop i).length:=(qW.1 hzi).1
  by_cases hL:0≤xs[i].L
  ·rw [bS (by simpa using hL),yG]
   refine hk2 ({xs[i]with L:=IntKind.i64.wrap (xs[i].L-(k:Int))}:bq) rfl rfl rfl rfl (by show IntKind.i64.wrap (xs[i].L-(k:Int))=_;rw [cA (by omega) (by omega),Do hL]) _ (by rw [List.getElem?_set_self hlen]) ?_
   rw [List.set_set];exact hs
  ·rw [bM (by simpa using hL)]
   exact hk2 xs[i] rfl rfl rfl rfl (by simp only [us,bM hL]) _ hzi hs
def zF(N:List bq)(all:List Int)(su:Nat×Tr):Prop:=su.2.wf∧su.1+su.2.size≤N.length∧(N.drop su.1).take su.2.size=su.2.flat su.1∧(all.drop su.1).take su.2.size=fl su.2 su.1
def Id(su:Nat×Tr):Int:=((su.1+su.2.size:Nat):Int)-1
def q5:Tr→Nat→bq
 | .lf n,_=>gP n (-1) (-1)
 | .un n a,s=>gP n (((s+a.size:Nat):Int)-1) (-1)
 | .bi n a b,s=>gP n (((s+a.size:Nat):Int)-1) (((s+a.size+b.size:Nat):Int)-1)
theorem BD(t:Tr)(s:Nat):(t.flat s)[t.size-1]? =some (q5 t s):=by
 cases t with
 |lf n=>rfl
 |un n a=>
  simp only [Tr.flat,Tr.size,q5]
  rw [sP (by rw [a.flat_len];omega),a.flat_len]
  simp
 |bi n a b=>
  simp only [Tr.flat,Tr.size,q5]
  rw [sP (by simp [a.flat_len,b.flat_len]),lw,a.flat_len,b.flat_len]
  simp
theorem Iv{N xs:List α}{s:Nat}(h:(N.drop s).take k=xs)(hj:j<k):N[s+j]? =xs[j]? :=by
 rw [←h,Bg hj,xb]
theorem Ir{N:List bq}{all:List Int}{su:Nat×Tr}(h:zF N all su):dw N (Id su)=some (q5 su.2 su.1)∧dw all (Id su)=some (su.1:Int):=by
 obtain⟨hw,hl,h1,h2⟩:=h
 have hp:=su.2.size_pos
 have e:Id su=((su.1+(su.2.size-1):Nat):Int):=by unfold Id;omega
 rw [e,cQ,cQ,Iv h1 (by omega),Iv h2 (by omega),BD,Lz]
 exact⟨rfl,rfl⟩
theorem Fl{N xs ys zs:List α}{s a b:Nat}(h:(N.drop s).take k=xs++ys++zs)(hx:xs.length=a)(hy:ys.length=b):(N.drop s).take a=xs∧(N.drop (s+a)).take b=ys:=by
 have hk:a+b≤k:=by
  have:=congrArg List.length h
  simp only [z8,lw,B0]at this
  omega
 constructor
 ·have:=congrArg (List.take a) h
  rw [Ba,Bc (by omega)]at this
  rw [this,iS,zg (by omega),rZ (by omega)]
 ·have this:(((N.drop s).take k).drop a).take b=((xs++ys++zs).drop a).take b:=by rw [h]
  rw [xe,va,Ba,Bc (by omega)]at this
  rw [this,iS,JE (by omega),vc (by omega),ke,zg (by omega),rZ (by omega)]
theorem MP{N:List bq}{all:List Int}{s:Nat}{n:bq}{a b:Tr}(h:zF N all (s,.bi n a b)):zF N all (s,a)∧zF N all (s+a.size,b):=by
 obtain⟨⟨_,ha,hb⟩,hl,h1,h2⟩:=h
 simp only [Tr.size,Tr.flat,fl]at hl h1 h2
 obtain⟨h3,h4⟩:=Fl h1 (a.flat_len s) (b.flat_len _)
 obtain⟨h5,h6⟩:=Fl h2 (sX a s) (sX b _)
 exact⟨⟨ha,by show s+a.size≤_;omega,h3,h5⟩,⟨hb,by show s+a.size+b.size≤_;omega,h4,h6⟩⟩
def Qu:List (Nat×Tr)→Nat
 |[]=>0
 |su::st=>su.2.size+Qu st
def OJ(st:List (Nat×Tr)):List bf:=st.flatMap fun su=>(s7 su.2).map Dc
theorem Qi{s:Nat}(hw:t.wf)(h:(q5 t s).Tag≠22):s7 t=[t]:=by
 cases t with
 |lf n=>rfl
 |un n a=>rfl
 |bi n a b=>rw [vI,bM (show¬n.Tag=22 from h)]
theorem Qh{s:Nat}(hw:t.wf)(h:(q5 t s).Tag=22): ∃n a b,t= .bi n a b∧n.Tag=22:=by
 cases t with
 |lf n=>
  have h:n.Tag=22:=h
  have h1:=hw.1
  rw [h]at h1;simp [pk]at h1
 |un n a=>
  have h:n.Tag=22:=h
  have h1:=hw.1.1
  rw [h]at h1;simp [pk]at h1
 |bi n a b=>exact⟨n,a,b,rfl,h⟩
theorem zS(N:List bq)(hN:N.length≤100000)(all:List Int)(b:Bool): ∀(fu:Nat) (st:List (Nat×Tr)) (out:List bf),(∀su∈st,zF N all su)→Qu st<fu→st.length≤100000→out.length+Qu st≤90000→
  ja ⟨N⟩ (all,b) fu out (st.map Id).reverse=some (out++OJ st)
 |0,_,_,_,h,_,_=>by omega
 |fu+1,[],out,_,_,_,_=>by
  unfold ja
  simp [OJ]
 |fu+1,su::st,out,hp,hf,hs,ho=>by
  have hp0:=hp su (iA ..)
  obtain⟨h1,h2⟩:=Ir hp0
  simp only [iR]at hs
  simp only [Qu]at hf ho
  have hpos:=su.2.size_pos
  unfold ja
  have hlen:((su::st).map Id).reverse.length=st.length+1:=by simp
  rw [bS (by rw [hlen];simp<;>omega),hlen,cA (by omega) (by omega)]
  have e1:((su::st).map Id).reverse=(st.map Id).reverse++[Id su]:=by simp
  rw [e1,mp st.length (by omega),sP (by simp)]
  simp only [List.length_reverse,List.length_map,vu,HG,bC]
  rw [mL (i:=0) 0 st.length rfl (by omega) (iP _) (by simp),sM]
  rw [zg (by simp),rZ (by simp)]
  simp only [bC]
  rw [h1]
  simp only [bC]
  have hp' : ∀q∈st,zF N all q:=fun q hq=>hp q (pS _ hq)
  by_cases ht:(q5 su.2 su.1).Tag=22
  ·rw [bS (by simp [ht])]
   obtain⟨s,u⟩:=su
   obtain⟨n,a,c,rfl,hn⟩:=Qh hp0.1 ht
   obtain⟨hpa,hpb⟩:=MP hp0
   simp only [Tr.size]at hf ho
   have e2:(st.map Id).reverse++[(q5 (.bi n a c) s).R,(q5 (.bi n a c) s).L]=(((s,a)::(s+a.size,c)::st).map Id).reverse:=by
    simp [q5,gP,Id]
   simp only at hN ⊢
   rw [cP (by simp;omega)]
   simp only [bC]
   unfold qP
   rw [e2,zS N hN all b fu ((s,a)::(s+a.size,c)::st) out (fun q hq=>by
    rcases jl.1 hq with rfl|hq
    ·exact hpa
    ·rcases jl.1 hq with rfl|hq
     ·exact hpb
     ·exact hp' q hq) (by simp only [Qu];omega) (by
      have: ∀l:List (Nat×Tr),l.length≤Qu l:=by
       intro l
       induction l with
       |nil=>exact eW _
       |cons q l ih=>have:=q.2.size_pos;simp [Qu];omega
      have:=this st
      simp only [iR];omega) (by simp only [Qu];omega)]
   congr 2
   simp only [OJ,List.flatMap_cons,vI,bS hn,Dh,iS]
  ·rw [bM (by simpa using ht),h2]
   obtain⟨s,u⟩:=su
   obtain⟨hw,hl,h3,h4⟩:=hp0
   simp only at hl h3 h4 hpos hf ho ⊢
   simp only [bC]
   have e3:IntKind.i64.wrap (Id (s,u)+1)=((s+u.size:Nat):Int):=by
    unfold Id
    simp only
    rw [cA (by omega) (by omega)];omega
   rw [e3,mL s (s+u.size) rfl rfl (by omega) hl]
   have e4:(N.take (s+u.size)).drop s=u.flat s:=by rw [xe,Nat.add_sub_cancel_left];exact h3
   rw [e4]
   simp only [bC]
   rw [KH _ (by rw [u.flat_len];omega)]
   simp only [bC]
   have h5:=EF (ja ⟨N⟩ (all,b) fu) out (by omega) (st.map Id).reverse s (by omega) (u.flat s) (FZ u s (by omega)) (u.flat s) 0 rfl
   simp only [List.take_zero,z6,ke,sM]at h5
   rw [h5]
   have h6:=Ly u s 0
   rw [q7]at h6
   rw [h6,zS N hN all b fu st _ hp' (by omega) (by omega) (by simp;omega)]
   congr 1
   simp only [OJ,List.flatMap_cons,Qi hw ht,yE,z6,iS]
   rfl
theorem Ho(e:bf)(hl:e.Nodes.length≤80000):vH e=some (match pU e.Nodes with
  |none=>[]
  |some t=>(s7 t).map Dc):=by
 unfold vH
 have hf:=F3 e.Nodes [] (by simp [cM];omega)
 simp only [cM,I0,mN]at hf
 unfold sJ
 rw [show((0:Nat))=0 from rfl]at hf
 rw [hf]
 unfold pU
 cases hp:pF e.Nodes []with
 |none=>rfl
 |some st=>
  have hsz:=Cg hp
  match st,hsz with
  |[],_=>rfl
  |[t],hsz=>
   simp only [bC,iR,sN,q7,decide_true,w8]
   have hw:=(ud hp (fun t ht=>by cases ht)).2 t (iA ..)
   have hfl:=(ud hp (fun t ht=>by cases ht)).1
   simp only [vF,cM,ke,q7]at hfl hsz
   simp only [cM,q7,hsz]
   by_cases h1:e.Nodes.length≤1000
   ·rw [bM (by simp [h1])]
    simp only [h1,decide_true,jW]
    have hpl:zF e.Nodes (I0 [t]) (0,t):=by
     refine⟨hw,by show 0+t.size≤_;omega,?_,?_⟩
     ·simp only [sM];rw [←hfl,rZ (by rw [t.flat_len];exact eW _)]
     ·simp only [I0,cM,ke,sM];rw [rZ (by rw [sX];exact eW _)]
    have h2:=zS e.Nodes (by omega) (I0 [t]) true cZ [(0,t)] [] (fun q hq=>by
     simp only [tQ]at hq;subst hq;exact hpl) (by simp only [Qu];exact wU (Cz _) (np (by omega))) (by simp) (by simp [Qu];omega)
    have e2:([(0,t)].map Id).reverse=[((e.Nodes.length:Int)-1)]:=by
     simp only [yE,z6,List.reverse_cons,List.reverse_nil,ke,Id]
     rw [←hsz];simp
    rw [e2]at h2
    rw [cA (by omega) (by omega)]
    have e9:(⟨e.Nodes⟩:bf)=e:=rfl
    rw [e9]at h2
    rw [h2]
    simp [OJ]
   ·rw [bS (by simp [h1])]
    simp only [h1,ji]
  |t::t2::st,_=>simp

def fA(v:df)(l:List df):df:=l.foldl Y6 v
def JU(l:List Tr):Nat:=(l.map Tr.size).sum
theorem HW(a b:List Tr):JU (a++b)=JU a+JU b:=by simp [JU]
theorem BO(t:Tr):JU (s7 t)+(s7 t).length=t.size+1:=by
 induction t with
 |lf n=>rfl
 |un n a _=>simp [s7,JU]
 |bi n a b iha ihb=>
  rw [vI]
  split
  ·rw [HW,lw];simp only [Tr.size];omega
  ·simp [JU]

theorem Cv(place r:Int)(k:Nat)(hk:k≤1000000)(hpr:IntKind.i64.wrap (IntKind.i64.wrap (place+1)-r)=(k:Int)): ∀(ns out:List bq),(∀n∈ns,Vj n)→out.length+ns.length≤1000000→im place r ns ⟨out⟩=some ⟨out++ns.map (Bk k)⟩
 |[],out,_,_=>by simp [im]
 |n::ns,out,hb,hl=>by
  simp only [iR]at hl
  obtain⟨b1,b2,b3,b4⟩:=hb n (iA ..)
  have ih:=Cv place r k hk hpr ns (out++[Bk k n]) (fun m hm=>hb m (pS _ hm)) (by simp;omega)
  have e9:out++(n::ns).map (Bk k)=out++[Bk k n]++ns.map (Bk k):=by simp
  rw [e9,←ih]
  have hk2: ∀m,m=Bk k n→pz (im place r ns) ⟨out⟩ m=im place r ns ⟨out++[Bk k n]⟩:=by
   intro m hm
   unfold pz
   rw [cP (by simp;omega),hm]
   rfl
  conv=>lhs;unfold im
  rw [hpr]
  by_cases hL:0≤n.L
  ·rw [bS (by simpa using hL)]
   unfold pA
   rw [hpr,cA (n:=n.L-(k:Int)) (by omega) (by omega)]
   by_cases hR:0≤n.R
   ·rw [bS (by simpa using hR)]
    dsimp only
    rw [cA (n:=n.R-(k:Int)) (by omega) (by omega)]
    exact hk2 _ (by simp only [Bk,gP,us,bS hL,bS hR])
   ·rw [bM (by simpa using hR)]
    exact hk2 _ (by simp only [Bk,gP,us,bS hL,bM hR])
  ·rw [bM (by simpa using hL)]
   unfold pA
   rw [hpr]
   by_cases hR:0≤n.R
   ·rw [bS (by simpa using hR),cA (n:=n.R-(k:Int)) (by omega) (by omega)]
    exact hk2 _ (by simp only [Bk,gP,us,bM hL,bS hR])
   ·rw [bM (by simpa using hR)]
    exact hk2 _ (by simp only [Bk,gP,us,bM hL,bM hR])
theorem yY(P R:List bq)(u:Tr)(hw:u.wf)(hl:(P++u.flat P.length++R).length≤100000):t7 ⟨P++u.flat P.length++R⟩ (((P.length+u.size:Nat):Int)-1)=some (Dc u):=by
 have hl2:=hl
 simp only [lw,u.flat_len]at hl2
 have hpos:=u.size_pos
 unfold t7 t6
 rw [Le u hw P R _ cZ rfl (np (by omega)) hl]
 simp only [bC]
 have e1:IntKind.i64.wrap (((P.length+u.size:Nat):Int)-1+1)=((P.length+u.size:Nat):Int):=by rw [cA (by omega) (by omega)];omega
 have e2:IntKind.i64.wrap (IntKind.i64.wrap (((P.length+u.size:Nat):Int)-1+1)-(u.size:Int))=(P.length:Int):=by rw [e1,cA (by omega) (by omega)];omega
 rw [e2,e1,mL P.length (P.length+u.size) rfl rfl (by omega) (by simp only [lw,u.flat_len];omega)]
 have e3:((P++u.flat P.length++R).take (P.length+u.size)).drop P.length=u.flat P.length:=by
  rw [iS,xe,JE (eW _),vc (eW _),ke,Nat.add_sub_cancel_left,zg (by rw [u.flat_len];exact eW _),rZ (by rw [u.flat_len];exact eW _)]
 rw [e3]
 simp only [bC]
 rw [Cv _ _ P.length (by omega) e2 _ _ (FZ u _ (by omega)) (by simp [u.flat_len];omega)]
 have h6:=Ly u P.length 0
 rw [q7]at h6
 rw [h6];rfl
theorem CJ(t:Tr):t.wf→t.size≤50000→ ∀fu,t.size≤fu→lO fu (Dc t)=some ((s7 t).map Dc):=by
 induction t with
 |lf n=>
  intro hw hs fu hf
  obtain⟨fu,rfl⟩: ∃k,fu=k+1:=⟨fu-1,by simp only [Tr.size]at hf;omega⟩
  unfold lO
  have e1:dw (Dc (.lf n)).Nodes (IntKind.i64.wrap (((Dc (.lf n)).Nodes.length:Int)-1))=some (gP n (-1) (-1)):=rfl
  rw [e1]
  simp only [bC]
  have h2:(gP n (-1) (-1)).Tag≠22:=fun h=>by
   have h:n.Tag=22:=h
   have h1:=hw.1
   rw [h]at h1;simp [pk]at h1
  rw [bS (by simpa using h2)];rfl
 |un n a _=>
  intro hw hs fu hf
  obtain⟨fu,rfl⟩: ∃k,fu=k+1:=⟨fu-1,by simp only [Tr.size]at hf;omega⟩
  unfold lO
  have hpos:=(Tr.un n a).size_pos
  have e1:dw (Dc (.un n a)).Nodes (IntKind.i64.wrap (((Dc (.un n a)).Nodes.length:Int)-1))=some (q5 (.un n a) 0):=by
   have hl:(Dc (.un n a)).Nodes.length=(Tr.un n a).size:=by unfold Dc;rw [Tr.flat_len]
   rw [hl,cA (by omega) (by omega),mp ((Tr.un n a).size-1) (by omega)]
   exact BD _ 0
  rw [e1]
  simp only [bC]
  have h2:(q5 (.un n a) 0).Tag≠22:=fun h=>by
   have h:n.Tag=22:=h
   have h1:=hw.1.1
   rw [h]at h1;simp [pk]at h1
  rw [bS (by simpa using h2)];rfl
 |bi n a b iha ihb=>
  intro hw hs fu hf
  obtain⟨fu,rfl⟩: ∃k,fu=k+1:=⟨fu-1,by simp only [Tr.size]at hf;omega⟩
  unfold lO
  have hpos:=(Tr.bi n a b).size_pos
  have e1:dw (Dc (.bi n a b)).Nodes (IntKind.i64.wrap (((Dc (.bi n a b)).Nodes.length:Int)-1))=some (q5 (.bi n a b) 0):=by
   have hl:(Dc (.bi n a b)).Nodes.length=(Tr.bi n a b).size:=by unfold Dc;rw [Tr.flat_len]
   rw [hl,cA (by omega) (by omega),mp ((Tr.bi n a b).size-1) (by omega)]
   exact BD _ 0
  rw [e1]
  simp only [bC]
  simp only [Tr.size]at hs hf
  by_cases hn:n.Tag=22
  ·have h2:(q5 (.bi n a b) 0).Tag=22:=hn
   rw [bM (by simp [h2])]
   have hA:=yY [] (b.flat (0+a.size)++[gP n (((0+a.size:Nat):Int)-1) (((0+a.size+b.size:Nat):Int)-1)]) a hw.2.1 (by simp [a.flat_len,b.flat_len];omega)
   have hB:=yY (a.flat 0) [gP n (((0+a.size:Nat):Int)-1) (((0+a.size+b.size:Nat):Int)-1)] b hw.2.2 (by simp [a.flat_len,b.flat_len];omega)
   have eA:(⟨[]++a.flat ([]:List bq).length++(b.flat (0+a.size)++[gP n (((0+a.size:Nat):Int)-1) (((0+a.size+b.size:Nat):Int)-1)])⟩:bf)=Dc (.bi n a b):=by
    simp [Dc,Tr.flat]
   have eB:(⟨a.flat 0++b.flat (a.flat 0).length++[gP n (((0+a.size:Nat):Int)-1) (((0+a.size+b.size:Nat):Int)-1)]⟩:bf)=Dc (.bi n a b):=by
    simp [Dc,Tr.flat,a.flat_len]
   rw [eA]at hA
   rw [eB,a.flat_len]at hB
   have rL:(q5 (.bi n a b) 0).L=((([]:List bq).length+a.size:Nat):Int)-1:=rfl
   have rR:(q5 (.bi n a b) 0).R=((a.size+b.size:Nat):Int)-1:=by simp [q5,gP]
   rw [rL,hA,rR,hB]
   simp only [bC]
   rw [iha hw.2.1 (by omega) fu (by omega)]
   simp only [bC]
   rw [ihb hw.2.2 (by omega) fu (by omega)]
   simp only [bC]
   have hsa:=BO a
   have hsb:=BO b
   have hcnt: ∀t:Tr,(s7 t).length≤t.size+1:=fun t=>by have:=BO t;omega
   have:=hcnt a;have:=hcnt b
   rw [cP (by simp;omega),vI,bS hn]
   simp
  ·have h2:(q5 (.bi n a b) 0).Tag≠22:=hn
   rw [bS (by simpa using h2),vI,bM hn];rfl
theorem EQ(hw:t.wf)(hs:t.size≤1000):wh (Dc t)=some ((s7 t).map Dc):=CJ t hw (by omega) cZ (np (by omega))
variable{p:Nat}
theorem MR(e:bf)(left:Int)(hr:gN e.Nodes=true):yA e left=t8 e left∧ ∃p,t8 e left=some p:=by
 have hl:=wb hr
 unfold yA t8
 rw [rW e (by omega),hr]
 simp only [jW,bC]
 by_cases h3:e.Nodes.length=3
 ·obtain⟨a,b,c,habc⟩: ∃a b c,e.Nodes=[a,b,c]:=by
   match e.Nodes,h3 with
   |[a,b,c],_=>exact⟨a,b,c,rfl⟩
  rw [habc]
  have i0:dw [a,b,c] 0=some a:=rfl
  have i1:dw [a,b,c] 1=some b:=rfl
  have i2:dw [a,b,c] 2=some c:=rfl
  simp only [i0,i1,i2,bC]
  unfold rK
  by_cases hc:c.Tag=16
  ·by_cases ha:a.Tag=2
   ·by_cases hb:b.Tag=2
    ·simp [hc,ha,hb]
     by_cases q1:left≤a.Col
     ·by_cases q2:left≤b.Col
      ·have:left≤min a.Col b.Col:=by omega
       simp [q1,q2,this]
      ·have h4:min a.Col b.Col=b.Col:=by omega
       have h5:max a.Col b.Col=a.Col:=by omega
       have h6: ¬(a.Col<left):=by omega
       simp [q1,q2,h4,h5,h6]
     ·by_cases q2:left≤b.Col
      ·have h4:min a.Col b.Col=a.Col:=by omega
       have h5:max a.Col b.Col=b.Col:=by omega
       have h6: ¬(b.Col<left):=by omega
       simp [q1,h4,h5,h6]
      ·have h4:max a.Col b.Col<left:=by omega
       have h5:b.Col<left:=by omega
       simp [q1,h4,h5]
    ·simp [hc,ha,hb]
   ·simp [hc,ha]
  ·simp [hc]
 ·have:((e.Nodes.length:Int) !=3)=true:=by simp;omega
  simp [this]

structure BS(l:bR)(sz:Nat→Nat)(ks:Nat→List Int)(j:Nat)(n:af):Prop where
 node:dw l.Nodes (j:Int)=some n
 op:GQ n.Op=true
 own:zG n=true
 lf:n.Op=1→n.A= -1∧n.B= -1∧sz j=1
 un:n.Op≠1→n.Op≠2→n.Op≠7→0<j∧n.A=(j:Int)-1∧n.B= -1∧sz j=sz (j-1)+1
 bi:n.Op=2∨n.Op=7→0<j∧n.B=(j:Int)-1∧sz (j-1)<j∧n.A=(j:Int)-1-(sz (j-1):Int)∧sz j=sz (j-1-sz (j-1))+sz (j-1)+1
 kinds:cu n (if n.A<0 then []else ks n.A.toNat) (if n.B<0 then []else ks n.B.toNat)=some (ks j,true)
 last:n.Op=8→j+1=l.Nodes.length
 len:(ks j).length≤16
 pos:1≤sz j
 le:sz j≤j+1
theorem Ft(hn:dw l.Nodes (j:Int)=some n)(hj:j<l.Nodes.length)(hl:l.Nodes.length≤1000)(fu:Nat):cI (fu+1) l (j:Int)=
  if n.Op=1 then(if n.A= -1∧n.B= -1 then some 1 else some 0)
  else if n.Op=2∨n.Op=7 then(if n.B=(j:Int)-1 then((cI fu) l n.B).bind (fun r2=>if((decide ((0:Int)<r2))&&(n.A==(IntKind.i64.wrap (n.B-r2))))then(((cI fu) l n.A).bind fun r3=>if(decide ((0:Int)<r3))then(some (IntKind.i64.wrap ((IntKind.i64.wrap (r3+r2))+(1:Int))))else(some (0:Int)))else(some (0:Int)))else some 0)
  else if GQ n.Op=true then(if n.A=(j:Int)-1∧n.B= -1 then((cI fu) l n.A).bind (fun r1=>if(decide ((0:Int)<r1))then(some (IntKind.i64.wrap (r1+(1:Int))))else(some (0:Int)))else some 0)
  else some 0:=by
 conv=>lhs;unfold cI
 rw [bM (by simp;omega),hn]
 simp only [bC,mQ]
 by_cases h1:n.Op=1
 ·simp only [h1,jW]
  rw [bS (by decide)]
  by_cases hAB:n.A= -1∧n.B= -1
  ·rw [bS hAB,bS (by simp [hAB])]
  ·rw [bM hAB,bM (by simpa using hAB)]
 by_cases h27:n.Op=2∨n.Op=7
 ·simp only [h1,h27,jW,ji]
  rw [bM (by decide),bM (by decide),bS (by decide),cA (n:=(j:Int)-1) (by omega) (by omega)]
  by_cases hB:n.B=(j:Int)-1
  ·rw [bS (by simp [hB]),bS hB]
  ·rw [bM (by simpa using hB),bM hB]
 by_cases hop:GQ n.Op=true
 ·simp only [h1,h27,hop,jW,ji]
  rw [bM (by decide),bS (by decide),cA (n:=(j:Int)-1) (by omega) (by omega)]
  by_cases hB:n.A=(j:Int)-1∧n.B= -1
  ·rw [bS (by simp [hB]),bS hB]
  ·rw [bM (by simpa using hB),bM hB]
 ·simp only [h1,h27,hop,ji]
  rw [bM (by decide),bM (by decide),bM (by decide)]
  rfl
theorem AD{s:Int}(hn:dw l.Nodes (j:Int)=some n)(hs:kh l (j:Int)=some s)(hs0:s≠0)(ho:zG n=true)(fu:Nat):cO (fu+1) l (j:Int)=if(decide ((0:Int)≤n.A))then(((cO fu) l n.A).bind fun r4=>if(!r4.2)then(some ([],false))else(eI (cO fu) l (j:Int) n r4.1))else(eI (cO fu) l (j:Int) n ([])):=by
 conv=>lhs;unfold cO
 rw [hs,hn]
 simp only [bC,qA,ho]
 have:(s==0)=false:=by simpa using hs0
 simp [this]
def wY(first:List Int)(j:Nat):Nat:=((j:Int)+1-(first[j]?).getD 0).toNat
def EH(kinds:List (List Int))(j:Nat):List Int:=(kinds[j]?).getD []
theorem JD.at{i:Nat}{first:List Int}{kinds:List (List Int)}(h:JD l i first kinds)(hj:j<i):KS l j ((j:Int)+1-(wY first j:Int)) (EH kinds j) (wY first j)∧first[j]? =some ((j:Int)+1-(wY first j:Int)):=by
 obtain⟨f,k,s,h1,h2,h3⟩:=h.node j hj
 have e1:EH kinds j=k:=by unfold EH;rw [h2];rfl
 have hf:=h3.fst
 have hp:=h3.pos
 have e2:wY first j=s:=by unfold wY;rw [h1];simp only [Option.getD_some];omega
 rw [e1,e2,←hf]
 exact⟨h3,h1⟩
theorem AO{first:List Int}{kinds:List (List Int)}(hI:JD l l.Nodes.length first kinds)(hl:l.Nodes.length≤60)(hj:j<l.Nodes.length): ∃n,BS l (wY first) (EH kinds) j n:=by
 obtain⟨N0,_⟩:=hI.at hj
 have hn:dw l.Nodes (j:Int)=some l.Nodes[j]:=by rw [cQ,q6 hj]
 obtain⟨n,hnn⟩: ∃n,n=l.Nodes[j]:=⟨_,rfl⟩
 rw [←hnn]at hn
 have hpos:=N0.pos
 have hsz:=N0.size (j+3) (by omega)
 rw [Ft hn hj (by omega)]at hsz
 have hnone: ∀{x:Int},x=0→ ¬(some x=some (wY first j:Int)):=by
  intro x hx h
  injection h with h
  omega
 -- the places
 have P:GQ n.Op=true∧(n.Op=1→n.A= -1∧n.B= -1∧wY first j=1)∧(n.Op≠1→n.Op≠2→n.Op≠7→0<j∧n.A=(j:Int)-1∧n.B= -1∧wY first j=wY first (j-1)+1)∧(n.Op=2∨n.Op=7→0<j∧n.B=(j:Int)-1∧wY first (j-1)<j∧n.A=(j:Int)-1-(wY first (j-1):Int)∧wY first j=wY first (j-1-wY first (j-1))+wY first (j-1)+1):=by
  by_cases h1:n.Op=1
  ·rw [bS h1]at hsz
   by_cases hAB:n.A= -1∧n.B= -1
   ·rw [bS hAB]at hsz
    injection hsz with hsz
    exact⟨by rw [h1];rfl,fun _=>⟨hAB.1,hAB.2,by omega⟩,fun h=>absurd h1 h,fun h=>by omega⟩
   ·rw [bM hAB]at hsz;exact absurd hsz (hnone rfl)
  rw [bM h1]at hsz
  by_cases h27:n.Op=2∨n.Op=7
  ·rw [bS h27]at hsz
   by_cases hB:n.B=(j:Int)-1
   ·rw [bS hB]at hsz
    by_cases hj0:j=0
    ·rw [vy l (by omega) (by omega)]at hsz
     exact absurd hsz (hnone rfl)
    ·obtain⟨NB,_⟩:=hI.at (j:=j-1) (by omega)
     have eB:((j-1:Nat):Int)=n.B:=by omega
     have hszB:=NB.size (j+2) (by omega)
     have hpB:=NB.pos
     have hlB:=NB.le
     rw [eB]at hszB
     rw [hszB]at hsz
     simp only [bC]at hsz
     rw [cA (n:=n.B-_) (by omega) (by omega)]at hsz
     by_cases hA:n.A=n.B-(wY first (j-1):Int)
     ·rw [bS (by simp [hA];omega)]at hsz
      by_cases hA0:n.A<0
      ·rw [vy l (by omega) hA0]at hsz
       exact absurd hsz (hnone rfl)
      ·obtain⟨NA,_⟩:=hI.at (j:=j-1-wY first (j-1)) (by omega)
       have eA:((j-1-wY first (j-1):Nat):Int)=n.A:=by omega
       have hszA:=NA.size (j+2) (by omega)
       have hpA:=NA.pos
       have hlA:=NA.le
       rw [eA]at hszA
       rw [hszA]at hsz
       simp only [bC]at hsz
       rw [bS (by simp;omega),cA (n:=(wY first (j-1-wY first (j-1)):Int)+(wY first (j-1):Int)) (by omega) (by omega),cA (by omega) (by omega)]at hsz
       injection hsz with hsz
       refine⟨?_,fun h=>absurd h h1,fun _ h2 h7=>by rcases h27 with h|h;exact absurd h h2;exact absurd h h7,fun _=>⟨by omega,hB,by omega,by omega,by omega⟩⟩
       rcases h27 with h|h<;>rw [h]<;>rfl
     ·rw [bM (by simp;intro _;exact hA)]at hsz
      exact absurd hsz (hnone rfl)
   ·rw [bM hB]at hsz;exact absurd hsz (hnone rfl)
  rw [bM h27]at hsz
  by_cases hop:GQ n.Op=true
  ·rw [bS hop]at hsz
   by_cases hA:n.A=(j:Int)-1∧n.B= -1
   ·rw [bS hA]at hsz
    by_cases hj0:j=0
    ·rw [vy l (by omega) (by omega)]at hsz
     exact absurd hsz (hnone rfl)
    ·obtain⟨NA,_⟩:=hI.at (j:=j-1) (by omega)
     have eA:((j-1:Nat):Int)=n.A:=by omega
     have hszA:=NA.size (j+2) (by omega)
     have hpA:=NA.pos
     have hlA:=NA.le
     rw [eA]at hszA
     rw [hszA]at hsz
     simp only [bC]at hsz
     rw [bS (by simp;omega),cA (by omega) (by omega)]at hsz
     injection hsz with hsz
     exact⟨hop,fun h=>absurd h h1,fun _ _ _=>⟨by omega,hA.1,hA.2,by omega⟩,fun h=>absurd h h27⟩
   ·rw [bM hA]at hsz;exact absurd hsz (hnone rfl)
  ·rw [bM hop]at hsz;exact absurd hsz (hnone rfl)
 obtain⟨p0,p1,p2,p3⟩:=P
 -- what it has of its own, and its kinds
 have hk:=N0.kinds (j+3) (by omega)
 have hszR:kh l (j:Int)=some (wY first j:Int):=N0.size cZ (iF (by omega))
 have ho:zG n=true:=by
  cases ho:zG n with
  |true=>rfl
  |false=>
   exfalso
   unfold cO at hk
   rw [hszR,hn]at hk
   simp only [bC,qA,ho]at hk
   have: ¬(wY first j=0):=by omega
   simp [this]at hk
 have hpl:n.A<(j:Int)∧n.B<(j:Int):=by
  by_cases h1:n.Op=1
  ·obtain⟨a,b,_⟩:=p1 h1;omega
  by_cases h27:n.Op=2∨n.Op=7
  ·obtain⟨a,b,c,d,_⟩:=p3 h27;omega
  ·obtain⟨a,b,c,_⟩:=p2 h1 (fun h=>h27 (.inl h)) (fun h=>h27 (.inr h));omega
 rw [AD hn hszR (by omega) ho]at hk
 have hkA: ∀(p:Int),0≤p→p<(j:Int)→cO (j+2) l p=some (EH kinds p.toNat,true):=by
  intro p hp0 hpj
  obtain⟨NA,_⟩:=hI.at (j:=p.toNat) (by omega)
  have:=NA.kinds (j+2) (by omega)
  rw [show((p.toNat:Nat):Int)=p from by omega]at this
  exact this
 have hk1: ∀a,eI (cO (j+2)) l (j:Int) n a=gz l (j:Int) n a (if n.B<0 then []else EH kinds n.B.toNat):=by
  intro a
  unfold eI
  by_cases hB:0≤n.B
  ·rw [bS (by simpa using hB),hkA n.B hB hpl.2,bM (by omega)]
   rfl
  ·rw [bM (by simpa using hB),bS (by omega)]
 have hk2:gz l (j:Int) n (if n.A<0 then []else EH kinds n.A.toNat) (if n.B<0 then []else EH kinds n.B.toNat)=some (EH kinds j,true):=by
  by_cases hA:0≤n.A
  ·rw [bS (by simpa using hA),hkA n.A hA hpl.1]at hk
   simp only [bC,oh,mA,ji]at hk
   rw [hk1]at hk
   rw [bM (show¬n.A<0 by omega)]
   exact hk
  ·rw [bM (by simpa using hA),hk1]at hk
   rw [bS (show n.A<0 by omega)]
   exact hk
 unfold gz at hk2
 cases hr:cu n (if n.A<0 then []else EH kinds n.A.toNat) (if n.B<0 then []else EH kinds n.B.toNat)with
 |none=>rw [hr]at hk2;cases hk2
 |some r=>
  rw [hr]at hk2
  simp only [bC]at hk2
  split at hk2
  ·simp at hk2
  ·rename_i hc
   injection hk2 with hk2
   injection hk2 with e1 e2
   refine⟨n,hn,p0,ho,p1,p2,p3,?_,fun h8=>?_,N0.len,N0.pos,N0.le⟩
   ·rw [hr,←e1,←e2]
   ·simp only [xa,lH,wJ,uA,q8,not_or,not_and,Decidable.not_not]at hc
    have:=hc.1 h8
    rw [cA (by omega) (by omega)]at this
    omega
variable{ks:Nat→List Int}{sz:Nat→Nat}
theorem Nr{m:Nat}(hl:l.Nodes.length≤60)(hm:m≤l.Nodes.length)(h: ∀j,j<m→ ∃n,BS l sz ks j n): ∀(j:Nat),j<m→(∀fu,j+1<fu→cI fu l (j:Int)=some (sz j:Int))∧ ∀fu,j+1<fu→cO fu l (j:Int)=some (ks j,true):=by
 intro j
 induction j using Nat.strongRecOn with
 |ind j ih=>
  intro hj
  obtain⟨n,F⟩:=h j hj
  have hpl:n.A<(j:Int)∧n.B<(j:Int):=by
   by_cases h1:n.Op=1
   ·obtain⟨a,b,_⟩:=F.lf h1;omega
   by_cases h27:n.Op=2∨n.Op=7
   ·obtain⟨a,b,c,d,_⟩:=F.bi h27;omega
   ·obtain⟨a,b,c,_⟩:=F.un h1 (fun h=>h27 (.inl h)) (fun h=>h27 (.inr h));omega
  have hS: ∀fu,j+1<fu→cI fu l (j:Int)=some (sz j:Int):=by
   intro fu hf
   obtain⟨fu,rfl⟩: ∃k,fu=k+1:=⟨fu-1,by omega⟩
   rw [Ft F.node (by omega) (by omega)]
   by_cases h1:n.Op=1
   ·obtain⟨a,b,c⟩:=F.lf h1
    rw [bS h1,bS ⟨a,b⟩,c];rfl
   rw [bM h1]
   by_cases h27:n.Op=2∨n.Op=7
   ·obtain⟨a,b,c,d,e⟩:=F.bi h27
    obtain⟨nB,FB⟩:=h (j-1) (by omega)
    obtain⟨nA,FA⟩:=h (j-1-sz (j-1)) (by omega)
    have hB:=(ih (j-1) (by omega) (by omega)).1 fu (by omega)
    have hA:=(ih (j-1-sz (j-1)) (by omega) (by omega)).1 fu (by omega)
    rw [show((j-1:Nat):Int)=n.B from by omega]at hB
    rw [show((j-1-sz (j-1):Nat):Int)=n.A from by omega]at hA
    have q1:=FB.pos
    have q2:=FB.le
    have q3:=FA.pos
    have q4:=FA.le
    rw [bS h27,bS b,hB]
    simp only [bC]
    rw [cA (n:=n.B-_) (by omega) (by omega),bS (by simp;omega),hA]
    simp only [bC]
    rw [bS (by simp;omega),cA (n:=(sz (j-1-sz (j-1)):Int)+(sz (j-1):Int)) (by omega) (by omega),cA (by omega) (by omega),e]
    rfl
   ·obtain⟨a,b,c,d⟩:=F.un h1 (fun h=>h27 (.inl h)) (fun h=>h27 (.inr h))
    obtain⟨nA,FA⟩:=h (j-1) (by omega)
    have hA:=(ih (j-1) (by omega) (by omega)).1 fu (by omega)
    rw [show((j-1:Nat):Int)=n.A from by omega]at hA
    have q1:=FA.pos
    have q2:=FA.le
    rw [bM h27,bS F.op,bS ⟨b,c⟩,hA]
    simp only [bC]
    rw [bS (by simp;omega),cA (by omega) (by omega),d]
    rfl
  refine⟨hS,fun fu hf=>?_⟩
  obtain⟨fu,rfl⟩: ∃k,fu=k+1:=⟨fu-1,by omega⟩
  have hszR:kh l (j:Int)=some (sz j:Int):=hS cZ (iF (by omega))
  have hp:=F.pos
  rw [AD F.node hszR (by omega) F.own]
  have hkA: ∀(p:Int),0≤p→p<(j:Int)→cO fu l p=some (ks p.toNat,true):=by
   intro p hp0 hpj
   have:=(ih p.toNat (by omega) (by omega)).2 fu (by omega)
   rw [show((p.toNat:Nat):Int)=p from by omega]at this
   exact this
  have hk1: ∀a,eI (cO fu) l (j:Int) n a=gz l (j:Int) n a (if n.B<0 then []else ks n.B.toNat):=by
   intro a
   unfold eI
   by_cases hB:0≤n.B
   ·rw [bS (by simpa using hB),hkA n.B hB hpl.2,bM (by omega)]
    rfl
   ·rw [bM (by simpa using hB),bS (by omega)]
  have hk2:gz l (j:Int) n (if n.A<0 then []else ks n.A.toNat) (if n.B<0 then []else ks n.B.toNat)=some (ks j,true):=by
   unfold gz
   rw [F.kinds]
   simp only [bC]
   rw [bM]
   have hlen:=F.len
   simp only [xa,lH,wJ,uA,q8,not_or,not_and,Decidable.not_not]
   refine⟨fun h8=>?_,by omega⟩
   have:=F.last h8
   rw [cA (by omega) (by omega)]
   omega
  by_cases hA:0≤n.A
  ·rw [bS (by simpa using hA),hkA n.A hA hpl.1]
   simp only [bC,oh,mA,ji]
   rw [hk1]
   rw [bM (show¬n.A<0 by omega)]at hk2
   exact hk2
  ·rw [bM (by simpa using hA),hk1]
   rw [bS (show n.A<0 by omega)]at hk2
   exact hk2
theorem I3(hl:l.Nodes.length≤60)(hp:1≤l.Nodes.length)(h: ∀j,j<l.Nodes.length→ ∃n,BS l sz ks j n)(hw:sz (l.Nodes.length-1)=l.Nodes.length):sQ l=true:=by
 have H:=Nr hl (eW _) h
 unfold sQ qh
 rw [bM (by simp;omega)]
 have key: ∀(tl:List af) (i:Nat),l.Nodes.drop i=tl→i+tl.length=l.Nodes.length→fj l tl i=some (-1):=by
  intro tl
  induction tl with
  |nil=>
   intro i _ _
   unfold fj
   have:=(H (l.Nodes.length-1) (by omega)).1 cZ (iF (by omega))
   rw [cA (by omega) (by omega),show(l.Nodes.length:Int)-1=((l.Nodes.length-1:Nat):Int)from by omega]
   unfold kh
   rw [this,hw]
   simp
  |cons n tl ih=>
   intro i hd hi
   simp only [iR]at hi
   obtain⟨_,h2,h3⟩:=ie hd
   unfold fj lM
   rw [(H i h2).2 cZ (iF (by omega))]
   simp only [bC,oh,mA,ji]
   exact ih (i+1) h3 (by omega)
 rw [key l.Nodes 0 rfl (by simp)]
 rfl

theorem sF{e:bf}{kinds:List Int}(h:(mU e kinds).2=0):gN e.Nodes=true:=by
 unfold mU at h
 cases hr:gN e.Nodes with
 |true=>rfl
 |false=>rw [hr]at h;simp at h
theorem zp{e:bf}{kinds:List Int}(h:JP e kinds=true):gN e.Nodes=true:=by
 unfold JP at h
 simp only [lH,wJ]at h
 exact sF h.1
theorem NJ{g:ip}{kinds:List Int}(h:(KM g kinds).2=true)(hp:0<g.Arg.Nodes.length):gN g.Arg.Nodes=true:=by
 rw [←(Ht g kinds).1]at h
 unfold NK at h
 by_cases h1:g.Tag=1
 ·rw [bS h1]at h
  simp at h
  rw [h]at hp;simp at hp
 rw [bM h1]at h
 by_cases h2:g.Tag=2
 ·rw [bS h2]at h;exact sF (by simpa using h)
 rw [bM h2]at h
 by_cases h3:g.Tag=3
 ·rw [bS h3]at h
  simp only [lH,wJ]at h
  exact sF h.1
 rw [bM h3]at h
 by_cases h4:g.Tag=4∨g.Tag=5
 ·rw [bS h4]at h;exact sF (by simpa using h)
 ·rw [bM h4]at h;cases h
theorem OW(n:af)(a:List Int): ∀(tl:List bf) (i fu:Nat) (out:List Int) (ok:Bool) (k:List Int),n.Items.drop i=tl→n.Items.length≤5000→fi n a fu out ok (i:Int)=some (k,true)→ok=true∧ ∀e∈tl,gN e.Nodes=true:=by
 intro tl
 induction tl with
 |nil=>
  intro i fu out ok k hd hl h
  cases fu with
  |zero=>cases h
  |succ fu=>
   have:=AQ hd
   rw [fi,bM (by simp;omega)]at h
   injection h with h
   injection h with _ h
   simp only [lH]at h
   exact⟨h.1.1,by simp⟩
 |cons x tl ih=>
  intro i fu out ok k hd hl h
  cases fu with
  |zero=>cases h
  |succ fu=>
   obtain⟨h1,h2,h3⟩:=ie hd
   rw [fi,bS (by simp;omega),h1]at h
   simp only [bC,pD]at h
   cases ha:kq out [(mU x a).1]with
   |none=>rw [ha]at h;cases h
   |some o=>
    rw [ha]at h
    simp only [bC]at h
    rw [cA (by omega) (by omega),show((i:Int)+1)=((i+1:Nat):Int)from by omega]at h
    obtain⟨g1,g2⟩:=ih (i+1) fu o _ k h3 hl h
    simp only [lH,wJ]at g1
    exact⟨g1.1,fun e he=>by
     rcases jl.1 he with rfl|he
     ·exact sF g1.2
     ·exact g2 e he⟩
theorem OX(n:af)(a:List Int): ∀(tl:List ip) (i fu:Nat) (out:List Int) (ok:Bool) (k:List Int),n.Aggs.drop i=tl→n.Aggs.length≤5000→dK n a fu out ok (i:Int)=some (k,true)→ok=true∧ ∀g∈tl,0<g.Arg.Nodes.length→gN g.Arg.Nodes=true:=by
 intro tl
 induction tl with
 |nil=>
  intro i fu out ok k hd hl h
  cases fu with
  |zero=>cases h
  |succ fu=>
   have:=AQ hd
   rw [dK,bM (by simp;omega)]at h
   injection h with h
   injection h with _ h
   simp only [lH]at h
   exact⟨h.1.1.1,by simp⟩
 |cons x tl ih=>
  intro i fu out ok k hd hl h
  cases fu with
  |zero=>cases h
  |succ fu=>
   obtain⟨h1,h2,h3⟩:=ie hd
   rw [dK,bS (by simp;omega),h1]at h
   simp only [bC,tZ]at h
   cases ha:kq out [(KM x a).1]with
   |none=>rw [ha]at h;cases h
   |some o=>
    rw [ha]at h
    simp only [bC]at h
    rw [cA (by omega) (by omega),show((i:Int)+1)=((i+1:Nat):Int)from by omega]at h
    obtain⟨g1,g2⟩:=ih (i+1) fu o _ k h3 hl h
    simp only [lH]at g1
    exact⟨g1.1,fun g hg=>by
     rcases jl.1 hg with rfl|hg
     ·exact NJ g1.2
     ·exact g2 g hg⟩
theorem OY(n:af)(a:List Int): ∀(tl:List Int) (i fu:Nat) (out:List Int) (k:List Int),n.Keys.drop i=tl→n.Keys.length≤5000→dY n a fu out (i:Int)=some (k,true)→ ∃o,dK n a cZ o true 0=some (k,true):=by
 intro tl
 induction tl with
 |nil=>
  intro i fu out k hd hl h
  cases fu with
  |zero=>cases h
  |succ fu=>
   have:=AQ hd
   rw [dY,bM (by simp;omega)]at h
   exact⟨_,h⟩
 |cons x tl ih=>
  intro i fu out k hd hl h
  cases fu with
  |zero=>cases h
  |succ fu=>
   obtain⟨h1,h2,h3⟩:=ie hd
   rw [dY,bS (by simp;omega),h1]at h
   simp only [bC]at h
   split at h
   ·simp at h
   ·cases hx:dw a x with
    |none=>rw [hx]at h;cases h
    |some y=>
     rw [hx]at h
     simp only [bC]at h
     cases ha:kq out [y]with
     |none=>rw [ha]at h;cases h
     |some o=>
      rw [ha]at h
      simp only [bC]at h
      rw [cA (by omega) (by omega),show((i:Int)+1)=((i+1:Nat):Int)from by omega]at h
      exact ih (i+1) fu o k h3 hl h
structure Mq(n:af):Prop where
 cond:0<n.Cond.Nodes.length→gN n.Cond.Nodes=true
 items: ∀e∈n.Items,0<e.Nodes.length→gN e.Nodes=true
 args: ∀g∈n.Aggs,0<g.Arg.Nodes.length→gN g.Arg.Nodes=true
theorem OH(h:zG n=true):(n.Op≠2→n.Op≠3→n.Cond.Nodes.length=0)∧(n.Op≠4→n.Aggs.length=0)∧(n.Op≠5→n.Items.length=0):=by
 have e:=qA n
 rw [h]at e
 unfold rd at e
 split at e
 ·simp at e
 ·split at e
  ·simp at e
  ·split at e
   ·simp at e
   ·rename_i h1 h2 h3
    simp only [xa,lH,uA,q8,not_or,not_and]at h1 h2 h3
    refine⟨fun a b=>?_,fun a=>?_,fun a=>?_⟩
    ·have:=h2.2 ⟨a,b⟩;omega
    ·have:=(h3.1 a).2;omega
    ·have:=h3.2 a;omega
theorem PH{a b k:List Int}(hs:ku n)(hop:GQ n.Op=true)(ho:zG n=true)(h:cu n a b=some (k,true)):Mq n:=by
 obtain⟨o1,o2,o3⟩:=OH ho
 have hnil: ∀{α:Type} {l:List α} {p:α→Prop},l.length=0→ ∀x∈l,p x:=by
  intro α l p hl x hx
  rw [vv hl]at hx;cases hx
 unfold cu at h
 rcases tK hop with c|c|c|c|c|c|c|c
 ·exact⟨fun hp=>by have:=o1 (by omega) (by omega);omega,hnil (o3 (by omega)),hnil (o2 (by omega))⟩
 ·rw [bM (by simp [c]),bS (by simp [c])]at h
  refine⟨fun _=>?_,hnil (o3 (by omega)),hnil (o2 (by omega))⟩
  cases h1:kq ([]:List Int) a with
  |none=>rw [h1]at h;cases h
  |some l1=>
   rw [h1]at h
   simp only [bC]at h
   cases h2:kq l1 b with
   |none=>rw [h2]at h;cases h
   |some l2=>
    rw [h2]at h
    simp only [bC,oB]at h
    injection h with h
    injection h with _ h
    exact zp h
 ·rw [bM (by simp [c]),bM (by simp [c]),bS (by simp [c])]at h
  refine⟨fun _=>?_,hnil (o3 (by omega)),hnil (o2 (by omega))⟩
  simp only [bC,oB]at h
  injection h with h
  injection h with _ h
  exact zp h
 ·rw [bM (by simp [c]),bM (by simp [c]),bM (by simp [c]),bS (by simp [c])]at h
  obtain⟨o,h'⟩:=OY n a n.Keys 0 cZ [] k rfl hs.keys h
  exact⟨fun hp=>by have:=o1 (by omega) (by omega);omega,hnil (o3 (by omega)),(OX n a n.Aggs 0 cZ o true k rfl hs.aggs h').2⟩
 ·rw [bM (by simp [c]),bM (by simp [c]),bM (by simp [c]),bM (by simp [c]),bS (by simp [c])]at h
  exact⟨fun hp=>by have:=o1 (by omega) (by omega);omega,fun e he _=>(OW n a n.Items 0 cZ [] true k rfl hs.items h).2 e he,hnil (o2 (by omega))⟩
 ·exact⟨fun hp=>by have:=o1 (by omega) (by omega);omega,hnil (o3 (by omega)),hnil (o2 (by omega))⟩
 ·exact⟨fun hp=>by have:=o1 (by omega) (by omega);omega,hnil (o3 (by omega)),hnil (o2 (by omega))⟩
 ·exact⟨fun hp=>by have:=o1 (by omega) (by omega);omega,hnil (o3 (by omega)),hnil (o2 (by omega))⟩

theorem Oo{a b k:List Int}(hs:ku n)(h1:n.Op=1)(h:cu n a b=some (k,true)):0≤n.Table∧n.Table≤3:=by
 obtain⟨k1,o,k',g1,g2,_⟩:=Fy default n a b hs h1
 rw [h]at g2
 injection g2 with g2
 injection g2 with _ g2
 subst g2
 unfold gB at g1
 split at g1
 ·rename_i hc
  simp only [lH,q8]at hc
  omega
 ·simp at g1
def xE(l:bR)(e p:Nat):bR:=⟨((l.Nodes.take (p+1)).drop e).map (uy (-(e:Int)))⟩
theorem wl{e:Nat}(hp:p<l.Nodes.length):(xE l e p).Nodes.length=p+1-e:=by
 unfold xE;simp;omega
theorem Av(h:p9 l)(e p:Nat):p9 (xE l e p):=
 QU fun n hn=>h n (List.mem_of_mem_take (List.mem_of_mem_drop hn))
theorem KR(hS:p9 l)(hl:l.Nodes.length≤60){e:Nat}(hp:p<l.Nodes.length)(he:e≤100): ∀(tl:List af) (i fu:Nat) (out:bR),(l.Nodes.take (p+1)).drop i=tl→i+tl.length=p+1→tl.length<fu→out.Nodes.length≤i→nT l (p:Int) (e:Int) fu (i:Int) out=some (⟨out.Nodes++tl.map (uy (-(e:Int)))⟩,0):=by
 intro tl
 induction tl with
 |nil=>
  intro i fu out hd hi hf _
  obtain⟨fu,rfl⟩: ∃k,fu=k+1:=⟨fu-1,by omega⟩
  simp only [sN,yD]at hi
  rw [nT,bM (by simp;omega)]
  simp
 |cons x tl ih=>
  intro i fu out hd hi hf ho
  simp only [iR]at hi hf
  obtain⟨fu,rfl⟩: ∃k,fu=k+1:=⟨fu-1,by omega⟩
  obtain⟨h1,h2,h3⟩:=ie hd
  have h1' :dw l.Nodes (i:Int)=some x:=by
   rw [cQ]at h1 ⊢
   rw [Bg (by omega)]at h1
   exact h1
  have hx:ku x:=hS x (by rw [cQ]at h1';exact ta h1')
  rw [nT,bS (by simp;omega),h1']
  simp only [bC]
  rw [cA (n:=(0:Int)-(e:Int)) (by omega) (by omega),CN hx]
  simp only [bC]
  rw [cP (by simp;omega),cA (by omega) (by omega),show((i:Int)+1)=((i+1:Nat):Int)from by omega]
  simp only [bC]
  rw [ih (i+1) fu _ h3 (by omega) (by omega) (by simp;omega)]
  simp
theorem IF(hS:p9 l){ob:aG}(hL:EB l ob): ∀n∈l.Nodes,Mq n∧(n.Op=1→0≤n.Table∧n.Table≤3):=by
 intro n hn
 obtain⟨j,hj,rfl⟩:=List.mem_iff_getElem.1 hn
 obtain⟨m,F⟩:=AO hL.inv hL.le hj
 have hm:m=l.Nodes[j]:=by
  have:=F.node
  rw [cQ,q6 hj]at this
  injection this with this
  exact this.symm
 subst hm
 exact⟨PH (hS _ hn) F.op F.own F.kinds,fun h1=>Oo (hS _ hn) h1 F.kinds⟩

theorem IR(n:af)(d:Int): ∀(fu:Nat) (ok:Bool) (i:Int),fT (uy d n) fu ok i=fT n fu ok i:=by
 intro fu
 induction fu with
 |zero=>intros;rfl
 |succ fu ih=>intros;simp only [fT,ih];rfl
theorem IP(n:af)(d:Int)(a:List Int): ∀(fu:Nat) (out:List Int) (ok:Bool) (i:Int),dK (uy d n) a fu out ok i=dK n a fu out ok i:=by
 intro fu
 induction fu with
 |zero=>intros;rfl
 |succ fu ih=>intros;simp only [dK,ih];rfl
theorem IQ(n:af)(d:Int)(a:List Int): ∀(fu:Nat) (out:List Int) (i:Int),dY (uy d n) a fu out i=dY n a fu out i:=by
 intro fu
 induction fu with
 |zero=>intros;rfl
 |succ fu ih=>intros;simp only [dY,ih,IP];rfl
theorem IN(n:af)(d:Int)(a:List Int): ∀(fu:Nat) (out:List Int) (ok:Bool) (i:Int),fi (uy d n) a fu out ok i=fi n a fu out ok i:=by
 intro fu
 induction fu with
 |zero=>intros;rfl
 |succ fu ih=>intros;simp only [fi,ih];rfl
theorem IM(n:af)(d:Int)(a:List Int): ∀(fu:Nat) (ok:Bool) (i:Int),fS (uy d n) a fu ok i=fS n a fu ok i:=by
 intro fu
 induction fu with
 |zero=>intros;rfl
 |succ fu ih=>intros;simp only [fS,ih];rfl
theorem IL(n:af)(d:Int)(a b:List Int):cu (uy d n) a b=cu n a b:=by
 unfold cu
 simp only [IR,IQ,IN,IM]
 rfl
theorem QM(n:af)(d:Int):zG (uy d n)=zG n:=rfl
section
abbrev CW(l:bR)(sz:Nat→Nat)(ks:Nat→List Int):Prop:= ∀j,j<l.Nodes.length→ ∃n,BS l sz ks j n
theorem VQ(H:CW l sz ks): ∀(p:Nat),p<l.Nodes.length→ ∀q,p+1-sz p≤q→q≤p→p+1-sz p≤q+1-sz q:=by
 intro p
 induction p using Nat.strongRecOn with
 |ind p ih=>
  intro hp q h1 h2
  by_cases hq:q=p
  ·subst hq;exact eW _
  obtain⟨n,F⟩:=H p hp
  by_cases c1:n.Op=1
  ·obtain⟨_,_,e⟩:=F.lf c1
   omega
  by_cases c27:n.Op=2∨n.Op=7
  ·obtain⟨a,b,c,d,e⟩:=F.bi c27
   obtain⟨nA,FA⟩:=H (p-1-sz (p-1)) (by omega)
   have hpA:=FA.pos
   have hlA:=FA.le
   by_cases hB:p-1+1-sz (p-1)≤q
   ·have:=ih (p-1) (by omega) (by omega) q hB (by omega)
    omega
   ·have:=ih (p-1-sz (p-1)) (by omega) (by omega) q (by omega) (by omega)
    omega
  ·obtain⟨a,b,c,d⟩:=F.un c1 (fun h=>c27 (.inl h)) (fun h=>c27 (.inr h))
   have:=ih (p-1) (by omega) (by omega) q (by omega) (by omega)
   omega
theorem TZ(H:CW l sz ks){i:Nat}(hp:p<l.Nodes.length)(h1:p+1-sz p≤i)(h2:i≤p)(F:BS l sz ks i n):(n.A= -1∨((p+1-sz p:Nat):Int)≤n.A∧n.A<(i:Int))∧(n.B= -1∨((p+1-sz p:Nat):Int)≤n.B∧n.B<(i:Int)):=by
 have hn:=VQ H p hp i h1 h2
 by_cases c1:n.Op=1
 ·obtain⟨a,b,_⟩:=F.lf c1
  exact⟨.inl a,.inl b⟩
 by_cases c27:n.Op=2∨n.Op=7
 ·obtain⟨a,b,c,d,e⟩:=F.bi c27
  obtain⟨nA,FA⟩:=H (i-1-sz (i-1)) (by omega)
  have hpA:=FA.pos
  have hlA:=FA.le
  exact⟨.inr (by omega),.inr (by omega)⟩
 ·obtain⟨a,b,c,d⟩:=F.un c1 (fun h=>c27 (.inl h)) (fun h=>c27 (.inr h))
  obtain⟨nA,FA⟩:=H (i-1) (by omega)
  have hpA:=FA.pos
  exact⟨.inr (by omega),.inl c⟩
theorem Ai{d:Int}(h:x= -1):xp d x= -1:=by unfold xp;rw [bM (by omega),h]
theorem GB{e:Int}(h:0≤e)(h2:e≤x)(h3:x≤100000):xp (-e) x=x-e:=by
 unfold xp
 rw [bS (by omega),cA (by omega) (by omega)]
 omega
theorem D2(H:CW l sz ks)(hl:l.Nodes.length≤60)(hp:p<l.Nodes.length)(hs:sz p≤p+1):CW (xE l (p+1-sz p) p) (fun j=>sz (p+1-sz p+j)) (fun j=>ks (p+1-sz p+j)):=by
 obtain⟨e,he⟩: ∃e,e=p+1-sz p:=⟨_,rfl⟩
 rw [←he]
 intro j hj
 rw [wl hp]at hj
 obtain⟨n,F⟩:=H (e+j) (by omega)
 have hin:=TZ H hp (i:=e+j) (by omega) (by omega) F
 have hnest:=VQ H p hp (e+j) (by omega) (by omega)
 rw [←he]at hin hnest
 obtain⟨hA,hB⟩:=hin
 refine⟨uy (-(e:Int)) n,⟨?_,F.op,by rw [QM];exact F.own,fun c1=>?_,fun c1 c2 c7=>?_,fun c27=>?_,?_,fun c8=>?_,F.len,F.pos,?_⟩⟩
 ·have h1:=F.node
  rw [cQ]at h1 ⊢
  unfold xE
  simp only
  rw [B2,xb,Bg (by omega),h1]
  rfl
 ·obtain⟨a,b,c⟩:=F.lf c1
  exact⟨Ai a,Ai b,c⟩
 ·obtain⟨a,b,c,d⟩:=F.un c1 c2 c7
  obtain⟨nA,FA⟩:=H (e+j-1) (by omega)
  have hpA:=FA.pos
  have eA:xp (-(e:Int)) n.A=n.A-(e:Int):=GB (by omega) (by omega) (by omega)
  refine⟨by omega,?_,Ai c,?_⟩
  ·show xp (-(e:Int)) n.A=_
   rw [eA];omega
  ·show sz (e+j)=sz (e+(j-1))+1
   rw [d,show e+j-1=e+(j-1)from by omega]
 ·obtain⟨a,b,c,d,g⟩:=F.bi c27
  obtain⟨nA,FA⟩:=H (e+j-1-sz (e+j-1)) (by omega)
  have hpA:=FA.pos
  have eA:xp (-(e:Int)) n.A=n.A-(e:Int):=GB (by omega) (by omega) (by omega)
  have eB:xp (-(e:Int)) n.B=n.B-(e:Int):=GB (by omega) (by omega) (by omega)
  have ej:e+(j-1)=e+j-1:=by omega
  refine⟨by omega,?_,?_,?_,?_⟩
  ·show xp (-(e:Int)) n.B=_
   rw [eB];omega
  ·show sz (e+(j-1))<j
   rw [ej];omega
  ·show xp (-(e:Int)) n.A=(j:Int)-1-(sz (e+(j-1)):Int)
   rw [eA,ej];omega
  ·show sz (e+j)=sz (e+(j-1-sz (e+(j-1))))+sz (e+(j-1))+1
   rw [ej,g,show e+(j-1-sz (e+j-1))=e+j-1-sz (e+j-1)from by omega]
 ·rw [IL]
  have key: ∀x:Int,(x= -1∨(e:Int)≤x∧x<((e+j:Nat):Int))→(if xp (-(e:Int)) x<0 then([]:List Int)else ks (e+(xp (-(e:Int)) x).toNat))=if x<0 then []else ks x.toNat:=by
   intro x hx
   rcases hx with hx|hx
   ·rw [Ai hx,bS (by decide),bS (by omega)]
   ·rw [GB (by omega) hx.1 (by omega),bM (by omega),bM (by omega)]
    congr 1
    omega
  have h1:=F.kinds
  rw [←key n.A hA,←key n.B hB]at h1
  exact h1
 ·have:=F.last c8
  rw [wl hp]
  omega
 ·show sz (e+j)≤j+1
  have:=F.le
  omega
theorem Kb(H:CW l sz ks)(hl:l.Nodes.length≤60)(hp:p<l.Nodes.length)(hs:sz p≤p+1)(hs1:1≤sz p):sQ (xE l (p+1-sz p) p)=true:=by
 have hlen:=wl (l:=l) (e:=p+1-sz p) hp
 refine I3 (by rw [hlen];omega) (by rw [hlen];omega) (D2 H hl hp hs) ?_
 rw [hlen]
 show sz (p+1-sz p+(p+1-(p+1-sz p)-1))=_
 rw [show p+1-sz p+(p+1-(p+1-sz p)-1)=p from by omega]
 omega
end
end Go.Proofs.YtnmjbolollcokaaGreatDoor

