/- cR of this claim: M1, M2, M3, M4, M5, M6, M7, M8, M9, L8, L9, L10, L11. -/
import Derived.Test.YtnmjbolollcokaaGreatDoorRcQ2
set_option linter.all false
namespace Go.Proofs.YtnmjbolollcokaaGreatDoor
open Go

def zV:cB:=⟨0,0,0,[]⟩
def bV(b:Bool):cB:=⟨1,if b then 1 else 0,0,[]⟩
def iV(n:Int):cB:=⟨2,n,0,[]⟩
def sV(s:gV):cB:=⟨3,0,0,s⟩
def r64(n:Int):Prop:= -9223372036854775808≤n∧n≤9223372036854775807
inductive Pl:cB→Prop
 |z:Pl zV
 |b (b:Bool):Pl (bV b)
 |i (n:Int) (h:r64 n):Pl (iV n)
 |s (s:gV) (h:s.length≤40):Pl (sV s)
inductive Tu:cB→Prop
 |z:Tu zV
 |b (b:Bool):Tu (bV b)
def tn(v:cB):Int:=if v.Kind=0 then 1 else 2*v.N
def tv(n:Int):cB:=if n=0 then bV false else if n=1 then zV else bV true
def Wl(a b:cB):cB:=tv (min (tn a) (tn b))



variable{α:Type}
theorem OW(f:α→α)(xs:List α)(i:Nat)(h:i<xs.length):((xs.take i).map f++xs.drop i).set i (f xs[i])=(xs.take (i+1)).map f++xs.drop (i+1):=by
 rw [Ge _ _ (by simp;omega)]
 have e:i-((xs.take i).map f).length=0:=by simp;omega
 rw [e,pW h,List.set_cons_zero,KR h,An]
 simp
theorem Pm(f:α→α)(xs:List α)(i:Nat)(h:i<xs.length):cK ((xs.take i).map f++xs.drop i) (i:Int)=some xs[i]:=by
 rw [cg,o5 (by simp;omega)]
 have e:i-((xs.take i).map f).length=0:=by simp;omega
 rw [e,ve]
 simp [h]

variable{l:bK}{n:M}
theorem FM(e:aT)(h:e.Nodes.length≤50000):qZ e=some (fv e.Nodes&& !(e.Nodes.any Qs)):=by
 unfold qZ
 rw [pS e (by omega)]
 cases fv e.Nodes with
 |false=>rfl
 |true=>
  simp only [iE,be]
  rw [bm (by decide)]
  have key: ∀(l:List aU),dx l qp=some (l.any Qs):=by
   intro l
   unfold dx fQ
   have h2: ∀(l:List aU) (i:Nat),∃z:Int,cM qp l i=some z∧(0≤z↔l.any Qs=true):=by
    intro l
    induction l with
    |nil=>intro i;exact⟨-1,rfl,by simp⟩
    |cons n l ih=>
     intro i
     unfold cM
     have e1:qp n=some (Qs n):=rfl
     rw [e1]
     simp only [be]
     cases hb:Qs n with
     |true=>exact⟨(i:Int),by simp,by simp [hb]⟩
     |false=>
      obtain⟨z,h3,h4⟩:=ih (i+1)
      exact⟨z,by simpa using h3,by simpa [hb] using h4⟩
   obtain⟨z,h3,h4⟩:=h2 l 0
   rw [h3]
   simp only [be]
   congr 1
   rw [wM,←h4];simp
  rw [key];rfl

def sh(s:Nat)(x:Int):Int:=if 0≤x then x+(s:Int)else x
def BB(t:Tr):aT:=⟨t.flat 0⟩
theorem Ju(l:List aU)(h:l.length≤1000000):bC l=some l:=by
 unfold bC
 rw [ca (by simp;omega)]
 simp
variable{t:Tr}
theorem GP(hw:t.wf)(hs:t.size≤1000):fv (t.flat 0)=true:=by unfold fv;rw [As hw hs];rfl

def qC:Tr→List Tr
 | .lf n=>[.lf n]
 | .un n a=>[.un n a]
 | .bi n a b=>if n.Tag=22 then qC a++qC b else [.bi n a b]
theorem tQ(n:aU)(a b:Tr):qC (.bi n a b)=if n.Tag=22 then qC a++qC b else [.bi n a b]:=rfl
def us(s:Nat)(x:Int):Int:=if 0≤x then x-(s:Int)else x
def zI(s:Nat)(n:aU):aU:=fD n (us s n.L) (us s n.R)
variable{k:Nat}
theorem Gn(k:Nat)(n:aU)(l r:Int):zI k (fD n l r)=fD n (us k l) (us k r):=rfl
variable{x:Int}
theorem BT(h:0≤x):us k x=x-(k:Int):=bm h
theorem Rx(k:Nat):us k (-1)= -1:=rfl
theorem Kg(t:Tr)(k:Nat): ∀s,(t.flat (s+k)).map (zI k)=t.flat s:=by
 induction t with
 |lf m=>intro s;rfl
 |un m a ih=>
  intro s
  have:=a.size_pos
  simp only [Tr.flat,An,ih,wL,yg,Gn,Rx]
  rw [BT (by omega),show((s+k+a.size:Nat):Int)-1-(k:Int)=((s+a.size:Nat):Int)-1 from by omega]
 |bi m a b iha ihb=>
  intro s
  have:=a.size_pos
  have:=b.size_pos
  have hb:=ihb (s+a.size)
  rw [show s+a.size+k=s+k+a.size from by omega]at hb
  simp only [Tr.flat,An,iha,hb,wL,yg,Gn]
  rw [BT (by omega),BT (by omega),show((s+k+a.size:Nat):Int)-1-(k:Int)=((s+a.size:Nat):Int)-1 from by omega,show((s+k+a.size+b.size:Nat):Int)-1-(k:Int)=((s+a.size+b.size:Nat):Int)-1 from by omega]
def SU(n:aU):Prop:= -1000000≤n.L∧n.L≤1000000∧ -1000000≤n.R∧n.R≤1000000
theorem El(t:Tr): ∀s,s+t.size≤1000000→ ∀n∈t.flat s,SU n:=by
 induction t with
 |lf m=>intro s _ n hn;simp only [Tr.flat,t7]at hn;subst hn;refine⟨?_,?_,?_,?_⟩<;>simp [fD]
 |un m a ih=>
  intro s hs n hn
  simp only [Tr.size]at hs
  simp only [Tr.flat,xj,t7]at hn
  rcases hn with hn|rfl
  ·exact ih s (by omega) n hn
  ·refine⟨?_,?_,?_,?_⟩<;>simp only [fD]<;>omega
 |bi m a b iha ihb=>
  intro s hs n hn
  simp only [Tr.size]at hs
  simp only [Tr.flat,xj,t7]at hn
  rcases hn with(hn|hn)|rfl
  ·exact iha s (by omega) n hn
  ·exact ihb _ (by omega) n hn
  ·refine⟨?_,?_,?_,?_⟩<;>simp only [fD]<;>omega
variable{j:Nat}
theorem CX(nx:List aT→List Int→Option (List aT))(out:List aT)(ho:out.length≤100000)(y:List Int)(k:Nat)(hk:k≤1000000)(xs:List aU)(hb: ∀n∈xs,SU n): ∀(tl:List aU) (i:Nat),xs.drop i=tl→
  iT nx out y (k:Int) tl i ⟨(xs.take i).map (zI k)++xs.drop i⟩=nx (out++[⟨xs.map (zI k)⟩]) y
 |[],i,h=>by
  have:=ye.1 h
  unfold iT
  rw [ca (by simp;omega)]
  unfold oM
  rw [h,yb,pV this]
  rfl
 |e::tl,i,h=>by
  have hi:i<xs.length:=by
   rcases jM i xs.length with q|q
   ·exact q
   ·rw [zD q]at h;cases h
  obtain⟨b1,b2,b3,b4⟩:=hb xs[i] (List.getElem_mem hi)
  have hd:xs.drop (i+1)=tl:=by rw [←sR,h];rfl
  have ih:=CX nx out ho y k hk xs hb tl (i+1) hd
  have hs:=OW (zI k) xs i hi
  have hx:=Pm (zI k) xs i hi
  unfold iT
  dsimp only
  rw [hx]
  simp only [be]
  have hk2: ∀(m:aU),m.Tag=xs[i].Tag→m.Col=xs[i].Col→m.Value=xs[i].Value→m.R=xs[i].R→m.L=us k xs[i].L→ ∀zs:List aU,zs[i]? =some m→zs.set i (zI k xs[i])=(xs.take (i+1)).map (zI k)++xs.drop (i+1)→
    oL (k:Int) (iT nx out y (k:Int) tl) i ⟨zs⟩=nx (out++[⟨xs.map (zI k)⟩]) y:=by
   intro m h1 h2 h3 h4 h5 zs hz hset
   unfold oL
   dsimp only
   rw [cg,hz]
   simp only [be]
   by_cases hR:0≤m.R
   ·rw [bm (by simpa using hR)]
    have hm:({m with R:=IntKind.i64.wrap (m.R-(k:Int))}:aU)=zI k xs[i]:=by
     rw [bP (by omega) (by omega)]
     obtain⟨mt,ml,mr,mc,mv⟩:=m
     simp only at h1 h2 h3 h4 h5 hR
     subst h1 h2 h3 h4 h5
     simp only [zI,fD,BT hR]
    rw [hm,wN,hset]
    exact ih
   ·rw [bg (by simpa using hR)]
    have hm:m=zI k xs[i]:=by
     obtain⟨mt,ml,mr,mc,mv⟩:=m
     simp only at h1 h2 h3 h4 h5 hR
     subst h1 h2 h3 h4 h5
     simp only [zI,fD,us,bg hR]
    have e1:zs.set i (zI k xs[i])=zs:=by
     rw [←hm]
     apply Dv
     intro j
     by_cases hj:j=i
     ·subst hj
      have hlt:=(oT.1 hz).1
      rw [List.getElem?_set_self hlt,hz]
     ·rw [List.getElem?_set_ne (by omega)]
    rw [←e1,hset]
    exact ih
  have hzi:((xs.take i).map (zI k)++xs.drop i)[i]? =some xs[i]:=by rw [←cg];exact hx
  have hlen:i<((xs.take i).map (zI k)++xs.drop i).length:=(oT.1 hzi).1
  by_cases hL:0≤xs[i].L
  ·rw [bm (by simpa using hL),wN]
   refine hk2 ({xs[i]with L:=IntKind.i64.wrap (xs[i].L-(k:Int))}:aU) rfl rfl rfl rfl (by show IntKind.i64.wrap (xs[i].L-(k:Int))=_;rw [bP (by omega) (by omega),BT hL]) _ (by rw [List.getElem?_set_self hlen]) ?_
   rw [List.set_set];exact hs
  ·rw [bg (by simpa using hL)]
   exact hk2 xs[i] rfl rfl rfl rfl (by simp only [us,bg hL]) _ hzi hs
def xK(N:List aU)(all:List Int)(su:Nat×Tr):Prop:=su.2.wf∧su.1+su.2.size≤N.length∧(N.drop su.1).take su.2.size=su.2.flat su.1∧(all.drop su.1).take su.2.size=fl su.2 su.1
def GM(su:Nat×Tr):Int:=((su.1+su.2.size:Nat):Int)-1
def oZ:Tr→Nat→aU
 | .lf n,_=>fD n (-1) (-1)
 | .un n a,s=>fD n (((s+a.size:Nat):Int)-1) (-1)
 | .bi n a b,s=>fD n (((s+a.size:Nat):Int)-1) (((s+a.size+b.size:Nat):Int)-1)
theorem zZ(t:Tr)(s:Nat):(t.flat s)[t.size-1]? =some (oZ t s):=by
 cases t with
 |lf n=>rfl
 |un n a=>
  simp only [Tr.flat,Tr.size,oZ]
  rw [o5 (by rw [a.flat_len];omega),a.flat_len]
  simp
 |bi n a b=>
  simp only [Tr.flat,Tr.size,oZ]
  rw [o5 (by simp [a.flat_len,b.flat_len]),jA,a.flat_len,b.flat_len]
  simp
theorem G2{N xs:List α}{s:Nat}(h:(N.drop s).take k=xs)(hj:j<k):N[s+j]? =xs[j]? :=by
 rw [←h,zE hj,ve]
theorem GZ{N:List aU}{all:List Int}{su:Nat×Tr}(h:xK N all su):cK N (GM su)=some (oZ su.2 su.1)∧cK all (GM su)=some (su.1:Int):=by
 obtain⟨hw,hl,h1,h2⟩:=h
 have hp:=su.2.size_pos
 have e:GM su=((su.1+(su.2.size-1):Nat):Int):=by unfold GM;omega
 rw [e,cg,cg,G2 h1 (by omega),G2 h2 (by omega),zZ,Kh]
 exact⟨rfl,rfl⟩
theorem DE{N xs ys zs:List α}{s a b:Nat}(h:(N.drop s).take k=xs++ys++zs)(hx:xs.length=a)(hy:ys.length=b):(N.drop s).take a=xs∧(N.drop (s+a)).take b=ys:=by
 have hk:a+b≤k:=by
  have:=congrArg List.length h
  simp only [yi,jA,Ao]at this
  omega
 constructor
 ·have:=congrArg (List.take a) h
  rw [zy,zz (by omega)]at this
  rw [this,n6,xl (by omega),pV (by omega)]
 ·have this:(((N.drop s).take k).drop a).take b=((xs++ys++zs).drop a).take b:=by rw [h]
  rw [BF,sR,zy,zz (by omega)]at this
  rw [this,n6,F8 (by omega),sT (by omega),iv,xl (by omega),pV (by omega)]
theorem Ll{N:List aU}{all:List Int}{s:Nat}{n:aU}{a b:Tr}(h:xK N all (s,.bi n a b)):xK N all (s,a)∧xK N all (s+a.size,b):=by
 obtain⟨⟨_,ha,hb⟩,hl,h1,h2⟩:=h
 simp only [Tr.size,Tr.flat,fl]at hl h1 h2
 obtain⟨h3,h4⟩:=DE h1 (a.flat_len s) (b.flat_len _)
 obtain⟨h5,h6⟩:=DE h2 (qx a s) (qx b _)
 exact⟨⟨ha,by show s+a.size≤_;omega,h3,h5⟩,⟨hb,by show s+a.size+b.size≤_;omega,h4,h6⟩⟩
def OH:List (Nat×Tr)→Nat
 |[]=>0
 |su::st=>su.2.size+OH st
def Na(st:List (Nat×Tr)):List aT:=st.flatMap fun su=>(qC su.2).map BB
theorem Ou{s:Nat}(hw:t.wf)(h:(oZ t s).Tag≠22):qC t=[t]:=by
 cases t with
 |lf n=>rfl
 |un n a=>rfl
 |bi n a b=>rw [tQ,bg (show¬n.Tag=22 from h)]
theorem Ot{s:Nat}(hw:t.wf)(h:(oZ t s).Tag=22): ∃n a b,t= .bi n a b∧n.Tag=22:=by
 cases t with
 |lf n=>
  have h:n.Tag=22:=h
  have h1:=hw.1
  rw [h]at h1;simp [pk]at h1
 |un n a=>
  have h:n.Tag=22:=h
  have h1:=hw.1.1
  rw [h]at h1;simp [pk]at h1
 |bi n a b=>exact⟨n,a,b,rfl,h⟩
theorem xZ(N:List aU)(hN:N.length≤100000)(all:List Int)(b:Bool): ∀(fu:Nat) (st:List (Nat×Tr)) (out:List aT),(∀su∈st,xK N all su)→OH st<fu→st.length≤100000→out.length+OH st≤90000→
  gE ⟨N⟩ (all,b) fu out (st.map GM).reverse=some (out++Na st)
 |0,_,_,_,h,_,_=>by omega
 |fu+1,[],out,_,_,_,_=>by
  unfold gE
  simp [Na]
 |fu+1,su::st,out,hp,hf,hs,ho=>by
  have hp0:=hp su (nm ..)
  obtain⟨h1,h2⟩:=GZ hp0
  simp only [gJ]at hs
  simp only [OH]at hf ho
  have hpos:=su.2.size_pos
  unfold gE
  have hlen:((su::st).map GM).reverse.length=st.length+1:=by simp
  rw [bm (by rw [hlen];simp<;>omega),hlen,bP (by omega) (by omega)]
  have e1:((su::st).map GM).reverse=(st.map GM).reverse++[GM su]:=by simp
  rw [e1,kj st.length (by omega),o5 (by simp)]
  simp only [List.length_reverse,List.length_map,tm,F7,be]
  rw [jE (i:=0) 0 st.length rfl (by omega) (gx _) (by simp),qr]
  rw [xl (by simp),pV (by simp)]
  simp only [be]
  rw [h1]
  simp only [be]
  have hp' : ∀q∈st,xK N all q:=fun q hq=>hp q (nE _ hq)
  by_cases ht:(oZ su.2 su.1).Tag=22
  ·rw [bm (by simp [ht])]
   obtain⟨s,u⟩:=su
   obtain⟨n,a,c,rfl,hn⟩:=Ot hp0.1 ht
   obtain⟨hpa,hpb⟩:=Ll hp0
   simp only [Tr.size]at hf ho
   have e2:(st.map GM).reverse++[(oZ (.bi n a c) s).R,(oZ (.bi n a c) s).L]=(((s,a)::(s+a.size,c)::st).map GM).reverse:=by
    simp [oZ,fD,GM]
   simp only at hN ⊢
   rw [ca (by simp;omega)]
   simp only [be]
   unfold oM
   rw [e2,xZ N hN all b fu ((s,a)::(s+a.size,c)::st) out (fun q hq=>by
    rcases gz.1 hq with rfl|hq
    ·exact hpa
    ·rcases gz.1 hq with rfl|hq
     ·exact hpb
     ·exact hp' q hq) (by simp only [OH];omega) (by
      have: ∀l:List (Nat×Tr),l.length≤OH l:=by
       intro l
       induction l with
       |nil=>exact dN _
       |cons q l ih=>have:=q.2.size_pos;simp [OH];omega
      have:=this st
      simp only [gJ];omega) (by simp only [OH];omega)]
   congr 2
   simp only [Na,List.flatMap_cons,tQ,bm hn,An,n6]
  ·rw [bg (by simpa using ht),h2]
   obtain⟨s,u⟩:=su
   obtain⟨hw,hl,h3,h4⟩:=hp0
   simp only at hl h3 h4 hpos hf ho ⊢
   simp only [be]
   have e3:IntKind.i64.wrap (GM (s,u)+1)=((s+u.size:Nat):Int):=by
    unfold GM
    simp only
    rw [bP (by omega) (by omega)];omega
   rw [e3,jE s (s+u.size) rfl rfl (by omega) hl]
   have e4:(N.take (s+u.size)).drop s=u.flat s:=by rw [BF,Nat.add_sub_cancel_left];exact h3
   rw [e4]
   simp only [be]
   rw [Ju _ (by rw [u.flat_len];omega)]
   simp only [be]
   have h5:=CX (gE ⟨N⟩ (all,b) fu) out (by omega) (st.map GM).reverse s (by omega) (u.flat s) (El u s (by omega)) (u.flat s) 0 rfl
   simp only [List.take_zero,yg,iv,qr]at h5
   rw [h5]
   have h6:=Kg u s 0
   rw [o0]at h6
   rw [h6,xZ N hN all b fu st _ hp' (by omega) (by omega) (by simp;omega)]
   congr 1
   simp only [Na,List.flatMap_cons,Ou hw ht,wL,yg,n6]
   rfl
theorem FO(e:aT)(hl:e.Nodes.length≤80000):tP e=some (match np e.Nodes with
  |none=>[]
  |some t=>(qC t).map BB):=by
 unfold tP
 have hf:=Em e.Nodes [] (by simp [bY];omega)
 simp only [bY,Hx,kF]at hf
 unfold qo
 rw [show((0:Nat))=0 from rfl]at hf
 rw [hf]
 unfold np
 cases hp:m4 e.Nodes []with
 |none=>rfl
 |some st=>
  have hsz:=AH hp
  match st,hsz with
  |[],_=>rfl
  |[t],hsz=>
   simp only [be,gJ,q7,o0,decide_true,vb]
   have hw:=(rq hp (fun t ht=>by cases ht)).2 t (nm ..)
   have hfl:=(rq hp (fun t ht=>by cases ht)).1
   simp only [tM,bY,iv,o0]at hfl hsz
   simp only [bY,o0,hsz]
   by_cases h1:e.Nodes.length≤1000
   ·rw [bg (by simp [h1])]
    simp only [h1,decide_true,iE]
    have hpl:xK e.Nodes (Hx [t]) (0,t):=by
     refine⟨hw,by show 0+t.size≤_;omega,?_,?_⟩
     ·simp only [qr];rw [←hfl,pV (by rw [t.flat_len];exact dN _)]
     ·simp only [Hx,bY,iv,qr];rw [pV (by rw [qx];exact dN _)]
    have h2:=xZ e.Nodes (by omega) (Hx [t]) true dj [(0,t)] [] (fun q hq=>by
     simp only [t7]at hq;subst hq;exact hpl) (by simp only [OH];exact u4 (A4 _) (lh (by omega))) (by simp) (by simp [OH];omega)
    have e2:([(0,t)].map GM).reverse=[((e.Nodes.length:Int)-1)]:=by
     simp only [wL,yg,List.reverse_cons,List.reverse_nil,iv,GM]
     rw [←hsz];simp
    rw [e2]at h2
    rw [bP (by omega) (by omega)]
    have e9:(⟨e.Nodes⟩:aT)=e:=rfl
    rw [e9]at h2
    rw [h2]
    simp [Na]
   ·rw [bm (by simp [h1])]
    simp only [h1,iM]
  |t::t2::st,_=>simp

def fA(v:cB)(l:List cB):cB:=l.foldl Wl v
def Iv(l:List Tr):Nat:=(l.map Tr.size).sum
theorem Gt(a b:List Tr):Iv (a++b)=Iv a+Iv b:=by simp [Iv]
theorem Ad(t:Tr):Iv (qC t)+(qC t).length=t.size+1:=by
 induction t with
 |lf n=>rfl
 |un n a _=>simp [qC,Iv]
 |bi n a b iha ihb=>
  rw [tQ]
  split
  ·rw [Gt,jA];simp only [Tr.size];omega
  ·simp [Iv]

theorem AZ(place r:Int)(k:Nat)(hk:k≤1000000)(hpr:IntKind.i64.wrap (IntKind.i64.wrap (place+1)-r)=(k:Int)): ∀(ns out:List aU),(∀n∈ns,SU n)→out.length+ns.length≤1000000→iZ place r ns ⟨out⟩=some ⟨out++ns.map (zI k)⟩
 |[],out,_,_=>by simp [iZ]
 |n::ns,out,hb,hl=>by
  simp only [gJ]at hl
  obtain⟨b1,b2,b3,b4⟩:=hb n (nm ..)
  have ih:=AZ place r k hk hpr ns (out++[zI k n]) (fun m hm=>hb m (nE _ hm)) (by simp;omega)
  have e9:out++(n::ns).map (zI k)=out++[zI k n]++ns.map (zI k):=by simp
  rw [e9,←ih]
  have hk2: ∀m,m=zI k n→pK (iZ place r ns) ⟨out⟩ m=iZ place r ns ⟨out++[zI k n]⟩:=by
   intro m hm
   unfold pK
   rw [ca (by simp;omega),hm]
   rfl
  conv=>lhs;unfold iZ
  rw [hpr]
  by_cases hL:0≤n.L
  ·rw [bm (by simpa using hL)]
   unfold pL
   rw [hpr,bP (n:=n.L-(k:Int)) (by omega) (by omega)]
   by_cases hR:0≤n.R
   ·rw [bm (by simpa using hR)]
    dsimp only
    rw [bP (n:=n.R-(k:Int)) (by omega) (by omega)]
    exact hk2 _ (by simp only [zI,fD,us,bm hL,bm hR])
   ·rw [bg (by simpa using hR)]
    exact hk2 _ (by simp only [zI,fD,us,bm hL,bg hR])
  ·rw [bg (by simpa using hL)]
   unfold pL
   rw [hpr]
   by_cases hR:0≤n.R
   ·rw [bm (by simpa using hR),bP (n:=n.R-(k:Int)) (by omega) (by omega)]
    exact hk2 _ (by simp only [zI,fD,us,bg hL,bm hR])
   ·rw [bg (by simpa using hR)]
    exact hk2 _ (by simp only [zI,fD,us,bg hL,bg hR])
theorem w7(P R:List aU)(u:Tr)(hw:u.wf)(hl:(P++u.flat P.length++R).length≤100000):uq ⟨P++u.flat P.length++R⟩ (((P.length+u.size:Nat):Int)-1)=some (BB u):=by
 have hl2:=hl
 simp only [jA,u.flat_len]at hl2
 have hpos:=u.size_pos
 unfold uq uo
 rw [JV u hw P R _ dj rfl (lh (by omega)) hl]
 simp only [be]
 have e1:IntKind.i64.wrap (((P.length+u.size:Nat):Int)-1+1)=((P.length+u.size:Nat):Int):=by rw [bP (by omega) (by omega)];omega
 have e2:IntKind.i64.wrap (IntKind.i64.wrap (((P.length+u.size:Nat):Int)-1+1)-(u.size:Int))=(P.length:Int):=by rw [e1,bP (by omega) (by omega)];omega
 rw [e2,e1,jE P.length (P.length+u.size) rfl rfl (by omega) (by simp only [jA,u.flat_len];omega)]
 have e3:((P++u.flat P.length++R).take (P.length+u.size)).drop P.length=u.flat P.length:=by
  rw [n6,BF,F8 (dN _),sT (dN _),iv,Nat.add_sub_cancel_left,xl (by rw [u.flat_len];exact dN _),pV (by rw [u.flat_len];exact dN _)]
 rw [e3]
 simp only [be]
 rw [AZ _ _ P.length (by omega) e2 _ _ (El u _ (by omega)) (by simp [u.flat_len];omega)]
 have h6:=Kg u P.length 0
 rw [o0]at h6
 rw [h6];rfl
theorem Bb(t:Tr):t.wf→t.size≤50000→ ∀fu,t.size≤fu→la fu (BB t)=some ((qC t).map BB):=by
 induction t with
 |lf n=>
  intro hw hs fu hf
  obtain⟨fu,rfl⟩: ∃k,fu=k+1:=⟨fu-1,by simp only [Tr.size]at hf;omega⟩
  unfold la
  have e1:cK (BB (.lf n)).Nodes (IntKind.i64.wrap (((BB (.lf n)).Nodes.length:Int)-1))=some (fD n (-1) (-1)):=rfl
  rw [e1]
  simp only [be]
  have h2:(fD n (-1) (-1)).Tag≠22:=fun h=>by
   have h:n.Tag=22:=h
   have h1:=hw.1
   rw [h]at h1;simp [pk]at h1
  rw [bm (by simpa using h2)];rfl
 |un n a _=>
  intro hw hs fu hf
  obtain⟨fu,rfl⟩: ∃k,fu=k+1:=⟨fu-1,by simp only [Tr.size]at hf;omega⟩
  unfold la
  have hpos:=(Tr.un n a).size_pos
  have e1:cK (BB (.un n a)).Nodes (IntKind.i64.wrap (((BB (.un n a)).Nodes.length:Int)-1))=some (oZ (.un n a) 0):=by
   have hl:(BB (.un n a)).Nodes.length=(Tr.un n a).size:=by unfold BB;rw [Tr.flat_len]
   rw [hl,bP (by omega) (by omega),kj ((Tr.un n a).size-1) (by omega)]
   exact zZ _ 0
  rw [e1]
  simp only [be]
  have h2:(oZ (.un n a) 0).Tag≠22:=fun h=>by
   have h:n.Tag=22:=h
   have h1:=hw.1.1
   rw [h]at h1;simp [pk]at h1
  rw [bm (by simpa using h2)];rfl
 |bi n a b iha ihb=>
  intro hw hs fu hf
  obtain⟨fu,rfl⟩: ∃k,fu=k+1:=⟨fu-1,by simp only [Tr.size]at hf;omega⟩
  unfold la
  have hpos:=(Tr.bi n a b).size_pos
  have e1:cK (BB (.bi n a b)).Nodes (IntKind.i64.wrap (((BB (.bi n a b)).Nodes.length:Int)-1))=some (oZ (.bi n a b) 0):=by
   have hl:(BB (.bi n a b)).Nodes.length=(Tr.bi n a b).size:=by unfold BB;rw [Tr.flat_len]
   rw [hl,bP (by omega) (by omega),kj ((Tr.bi n a b).size-1) (by omega)]
   exact zZ _ 0
  rw [e1]
  simp only [be]
  simp only [Tr.size]at hs hf
  by_cases hn:n.Tag=22
  ·have h2:(oZ (.bi n a b) 0).Tag=22:=hn
   rw [bg (by simp [h2])]
   have hA:=w7 [] (b.flat (0+a.size)++[fD n (((0+a.size:Nat):Int)-1) (((0+a.size+b.size:Nat):Int)-1)]) a hw.2.1 (by simp [a.flat_len,b.flat_len];omega)
   have hB:=w7 (a.flat 0) [fD n (((0+a.size:Nat):Int)-1) (((0+a.size+b.size:Nat):Int)-1)] b hw.2.2 (by simp [a.flat_len,b.flat_len];omega)
   have eA:(⟨[]++a.flat ([]:List aU).length++(b.flat (0+a.size)++[fD n (((0+a.size:Nat):Int)-1) (((0+a.size+b.size:Nat):Int)-1)])⟩:aT)=BB (.bi n a b):=by
    simp [BB,Tr.flat]
   have eB:(⟨a.flat 0++b.flat (a.flat 0).length++[fD n (((0+a.size:Nat):Int)-1) (((0+a.size+b.size:Nat):Int)-1)]⟩:aT)=BB (.bi n a b):=by
    simp [BB,Tr.flat,a.flat_len]
   rw [eA]at hA
   rw [eB,a.flat_len]at hB
   have rL:(oZ (.bi n a b) 0).L=((([]:List aU).length+a.size:Nat):Int)-1:=rfl
   have rR:(oZ (.bi n a b) 0).R=((a.size+b.size:Nat):Int)-1:=by simp [oZ,fD]
   rw [rL,hA,rR,hB]
   simp only [be]
   rw [iha hw.2.1 (by omega) fu (by omega)]
   simp only [be]
   rw [ihb hw.2.2 (by omega) fu (by omega)]
   simp only [be]
   have hsa:=Ad a
   have hsb:=Ad b
   have hcnt: ∀t:Tr,(qC t).length≤t.size+1:=fun t=>by have:=Ad t;omega
   have:=hcnt a;have:=hcnt b
   rw [ca (by simp;omega),tQ,bm hn]
   simp
  ·have h2:(oZ (.bi n a b) 0).Tag≠22:=hn
   rw [bm (by simpa using h2),tQ,bg hn];rfl
theorem Da(hw:t.wf)(hs:t.size≤1000):xE (BB t)=some ((qC t).map BB):=Bb t hw (by omega) dj (lh (by omega))
variable{p:Nat}
theorem Ln(e:aT)(left:Int)(hr:fv e.Nodes=true):wI e left=ur e left∧ ∃p,ur e left=some p:=by
 have hl:=um hr
 unfold wI ur
 rw [pS e (by omega),hr]
 simp only [iE,be]
 by_cases h3:e.Nodes.length=3
 ·obtain⟨a,b,c,habc⟩: ∃a b c,e.Nodes=[a,b,c]:=by
   match e.Nodes,h3 with
   |[a,b,c],_=>exact⟨a,b,c,rfl⟩
  rw [habc]
  have i0:cK [a,b,c] 0=some a:=rfl
  have i1:cK [a,b,c] 1=some b:=rfl
  have i2:cK [a,b,c] 2=some c:=rfl
  simp only [i0,i1,i2,be]
  unfold s0
  by_cases hc:c.Tag=16
  ·by_cases ha:a.Tag=2
   ·by_cases hb:b.Tag=2
    ·simp [hc,ha,hb]
     by_cases q1:left≤a.Col
     ·by_cases q2:left≤b.Col
      ·have:left≤min a.Col b.Col:=by omega
       simp [q1,q2,this]
      ·have h4:min a.Col b.Col=b.Col:=by omega
       have h5:max a.Col b.Col=a.Col:=by omega
       have h6: ¬(a.Col<left):=by omega
       simp [q1,q2,h4,h5,h6]
     ·by_cases q2:left≤b.Col
      ·have h4:min a.Col b.Col=a.Col:=by omega
       have h5:max a.Col b.Col=b.Col:=by omega
       have h6: ¬(b.Col<left):=by omega
       simp [q1,h4,h5,h6]
      ·have h4:max a.Col b.Col<left:=by omega
       have h5:b.Col<left:=by omega
       simp [q1,h4,h5]
    ·simp [hc,ha,hb]
   ·simp [hc,ha]
  ·simp [hc]
 ·have:((e.Nodes.length:Int) !=3)=true:=by simp;omega
  simp [this]

structure Ag(l:bK)(sz:Nat→Nat)(ks:Nat→List Int)(j:Nat)(n:M):Prop where
 node:cK l.Nodes (j:Int)=some n
 op:Fe n.Op=true
 own:xL n=true
 lf:n.Op=1→n.A= -1∧n.B= -1∧sz j=1
 un:n.Op≠1→n.Op≠2→n.Op≠7→0<j∧n.A=(j:Int)-1∧n.B= -1∧sz j=sz (j-1)+1
 bi:n.Op=2∨n.Op=7→0<j∧n.B=(j:Int)-1∧sz (j-1)<j∧n.A=(j:Int)-1-(sz (j-1):Int)∧sz j=sz (j-1-sz (j-1))+sz (j-1)+1
 kinds:bM n (if n.A<0 then []else ks n.A.toNat) (if n.B<0 then []else ks n.B.toNat)=some (ks j,true)
 last:n.Op=8→j+1=l.Nodes.length
 len:(ks j).length≤16
 pos:1≤sz j
 le:sz j≤j+1
theorem DL(hn:cK l.Nodes (j:Int)=some n)(hj:j<l.Nodes.length)(hl:l.Nodes.length≤1000)(fu:Nat):bZ (fu+1) l (j:Int)=
  if n.Op=1 then(if n.A= -1∧n.B= -1 then some 1 else some 0)
  else if n.Op=2∨n.Op=7 then(if n.B=(j:Int)-1 then((bZ fu) l n.B).bind (fun r2=>if((decide ((0:Int)<r2))&&(n.A==(IntKind.i64.wrap (n.B-r2))))then(((bZ fu) l n.A).bind fun r3=>if(decide ((0:Int)<r3))then(some (IntKind.i64.wrap ((IntKind.i64.wrap (r3+r2))+(1:Int))))else(some (0:Int)))else(some (0:Int)))else some 0)
  else if Fe n.Op=true then(if n.A=(j:Int)-1∧n.B= -1 then((bZ fu) l n.A).bind (fun r1=>if(decide ((0:Int)<r1))then(some (IntKind.i64.wrap (r1+(1:Int))))else(some (0:Int)))else some 0)
  else some 0:=by
 conv=>lhs;unfold bZ
 rw [bg (by simp;omega),hn]
 simp only [be,kI]
 by_cases h1:n.Op=1
 ·simp only [h1,iE]
  rw [bm (by decide)]
  by_cases hAB:n.A= -1∧n.B= -1
  ·rw [bm hAB,bm (by simp [hAB])]
  ·rw [bg hAB,bg (by simpa using hAB)]
 by_cases h27:n.Op=2∨n.Op=7
 ·simp only [h1,h27,iE,iM]
  rw [bg (by decide),bg (by decide),bm (by decide),bP (n:=(j:Int)-1) (by omega) (by omega)]
  by_cases hB:n.B=(j:Int)-1
  ·rw [bm (by simp [hB]),bm hB]
  ·rw [bg (by simpa using hB),bg hB]
 by_cases hop:Fe n.Op=true
 ·simp only [h1,h27,hop,iE,iM]
  rw [bg (by decide),bm (by decide),bP (n:=(j:Int)-1) (by omega) (by omega)]
  by_cases hB:n.A=(j:Int)-1∧n.B= -1
  ·rw [bm (by simp [hB]),bm hB]
  ·rw [bg (by simpa using hB),bg hB]
 ·simp only [h1,h27,hop,iM]
  rw [bg (by decide),bg (by decide),bg (by decide)]
  rfl
theorem yQ{s:Int}(hn:cK l.Nodes (j:Int)=some n)(hs:jr l (j:Int)=some s)(hs0:s≠0)(ho:xL n=true)(fu:Nat):co (fu+1) l (j:Int)=if(decide ((0:Int)≤n.A))then(((co fu) l n.A).bind fun r4=>if(!r4.2)then(some ([],false))else(dX (co fu) l (j:Int) n r4.1))else(dX (co fu) l (j:Int) n ([])):=by
 conv=>lhs;unfold co
 rw [hs,hn]
 simp only [be,ou,ho]
 have:(s==0)=false:=by simpa using hs0
 simp [this]
def u6(first:List Int)(j:Nat):Nat:=((j:Int)+1-(first[j]?).getD 0).toNat
def CZ(kinds:List (List Int))(j:Nat):List Int:=(kinds[j]?).getD []
theorem Ia.at{i:Nat}{first:List Int}{kinds:List (List Int)}(h:Ia l i first kinds)(hj:j<i):JG l j ((j:Int)+1-(u6 first j:Int)) (CZ kinds j) (u6 first j)∧first[j]? =some ((j:Int)+1-(u6 first j:Int)):=by
 obtain⟨f,k,s,h1,h2,h3⟩:=h.node j hj
 have e1:CZ kinds j=k:=by unfold CZ;rw [h2];rfl
 have hf:=h3.fst
 have hp:=h3.pos
 have e2:u6 first j=s:=by unfold u6;rw [h1];simp only [Option.getD_some];omega
 rw [e1,e2,←hf]
 exact⟨h3,h1⟩
theorem y8{first:List Int}{kinds:List (List Int)}(hI:Ia l l.Nodes.length first kinds)(hl:l.Nodes.length≤60)(hj:j<l.Nodes.length): ∃n,Ag l (u6 first) (CZ kinds) j n:=by
 obtain⟨N0,_⟩:=hI.at hj
 have hn:cK l.Nodes (j:Int)=some l.Nodes[j]:=by rw [cg,pE hj]
 obtain⟨n,hnn⟩: ∃n,n=l.Nodes[j]:=⟨_,rfl⟩
 rw [←hnn]at hn
 have hpos:=N0.pos
 have hsz:=N0.size (j+3) (by omega)
 rw [DL hn hj (by omega)]at hsz
 have hnone: ∀{x:Int},x=0→ ¬(some x=some (u6 first j:Int)):=by
  intro x hx h
  injection h with h
  omega
 -- the places
 have P:Fe n.Op=true∧(n.Op=1→n.A= -1∧n.B= -1∧u6 first j=1)∧(n.Op≠1→n.Op≠2→n.Op≠7→0<j∧n.A=(j:Int)-1∧n.B= -1∧u6 first j=u6 first (j-1)+1)∧(n.Op=2∨n.Op=7→0<j∧n.B=(j:Int)-1∧u6 first (j-1)<j∧n.A=(j:Int)-1-(u6 first (j-1):Int)∧u6 first j=u6 first (j-1-u6 first (j-1))+u6 first (j-1)+1):=by
  by_cases h1:n.Op=1
  ·rw [bm h1]at hsz
   by_cases hAB:n.A= -1∧n.B= -1
   ·rw [bm hAB]at hsz
    injection hsz with hsz
    exact⟨by rw [h1];rfl,fun _=>⟨hAB.1,hAB.2,by omega⟩,fun h=>absurd h1 h,fun h=>by omega⟩
   ·rw [bg hAB]at hsz;exact absurd hsz (hnone rfl)
  rw [bg h1]at hsz
  by_cases h27:n.Op=2∨n.Op=7
  ·rw [bm h27]at hsz
   by_cases hB:n.B=(j:Int)-1
   ·rw [bm hB]at hsz
    by_cases hj0:j=0
    ·rw [tB l (by omega) (by omega)]at hsz
     exact absurd hsz (hnone rfl)
    ·obtain⟨NB,_⟩:=hI.at (j:=j-1) (by omega)
     have eB:((j-1:Nat):Int)=n.B:=by omega
     have hszB:=NB.size (j+2) (by omega)
     have hpB:=NB.pos
     have hlB:=NB.le
     rw [eB]at hszB
     rw [hszB]at hsz
     simp only [be]at hsz
     rw [bP (n:=n.B-_) (by omega) (by omega)]at hsz
     by_cases hA:n.A=n.B-(u6 first (j-1):Int)
     ·rw [bm (by simp [hA];omega)]at hsz
      by_cases hA0:n.A<0
      ·rw [tB l (by omega) hA0]at hsz
       exact absurd hsz (hnone rfl)
      ·obtain⟨NA,_⟩:=hI.at (j:=j-1-u6 first (j-1)) (by omega)
       have eA:((j-1-u6 first (j-1):Nat):Int)=n.A:=by omega
       have hszA:=NA.size (j+2) (by omega)
       have hpA:=NA.pos
       have hlA:=NA.le
       rw [eA]at hszA
       rw [hszA]at hsz
       simp only [be]at hsz
       rw [bm (by simp;omega),bP (n:=(u6 first (j-1-u6 first (j-1)):Int)+(u6 first (j-1):Int)) (by omega) (by omega),bP (by omega) (by omega)]at hsz
       injection hsz with hsz
       refine⟨?_,fun h=>absurd h h1,fun _ h2 h7=>by rcases h27 with h|h;exact absurd h h2;exact absurd h h7,fun _=>⟨by omega,hB,by omega,by omega,by omega⟩⟩
       rcases h27 with h|h<;>rw [h]<;>rfl
     ·rw [bg (by simp;intro _;exact hA)]at hsz
      exact absurd hsz (hnone rfl)
   ·rw [bg hB]at hsz;exact absurd hsz (hnone rfl)
  rw [bg h27]at hsz
  by_cases hop:Fe n.Op=true
  ·rw [bm hop]at hsz
   by_cases hA:n.A=(j:Int)-1∧n.B= -1
   ·rw [bm hA]at hsz
    by_cases hj0:j=0
    ·rw [tB l (by omega) (by omega)]at hsz
     exact absurd hsz (hnone rfl)
    ·obtain⟨NA,_⟩:=hI.at (j:=j-1) (by omega)
     have eA:((j-1:Nat):Int)=n.A:=by omega
     have hszA:=NA.size (j+2) (by omega)
     have hpA:=NA.pos
     have hlA:=NA.le
     rw [eA]at hszA
     rw [hszA]at hsz
     simp only [be]at hsz
     rw [bm (by simp;omega),bP (by omega) (by omega)]at hsz
     injection hsz with hsz
     exact⟨hop,fun h=>absurd h h1,fun _ _ _=>⟨by omega,hA.1,hA.2,by omega⟩,fun h=>absurd h h27⟩
   ·rw [bg hA]at hsz;exact absurd hsz (hnone rfl)
  ·rw [bg hop]at hsz;exact absurd hsz (hnone rfl)
 obtain⟨p0,p1,p2,p3⟩:=P
 -- what it has of its own, and its kinds
 have hk:=N0.kinds (j+3) (by omega)
 have hszR:jr l (j:Int)=some (u6 first j:Int):=N0.size dj (iK (by omega))
 have ho:xL n=true:=by
  cases ho:xL n with
  |true=>rfl
  |false=>
   exfalso
   unfold co at hk
   rw [hszR,hn]at hk
   simp only [be,ou,ho]at hk
   have: ¬(u6 first j=0):=by omega
   simp [this]at hk
 have hpl:n.A<(j:Int)∧n.B<(j:Int):=by
  by_cases h1:n.Op=1
  ·obtain⟨a,b,_⟩:=p1 h1;omega
  by_cases h27:n.Op=2∨n.Op=7
  ·obtain⟨a,b,c,d,_⟩:=p3 h27;omega
  ·obtain⟨a,b,c,_⟩:=p2 h1 (fun h=>h27 (.inl h)) (fun h=>h27 (.inr h));omega
 rw [yQ hn hszR (by omega) ho]at hk
 have hkA: ∀(p:Int),0≤p→p<(j:Int)→co (j+2) l p=some (CZ kinds p.toNat,true):=by
  intro p hp0 hpj
  obtain⟨NA,_⟩:=hI.at (j:=p.toNat) (by omega)
  have:=NA.kinds (j+2) (by omega)
  rw [show((p.toNat:Nat):Int)=p from by omega]at this
  exact this
 have hk1: ∀a,dX (co (j+2)) l (j:Int) n a=gc l (j:Int) n a (if n.B<0 then []else CZ kinds n.B.toNat):=by
  intro a
  unfold dX
  by_cases hB:0≤n.B
  ·rw [bm (by simpa using hB),hkA n.B hB hpl.2,bg (by omega)]
   rfl
  ·rw [bg (by simpa using hB),bm (by omega)]
 have hk2:gc l (j:Int) n (if n.A<0 then []else CZ kinds n.A.toNat) (if n.B<0 then []else CZ kinds n.B.toNat)=some (CZ kinds j,true):=by
  by_cases hA:0≤n.A
  ·rw [bm (by simpa using hA),hkA n.A hA hpl.1]at hk
   simp only [be,nT,mz,iM]at hk
   rw [hk1]at hk
   rw [bg (show¬n.A<0 by omega)]
   exact hk
  ·rw [bg (by simpa using hA),hk1]at hk
   rw [bm (show n.A<0 by omega)]
   exact hk
 unfold gc at hk2
 cases hr:bM n (if n.A<0 then []else CZ kinds n.A.toNat) (if n.B<0 then []else CZ kinds n.B.toNat)with
 |none=>rw [hr]at hk2;cases hk2
 |some r=>
  rw [hr]at hk2
  simp only [be]at hk2
  split at hk2
  ·simp at hk2
  ·rename_i hc
   injection hk2 with hk2
   injection hk2 with e1 e2
   refine⟨n,hn,p0,ho,p1,p2,p3,?_,fun h8=>?_,N0.len,N0.pos,N0.le⟩
   ·rw [hr,←e1,←e2]
   ·simp only [u3,jD,tq,sa,oV,not_or,not_and,Decidable.not_not]at hc
    have:=hc.1 h8
    rw [bP (by omega) (by omega)]at this
    omega
variable{ks:Nat→List Int}{sz:Nat→Nat}
theorem LO{m:Nat}(hl:l.Nodes.length≤60)(hm:m≤l.Nodes.length)(h: ∀j,j<m→ ∃n,Ag l sz ks j n): ∀(j:Nat),j<m→(∀fu,j+1<fu→bZ fu l (j:Int)=some (sz j:Int))∧ ∀fu,j+1<fu→co fu l (j:Int)=some (ks j,true):=by
 intro j
 induction j using Nat.strongRecOn with
 |ind j ih=>
  intro hj
  obtain⟨n,F⟩:=h j hj
  have hpl:n.A<(j:Int)∧n.B<(j:Int):=by
   by_cases h1:n.Op=1
   ·obtain⟨a,b,_⟩:=F.lf h1;omega
   by_cases h27:n.Op=2∨n.Op=7
   ·obtain⟨a,b,c,d,_⟩:=F.bi h27;omega
   ·obtain⟨a,b,c,_⟩:=F.un h1 (fun h=>h27 (.inl h)) (fun h=>h27 (.inr h));omega
  have hS: ∀fu,j+1<fu→bZ fu l (j:Int)=some (sz j:Int):=by
   intro fu hf
   obtain⟨fu,rfl⟩: ∃k,fu=k+1:=⟨fu-1,by omega⟩
   rw [DL F.node (by omega) (by omega)]
   by_cases h1:n.Op=1
   ·obtain⟨a,b,c⟩:=F.lf h1
    rw [bm h1,bm ⟨a,b⟩,c];rfl
   rw [bg h1]
   by_cases h27:n.Op=2∨n.Op=7
   ·obtain⟨a,b,c,d,e⟩:=F.bi h27
    obtain⟨nB,FB⟩:=h (j-1) (by omega)
    obtain⟨nA,FA⟩:=h (j-1-sz (j-1)) (by omega)
    have hB:=(ih (j-1) (by omega) (by omega)).1 fu (by omega)
    have hA:=(ih (j-1-sz (j-1)) (by omega) (by omega)).1 fu (by omega)
    rw [show((j-1:Nat):Int)=n.B from by omega]at hB
    rw [show((j-1-sz (j-1):Nat):Int)=n.A from by omega]at hA
    have q1:=FB.pos
    have q2:=FB.le
    have q3:=FA.pos
    have q4:=FA.le
    rw [bm h27,bm b,hB]
    simp only [be]
    rw [bP (n:=n.B-_) (by omega) (by omega),bm (by simp;omega),hA]
    simp only [be]
    rw [bm (by simp;omega),bP (n:=(sz (j-1-sz (j-1)):Int)+(sz (j-1):Int)) (by omega) (by omega),bP (by omega) (by omega),e]
    rfl
   ·obtain⟨a,b,c,d⟩:=F.un h1 (fun h=>h27 (.inl h)) (fun h=>h27 (.inr h))
    obtain⟨nA,FA⟩:=h (j-1) (by omega)
    have hA:=(ih (j-1) (by omega) (by omega)).1 fu (by omega)
    rw [show((j-1:Nat):Int)=n.A from by omega]at hA
    have q1:=FA.pos
    have q2:=FA.le
    rw [bg h27,bm F.op,bm ⟨b,c⟩,hA]
    simp only [be]
    rw [bm (by simp;omega),bP (by omega) (by omega),d]
    rfl
  refine⟨hS,fun fu hf=>?_⟩
  obtain⟨fu,rfl⟩: ∃k,fu=k+1:=⟨fu-1,by omega⟩
  have hszR:jr l (j:Int)=some (sz j:Int):=hS dj (iK (by omega))
  have hp:=F.pos
  rw [yQ F.node hszR (by omega) F.own]
  have hkA: ∀(p:Int),0≤p→p<(j:Int)→co fu l p=some (ks p.toNat,true):=by
   intro p hp0 hpj
   have:=(ih p.toNat (by omega) (by omega)).2 fu (by omega)
   rw [show((p.toNat:Nat):Int)=p from by omega]at this
   exact this
  have hk1: ∀a,dX (co fu) l (j:Int) n a=gc l (j:Int) n a (if n.B<0 then []else ks n.B.toNat):=by
   intro a
   unfold dX
   by_cases hB:0≤n.B
   ·rw [bm (by simpa using hB),hkA n.B hB hpl.2,bg (by omega)]
    rfl
   ·rw [bg (by simpa using hB),bm (by omega)]
  have hk2:gc l (j:Int) n (if n.A<0 then []else ks n.A.toNat) (if n.B<0 then []else ks n.B.toNat)=some (ks j,true):=by
   unfold gc
   rw [F.kinds]
   simp only [be]
   rw [bg]
   have hlen:=F.len
   simp only [u3,jD,tq,sa,oV,not_or,not_and,Decidable.not_not]
   refine⟨fun h8=>?_,by omega⟩
   have:=F.last h8
   rw [bP (by omega) (by omega)]
   omega
  by_cases hA:0≤n.A
  ·rw [bm (by simpa using hA),hkA n.A hA hpl.1]
   simp only [be,nT,mz,iM]
   rw [hk1]
   rw [bg (show¬n.A<0 by omega)]at hk2
   exact hk2
  ·rw [bg (by simpa using hA),hk1]
   rw [bm (show n.A<0 by omega)]at hk2
   exact hk2
theorem HB(hl:l.Nodes.length≤60)(hp:1≤l.Nodes.length)(h: ∀j,j<l.Nodes.length→ ∃n,Ag l sz ks j n)(hw:sz (l.Nodes.length-1)=l.Nodes.length):qu l=true:=by
 have H:=LO hl (dN _) h
 unfold qu qb
 rw [bg (by simp;omega)]
 have key: ∀(tl:List M) (i:Nat),l.Nodes.drop i=tl→i+tl.length=l.Nodes.length→eC l tl i=some (-1):=by
  intro tl
  induction tl with
  |nil=>
   intro i _ _
   unfold eC
   have:=(H (l.Nodes.length-1) (by omega)).1 dj (iK (by omega))
   rw [bP (by omega) (by omega),show(l.Nodes.length:Int)-1=((l.Nodes.length-1:Nat):Int)from by omega]
   unfold jr
   rw [this,hw]
   simp
  |cons n tl ih=>
   intro i hd hi
   simp only [gJ]at hi
   obtain⟨_,h2,h3⟩:=im hd
   unfold eC kX
   rw [(H i h2).2 dj (iK (by omega))]
   simp only [be,nT,mz,iM]
   exact ih (i+1) h3 (by omega)
 rw [key l.Nodes 0 rfl (by simp)]
 rfl

theorem ql{e:aT}{kinds:List Int}(h:(kK e kinds).2=0):fv e.Nodes=true:=by
 unfold kK at h
 cases hr:fv e.Nodes with
 |true=>rfl
 |false=>rw [hr]at h;simp at h
theorem xo{e:aT}{kinds:List Int}(h:Im e kinds=true):fv e.Nodes=true:=by
 unfold Im at h
 simp only [jD,tq]at h
 exact ql h.1
theorem Ma{g:gF}{kinds:List Int}(h:(Jz g kinds).2=true)(hp:0<g.Arg.Nodes.length):fv g.Arg.Nodes=true:=by
 rw [←(FT g kinds).1]at h
 unfold Mb at h
 by_cases h1:g.Tag=1
 ·rw [bm h1]at h
  simp at h
  rw [h]at hp;simp at hp
 rw [bg h1]at h
 by_cases h2:g.Tag=2
 ·rw [bm h2]at h;exact ql (by simpa using h)
 rw [bg h2]at h
 by_cases h3:g.Tag=3
 ·rw [bm h3]at h
  simp only [jD,tq]at h
  exact ql h.1
 rw [bg h3]at h
 by_cases h4:g.Tag=4∨g.Tag=5
 ·rw [bm h4]at h;exact ql (by simpa using h)
 ·rw [bg h4]at h;cases h
theorem No(n:M)(a:List Int): ∀(tl:List aT) (i fu:Nat) (out:List Int) (ok:Bool) (k:List Int),n.Items.drop i=tl→n.Items.length≤5000→ez n a fu out ok (i:Int)=some (k,true)→ok=true∧ ∀e∈tl,fv e.Nodes=true:=by
 intro tl
 induction tl with
 |nil=>
  intro i fu out ok k hd hl h
  cases fu with
  |zero=>cases h
  |succ fu=>
   have:=zc hd
   rw [ez,bg (by simp;omega)]at h
   injection h with h
   injection h with _ h
   simp only [jD]at h
   exact⟨h.1.1,by simp⟩
 |cons x tl ih=>
  intro i fu out ok k hd hl h
  cases fu with
  |zero=>cases h
  |succ fu=>
   obtain⟨h1,h2,h3⟩:=im hd
   rw [ez,bm (by simp;omega),h1]at h
   simp only [be,mY]at h
   cases ha:iC out [(kK x a).1]with
   |none=>rw [ha]at h;cases h
   |some o=>
    rw [ha]at h
    simp only [be]at h
    rw [bP (by omega) (by omega),show((i:Int)+1)=((i+1:Nat):Int)from by omega]at h
    obtain⟨g1,g2⟩:=ih (i+1) fu o _ k h3 hl h
    simp only [jD,tq]at g1
    exact⟨g1.1,fun e he=>by
     rcases gz.1 he with rfl|he
     ·exact ql g1.2
     ·exact g2 e he⟩
theorem Np(n:M)(a:List Int): ∀(tl:List gF) (i fu:Nat) (out:List Int) (ok:Bool) (k:List Int),n.Aggs.drop i=tl→n.Aggs.length≤5000→cY n a fu out ok (i:Int)=some (k,true)→ok=true∧ ∀g∈tl,0<g.Arg.Nodes.length→fv g.Arg.Nodes=true:=by
 intro tl
 induction tl with
 |nil=>
  intro i fu out ok k hd hl h
  cases fu with
  |zero=>cases h
  |succ fu=>
   have:=zc hd
   rw [cY,bg (by simp;omega)]at h
   injection h with h
   injection h with _ h
   simp only [jD]at h
   exact⟨h.1.1.1,by simp⟩
 |cons x tl ih=>
  intro i fu out ok k hd hl h
  cases fu with
  |zero=>cases h
  |succ fu=>
   obtain⟨h1,h2,h3⟩:=im hd
   rw [cY,bm (by simp;omega),h1]at h
   simp only [be,rh]at h
   cases ha:iC out [(Jz x a).1]with
   |none=>rw [ha]at h;cases h
   |some o=>
    rw [ha]at h
    simp only [be]at h
    rw [bP (by omega) (by omega),show((i:Int)+1)=((i+1:Nat):Int)from by omega]at h
    obtain⟨g1,g2⟩:=ih (i+1) fu o _ k h3 hl h
    simp only [jD]at g1
    exact⟨g1.1,fun g hg=>by
     rcases gz.1 hg with rfl|hg
     ·exact Ma g1.2
     ·exact g2 g hg⟩
theorem Nq(n:M)(a:List Int): ∀(tl:List Int) (i fu:Nat) (out:List Int) (k:List Int),n.Keys.drop i=tl→n.Keys.length≤5000→dp n a fu out (i:Int)=some (k,true)→ ∃o,cY n a dj o true 0=some (k,true):=by
 intro tl
 induction tl with
 |nil=>
  intro i fu out k hd hl h
  cases fu with
  |zero=>cases h
  |succ fu=>
   have:=zc hd
   rw [dp,bg (by simp;omega)]at h
   exact⟨_,h⟩
 |cons x tl ih=>
  intro i fu out k hd hl h
  cases fu with
  |zero=>cases h
  |succ fu=>
   obtain⟨h1,h2,h3⟩:=im hd
   rw [dp,bm (by simp;omega),h1]at h
   simp only [be]at h
   split at h
   ·simp at h
   ·cases hx:cK a x with
    |none=>rw [hx]at h;cases h
    |some y=>
     rw [hx]at h
     simp only [be]at h
     cases ha:iC out [y]with
     |none=>rw [ha]at h;cases h
     |some o=>
      rw [ha]at h
      simp only [be]at h
      rw [bP (by omega) (by omega),show((i:Int)+1)=((i+1:Nat):Int)from by omega]at h
      exact ih (i+1) fu o k h3 hl h
structure KP(n:M):Prop where
 cond:0<n.Cond.Nodes.length→fv n.Cond.Nodes=true
 items: ∀e∈n.Items,0<e.Nodes.length→fv e.Nodes=true
 args: ∀g∈n.Aggs,0<g.Arg.Nodes.length→fv g.Arg.Nodes=true
theorem M0(h:xL n=true):(n.Op≠2→n.Op≠3→n.Cond.Nodes.length=0)∧(n.Op≠4→n.Aggs.length=0)∧(n.Op≠5→n.Items.length=0):=by
 have e:=ou n
 rw [h]at e
 unfold qV at e
 split at e
 ·simp at e
 ·split at e
  ·simp at e
  ·split at e
   ·simp at e
   ·rename_i h1 h2 h3
    simp only [u3,jD,sa,oV,not_or,not_and]at h1 h2 h3
    refine⟨fun a b=>?_,fun a=>?_,fun a=>?_⟩
    ·have:=h2.2 ⟨a,b⟩;omega
    ·have:=(h3.1 a).2;omega
    ·have:=h3.2 a;omega
theorem N4{a b k:List Int}(hs:iD n)(hop:Fe n.Op=true)(ho:xL n=true)(h:bM n a b=some (k,true)):KP n:=by
 obtain⟨o1,o2,o3⟩:=M0 ho
 have hnil: ∀{α:Type} {l:List α} {p:α→Prop},l.length=0→ ∀x∈l,p x:=by
  intro α l p hl x hx
  rw [tp hl]at hx;cases hx
 unfold bM at h
 rcases qY hop with c|c|c|c|c|c|c|c
 ·exact⟨fun hp=>by have:=o1 (by omega) (by omega);omega,hnil (o3 (by omega)),hnil (o2 (by omega))⟩
 ·rw [bg (by simp [c]),bm (by simp [c])]at h
  refine⟨fun _=>?_,hnil (o3 (by omega)),hnil (o2 (by omega))⟩
  cases h1:iC ([]:List Int) a with
  |none=>rw [h1]at h;cases h
  |some l1=>
   rw [h1]at h
   simp only [be]at h
   cases h2:iC l1 b with
   |none=>rw [h2]at h;cases h
   |some l2=>
    rw [h2]at h
    simp only [be,mh]at h
    injection h with h
    injection h with _ h
    exact xo h
 ·rw [bg (by simp [c]),bg (by simp [c]),bm (by simp [c])]at h
  refine⟨fun _=>?_,hnil (o3 (by omega)),hnil (o2 (by omega))⟩
  simp only [be,mh]at h
  injection h with h
  injection h with _ h
  exact xo h
 ·rw [bg (by simp [c]),bg (by simp [c]),bg (by simp [c]),bm (by simp [c])]at h
  obtain⟨o,h'⟩:=Nq n a n.Keys 0 dj [] k rfl hs.keys h
  exact⟨fun hp=>by have:=o1 (by omega) (by omega);omega,hnil (o3 (by omega)),(Np n a n.Aggs 0 dj o true k rfl hs.aggs h').2⟩
 ·rw [bg (by simp [c]),bg (by simp [c]),bg (by simp [c]),bg (by simp [c]),bm (by simp [c])]at h
  exact⟨fun hp=>by have:=o1 (by omega) (by omega);omega,fun e he _=>(No n a n.Items 0 dj [] true k rfl hs.items h).2 e he,hnil (o2 (by omega))⟩
 ·exact⟨fun hp=>by have:=o1 (by omega) (by omega);omega,hnil (o3 (by omega)),hnil (o2 (by omega))⟩
 ·exact⟨fun hp=>by have:=o1 (by omega) (by omega);omega,hnil (o3 (by omega)),hnil (o2 (by omega))⟩
 ·exact⟨fun hp=>by have:=o1 (by omega) (by omega);omega,hnil (o3 (by omega)),hnil (o2 (by omega))⟩

theorem MG{a b k:List Int}(hs:iD n)(h1:n.Op=1)(h:bM n a b=some (k,true)):0≤n.Table∧n.Table≤3:=by
 obtain⟨k1,o,k',g1,g2,_⟩:=DW default n a b hs h1
 rw [h]at g2
 injection g2 with g2
 injection g2 with _ g2
 subst g2
 unfold ff at g1
 split at g1
 ·rename_i hc
  simp only [jD,oV]at hc
  omega
 ·simp at g1
def vJ(l:bK)(e p:Nat):bK:=⟨((l.Nodes.take (p+1)).drop e).map (sj (-(e:Int)))⟩
theorem ux{e:Nat}(hp:p<l.Nodes.length):(vJ l e p).Nodes.length=p+1-e:=by
 unfold vJ;simp;omega
theorem yI(h:nD l)(e p:Nat):nD (vJ l e p):=
 Pf fun n hn=>h n (List.mem_of_mem_take (List.mem_of_mem_drop hn))
theorem JF(hS:nD l)(hl:l.Nodes.length≤60){e:Nat}(hp:p<l.Nodes.length)(he:e≤100): ∀(tl:List M) (i fu:Nat) (out:bK),(l.Nodes.take (p+1)).drop i=tl→i+tl.length=p+1→tl.length<fu→out.Nodes.length≤i→lP l (p:Int) (e:Int) fu (i:Int) out=some (⟨out.Nodes++tl.map (sj (-(e:Int)))⟩,0):=by
 intro tl
 induction tl with
 |nil=>
  intro i fu out hd hi hf _
  obtain⟨fu,rfl⟩: ∃k,fu=k+1:=⟨fu-1,by omega⟩
  simp only [q7,zx]at hi
  rw [lP,bg (by simp;omega)]
  simp
 |cons x tl ih=>
  intro i fu out hd hi hf ho
  simp only [gJ]at hi hf
  obtain⟨fu,rfl⟩: ∃k,fu=k+1:=⟨fu-1,by omega⟩
  obtain⟨h1,h2,h3⟩:=im hd
  have h1' :cK l.Nodes (i:Int)=some x:=by
   rw [cg]at h1 ⊢
   rw [zE (by omega)]at h1
   exact h1
  have hx:iD x:=hS x (by rw [cg]at h1';exact qE h1')
  rw [lP,bm (by simp;omega),h1']
  simp only [be]
  rw [bP (n:=(0:Int)-(e:Int)) (by omega) (by omega),Be hx]
  simp only [be]
  rw [ca (by simp;omega),bP (by omega) (by omega),show((i:Int)+1)=((i+1:Nat):Int)from by omega]
  simp only [be]
  rw [ih (i+1) fu _ h3 (by omega) (by omega) (by simp;omega)]
  simp
theorem Hc(hS:nD l){ob:aq}(hL:CR l ob): ∀n∈l.Nodes,KP n∧(n.Op=1→0≤n.Table∧n.Table≤3):=by
 intro n hn
 obtain⟨j,hj,rfl⟩:=List.mem_iff_getElem.1 hn
 obtain⟨m,F⟩:=y8 hL.inv hL.le hj
 have hm:m=l.Nodes[j]:=by
  have:=F.node
  rw [cg,pE hj]at this
  injection this with this
  exact this.symm
 subst hm
 exact⟨N4 (hS _ hn) F.op F.own F.kinds,fun h1=>MG (hS _ hn) h1 F.kinds⟩

theorem Hn(n:M)(d:Int): ∀(fu:Nat) (ok:Bool) (i:Int),eZ (sj d n) fu ok i=eZ n fu ok i:=by
 intro fu
 induction fu with
 |zero=>intros;rfl
 |succ fu ih=>intros;simp only [eZ,ih];rfl
theorem Hl(n:M)(d:Int)(a:List Int): ∀(fu:Nat) (out:List Int) (ok:Bool) (i:Int),cY (sj d n) a fu out ok i=cY n a fu out ok i:=by
 intro fu
 induction fu with
 |zero=>intros;rfl
 |succ fu ih=>intros;simp only [cY,ih];rfl
theorem Hm(n:M)(d:Int)(a:List Int): ∀(fu:Nat) (out:List Int) (i:Int),dp (sj d n) a fu out i=dp n a fu out i:=by
 intro fu
 induction fu with
 |zero=>intros;rfl
 |succ fu ih=>intros;simp only [dp,ih,Hl];rfl
theorem Hk(n:M)(d:Int)(a:List Int): ∀(fu:Nat) (out:List Int) (ok:Bool) (i:Int),ez (sj d n) a fu out ok i=ez n a fu out ok i:=by
 intro fu
 induction fu with
 |zero=>intros;rfl
 |succ fu ih=>intros;simp only [ez,ih];rfl
theorem Hj(n:M)(d:Int)(a:List Int): ∀(fu:Nat) (ok:Bool) (i:Int),eY (sj d n) a fu ok i=eY n a fu ok i:=by
 intro fu
 induction fu with
 |zero=>intros;rfl
 |succ fu ih=>intros;simp only [eY,ih];rfl
theorem Hi(n:M)(d:Int)(a b:List Int):bM (sj d n) a b=bM n a b:=by
 unfold bM
 simp only [Hn,Hm,Hk,Hj]
 rfl
theorem O6(n:M)(d:Int):xL (sj d n)=xL n:=rfl
section
abbrev Bo(l:bK)(sz:Nat→Nat)(ks:Nat→List Int):Prop:= ∀j,j<l.Nodes.length→ ∃n,Ag l sz ks j n
theorem TA(H:Bo l sz ks): ∀(p:Nat),p<l.Nodes.length→ ∀q,p+1-sz p≤q→q≤p→p+1-sz p≤q+1-sz q:=by
 intro p
 induction p using Nat.strongRecOn with
 |ind p ih=>
  intro hp q h1 h2
  by_cases hq:q=p
  ·subst hq;exact dN _
  obtain⟨n,F⟩:=H p hp
  by_cases c1:n.Op=1
  ·obtain⟨_,_,e⟩:=F.lf c1
   omega
  by_cases c27:n.Op=2∨n.Op=7
  ·obtain⟨a,b,c,d,e⟩:=F.bi c27
   obtain⟨nA,FA⟩:=H (p-1-sz (p-1)) (by omega)
   have hpA:=FA.pos
   have hlA:=FA.le
   by_cases hB:p-1+1-sz (p-1)≤q
   ·have:=ih (p-1) (by omega) (by omega) q hB (by omega)
    omega
   ·have:=ih (p-1-sz (p-1)) (by omega) (by omega) q (by omega) (by omega)
    omega
  ·obtain⟨a,b,c,d⟩:=F.un c1 (fun h=>c27 (.inl h)) (fun h=>c27 (.inr h))
   have:=ih (p-1) (by omega) (by omega) q (by omega) (by omega)
   omega
theorem RQ(H:Bo l sz ks){i:Nat}(hp:p<l.Nodes.length)(h1:p+1-sz p≤i)(h2:i≤p)(F:Ag l sz ks i n):(n.A= -1∨((p+1-sz p:Nat):Int)≤n.A∧n.A<(i:Int))∧(n.B= -1∨((p+1-sz p:Nat):Int)≤n.B∧n.B<(i:Int)):=by
 have hn:=TA H p hp i h1 h2
 by_cases c1:n.Op=1
 ·obtain⟨a,b,_⟩:=F.lf c1
  exact⟨.inl a,.inl b⟩
 by_cases c27:n.Op=2∨n.Op=7
 ·obtain⟨a,b,c,d,e⟩:=F.bi c27
  obtain⟨nA,FA⟩:=H (i-1-sz (i-1)) (by omega)
  have hpA:=FA.pos
  have hlA:=FA.le
  exact⟨.inr (by omega),.inr (by omega)⟩
 ·obtain⟨a,b,c,d⟩:=F.un c1 (fun h=>c27 (.inl h)) (fun h=>c27 (.inr h))
  obtain⟨nA,FA⟩:=H (i-1) (by omega)
  have hpA:=FA.pos
  exact⟨.inr (by omega),.inl c⟩
theorem yw{d:Int}(h:x= -1):vt d x= -1:=by unfold vt;rw [bg (by omega),h]
theorem EV{e:Int}(h:0≤e)(h2:e≤x)(h3:x≤100000):vt (-e) x=x-e:=by
 unfold vt
 rw [bm (by omega),bP (by omega) (by omega)]
 omega
theorem Cn(H:Bo l sz ks)(hl:l.Nodes.length≤60)(hp:p<l.Nodes.length)(hs:sz p≤p+1):Bo (vJ l (p+1-sz p) p) (fun j=>sz (p+1-sz p+j)) (fun j=>ks (p+1-sz p+j)):=by
 obtain⟨e,he⟩: ∃e,e=p+1-sz p:=⟨_,rfl⟩
 rw [←he]
 intro j hj
 rw [ux hp]at hj
 obtain⟨n,F⟩:=H (e+j) (by omega)
 have hin:=RQ H hp (i:=e+j) (by omega) (by omega) F
 have hnest:=TA H p hp (e+j) (by omega) (by omega)
 rw [←he]at hin hnest
 obtain⟨hA,hB⟩:=hin
 refine⟨sj (-(e:Int)) n,⟨?_,F.op,by rw [O6];exact F.own,fun c1=>?_,fun c1 c2 c7=>?_,fun c27=>?_,?_,fun c8=>?_,F.len,F.pos,?_⟩⟩
 ·have h1:=F.node
  rw [cg]at h1 ⊢
  unfold vJ
  simp only
  rw [Ap,ve,zE (by omega),h1]
  rfl
 ·obtain⟨a,b,c⟩:=F.lf c1
  exact⟨yw a,yw b,c⟩
 ·obtain⟨a,b,c,d⟩:=F.un c1 c2 c7
  obtain⟨nA,FA⟩:=H (e+j-1) (by omega)
  have hpA:=FA.pos
  have eA:vt (-(e:Int)) n.A=n.A-(e:Int):=EV (by omega) (by omega) (by omega)
  refine⟨by omega,?_,yw c,?_⟩
  ·show vt (-(e:Int)) n.A=_
   rw [eA];omega
  ·show sz (e+j)=sz (e+(j-1))+1
   rw [d,show e+j-1=e+(j-1)from by omega]
 ·obtain⟨a,b,c,d,g⟩:=F.bi c27
  obtain⟨nA,FA⟩:=H (e+j-1-sz (e+j-1)) (by omega)
  have hpA:=FA.pos
  have eA:vt (-(e:Int)) n.A=n.A-(e:Int):=EV (by omega) (by omega) (by omega)
  have eB:vt (-(e:Int)) n.B=n.B-(e:Int):=EV (by omega) (by omega) (by omega)
  have ej:e+(j-1)=e+j-1:=by omega
  refine⟨by omega,?_,?_,?_,?_⟩
  ·show vt (-(e:Int)) n.B=_
   rw [eB];omega
  ·show sz (e+(j-1))<j
   rw [ej];omega
  ·show vt (-(e:Int)) n.A=(j:Int)-1-(sz (e+(j-1)):Int)
   rw [eA,ej];omega
  ·show sz (e+j)=sz (e+(j-1-sz (e+(j-1))))+sz (e+(j-1))+1
   rw [ej,g,show e+(j-1-sz (e+j-1))=e+j-1-sz (e+j-1)from by omega]
 ·rw [Hi]
  have key: ∀x:Int,(x= -1∨(e:Int)≤x∧x<((e+j:Nat):Int))→(if vt (-(e:Int)) x<0 then([]:List Int)else ks (e+(vt (-(e:Int)) x).toNat))=if x<0 then []else ks x.toNat:=by
   intro x hx
   rcases hx with hx|hx
   ·rw [yw hx,bm (by decide),bm (by omega)]
   ·rw [EV (by omega) hx.1 (by omega),bg (by omega),bg (by omega)]
    congr 1
    omega
  have h1:=F.kinds
  rw [←key n.A hA,←key n.B hB]at h1
  exact h1
 ·have:=F.last c8
  rw [ux hp]
  omega
 ·show sz (e+j)≤j+1
  have:=F.le
  omega
theorem IS(H:Bo l sz ks)(hl:l.Nodes.length≤60)(hp:p<l.Nodes.length)(hs:sz p≤p+1)(hs1:1≤sz p):qu (vJ l (p+1-sz p) p)=true:=by
 have hlen:=ux (l:=l) (e:=p+1-sz p) hp
 refine HB (by rw [hlen];omega) (by rw [hlen];omega) (Cn H hl hp hs) ?_
 rw [hlen]
 show sz (p+1-sz p+(p+1-(p+1-sz p)-1))=_
 rw [show p+1-sz p+(p+1-(p+1-sz p)-1)=p from by omega]
 omega
end
end Go.Proofs.YtnmjbolollcokaaGreatDoor

