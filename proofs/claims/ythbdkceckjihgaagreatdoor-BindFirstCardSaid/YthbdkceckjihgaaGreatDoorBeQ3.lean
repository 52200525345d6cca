/- cu of this claim: M1, M2, M3, M4, M5, M6, M7, M8, M9, M16. -/
import Derived.Test.YthbdkceckjihgaaGreatDoorBeQ2
set_option linter.all false
namespace Go.Proofs.YthbdkceckjihgaaGreatDoor
open Go

def zV:bO:=⟨0,0,0,[]⟩
def bV(b:Bool):bO:=⟨1,if b then 1 else 0,0,[]⟩
def iV(n:Int):bO:=⟨2,n,0,[]⟩
def sV(s:bZ):bO:=⟨3,0,0,s⟩
def r64(n:Int):Prop:= -9223372036854775808<=n/\n<=9223372036854775807
inductive Pl:bO->Prop
 |z:Pl zV
 |b (b:Bool):Pl (bV b)
 |i (n:Int) (h:r64 n):Pl (iV n)
 |s (s:bZ) (h:s.length<=40):Pl (sV s)
inductive Tu:bO->Prop
 |z:Tu zV
 |b (b:Bool):Tu (bV b)





def sh(s:Nat)(x:Int):Int:=if 0<=x then x+(s:Int)else x
def IC(s:Nat)(n:ap):ap:=fJ n (sh s n.L) (sh s n.R)
def Zg(n:ap):Prop:=n.L<=1000000/\n.R<=1000000
def Ju(t:Tr): ∀s,s+t.size<=1000000-> ∀n∈t.flat s,Zg n:=by
 induction t with
 |lf m=>intro s _ n hn;simp only [Tr.flat,xN]at hn;subst hn;exact⟨by simp [fJ],by simp [fJ]⟩
 |un m a ih=>
  intro s hs n hn
  simp only [Tr.size]at hs
  simp only [Tr.flat,xK,xN]at hn
  rcases hn with hn|rfl
  ·exact ih s (by omega) n hn
  ·constructor<;>simp only [fJ]<;>omega
 |bi m a b iha ihb=>
  intro s hs n hn
  simp only [Tr.size]at hs
  simp only [Tr.flat,xK,xN]at hn
  rcases hn with(hn|hn)|rfl
  ·exact iha s (by omega) n hn
  ·exact ihb _ (by omega) n hn
  ·constructor<;>simp only [fJ]<;>omega
def IB(k:Nat)(n:ap)(l r:Int):IC k (fJ n l r)=fJ n (sh k l) (sh k r):=rfl
def Ks{k:Nat}{x:Int}(h:0<=x):sh k x=x+(k:Int):=bD h
def UP(k:Nat):sh k (-1)= -1:=rfl
def MX(t:Tr)(k:Nat): ∀s,(t.flat s).map (IC k)=t.flat (s+k):=by
 induction t with
 |lf m=>intro s;rfl
 |un m a ih=>
  intro s
  have:=a.size_pos
  simp only [Tr.flat,FI,ih,qT,BM,IB,UP]
  rw [Ks (by omega),show((s+a.size:Nat):Int)-1+(k:Int)=((s+k+a.size:Nat):Int)-1 from by omega]
 |bi m a b iha ihb=>
  intro s
  have:=a.size_pos
  have:=b.size_pos
  simp only [Tr.flat,FI,iha,ihb,qT,BM,IB]
  rw [Ks (by omega),Ks (by omega),show s+a.size+k=s+k+a.size from by omega,show((s+a.size:Nat):Int)-1+(k:Int)=((s+k+a.size:Nat):Int)-1 from by omega,show((s+a.size+b.size:Nat):Int)-1+(k:Int)=((s+k+a.size+b.size:Nat):Int)-1 from by omega]
def MH(out:List ap)(ho:out.length<=1000000): ∀(ns out1:List ap),(∀n∈ns,Zg n)->out1.length+ns.length<=1000000->iv out ns out1=some (out1++ns.map (IC out.length))
 |[],out1,_,_=>by simp [iv]
 |n::ns,out1,H,hl=>by
  simp only [gz]at hl
  obtain⟨A,D⟩:=H n (lL ..)
  have ih:=MH out ho ns (out1++[IC out.length n]) (fun m hm=>H m (ma _ hm)) (by simp;omega)
  have e9:out1++(n::ns).map (IC out.length)=out1++[IC out.length n]++ns.map (IC out.length):=by simp
  rw [e9]
  unfold iv
  have hk2: ∀m,m=IC out.length n->pf (iv out ns) out1 m=some (out1++[IC out.length n]++ns.map (IC out.length)):=by
   intro m hm
   unfold pf
   rw [cG (by simp;omega),hm]
   exact ih
  by_cases hL:0<=n.L
  ·rw [bD (by simpa using hL)]
   unfold pg
   rw [cV (n:=n.L+(out.length:Int)) (by omega) (by omega)]
   by_cases hR:0<=n.R
   ·rw [bD (by simpa using hR)]
    dsimp only
    rw [cV (n:=n.R+(out.length:Int)) (by omega) (by omega)]
    exact hk2 _ (by simp only [IC,fJ,sh,bD hL,bD hR])
   ·rw [bv (by simpa using hR)]
    exact hk2 _ (by simp only [IC,fJ,sh,bD hL,bv hR])
  ·rw [bv (by simpa using hL)]
   unfold pg
   by_cases hR:0<=n.R
   ·rw [bD (by simpa using hR)]
    rw [cV (n:=n.R+(out.length:Int)) (by omega) (by omega)]
    exact hk2 _ (by simp only [IC,fJ,sh,bv hL,bD hR])
   ·rw [bv (by simpa using hR)]
    exact hk2 _ (by simp only [IC,fJ,sh,bv hL,bv hR])
def Bl(out:List ap)(t:Tr)(h:out.length+t.size<=1000000):xv out ⟨t.flat 0⟩=some (out++t.flat out.length):=by
 unfold xv
 rw [MH out (by omega) _ _ (Ju t 0 (by omega)) (by rw [t.flat_len];exact h),MX]
 simp
def Su(n:ap):j5 n []=some ⟨(Tr.lf n).flat 0⟩:=by
 unfold j5 gI
 rw [show fg [(-1:Int),-1] 0=some (-1)from rfl,show fg [(-1:Int),-1] 1=some (-1)from rfl]
 simp only [aP]
 rw [cG (by simp)]
 rfl
def Sr(n:ap)(a:Tr)(h:a.size<=100000):j5 n [⟨a.flat 0⟩]=some ⟨(Tr.un n a).flat 0⟩:=by
 unfold j5 gI
 rw [Bl [] a (by simp;omega)]
 simp only [aP,nu,pB]
 rw [show fg [(-1:Int),-1] ((0:Nat):Int)=some (-1)from rfl,a.flat_len,cV (by omega) (by omega)]
 simp only [aP]
 unfold gI
 rw [show([(-1:Int),-1].set ((0:Nat):Int).toNat ((a.size:Int)-1))=[(a.size:Int)-1,-1]from rfl]
 rw [show fg [(a.size:Int)-1,-1] 0=some ((a.size:Int)-1)from rfl,show fg [(a.size:Int)-1,-1] 1=some (-1)from rfl]
 simp only [aP]
 rw [cG (by simp [a.flat_len];omega)]
 simp [Tr.flat,fJ]
def Sq(n:ap)(a b:Tr)(h:a.size+b.size<=100000):j5 n [⟨a.flat 0⟩,⟨b.flat 0⟩]=some ⟨(Tr.bi n a b).flat 0⟩:=by
 unfold j5 gI
 rw [Bl [] a (by simp;omega)]
 simp only [aP,nu,pB]
 rw [show fg [(-1:Int),-1] ((0:Nat):Int)=some (-1)from rfl,a.flat_len,cV (by omega) (by omega)]
 simp only [aP]
 unfold gI
 rw [Bl (a.flat 0) b (by rw [a.flat_len];omega)]
 rw [show([(-1:Int),-1].set ((0:Nat):Int).toNat ((a.size:Int)-1))=[(a.size:Int)-1,-1]from rfl]
 simp only [aP]
 rw [show fg [(a.size:Int)-1,-1] ((0+1:Nat):Int)=some (-1)from rfl]
 simp only [aP]
 rw [mV,a.flat_len,b.flat_len,cV (by omega) (by omega)]
 unfold gI
 rw [show([(a.size:Int)-1,-1].set ((0+1:Nat):Int).toNat (((a.size+b.size:Nat):Int)-1))=[(a.size:Int)-1,((a.size+b.size:Nat):Int)-1]from rfl]
 rw [show fg [(a.size:Int)-1,((a.size+b.size:Nat):Int)-1] 0=some ((a.size:Int)-1)from rfl,show fg [(a.size:Int)-1,((a.size+b.size:Nat):Int)-1] 1=some (((a.size+b.size:Nat):Int)-1)from rfl]
 simp only [aP]
 rw [cG (by simp [a.flat_len,b.flat_len];omega)]
 simp [Tr.flat,fJ]

def us(s:Nat)(x:Int):Int:=if 0<=x then x-(s:Int)else x


def AB{a b:Bool}(h:a=true↔b=true):a=b:=by cases a<;>cases b<;>simp_all
def JC{α:Type}{ys:List α}{i:Nat}(h:i<ys.length):fg ys (i:Int)=some ys[i]:=by rw [iu,jA h]
def Jy(ys:List ap): ∀(tl:List ap) (i:Nat),i+tl.length=ys.length->dr ys tl i=some (decide (tl=ys.drop i))
 |[],i,h=>by
  have e:ys.drop i=[]:=oE (by simp at h;omega)
  rw [e];rfl
 |e::tl,i,h=>by
  simp only [gz]at h
  have hi:i<ys.length:=by omega
  unfold dr
  rw [JC hi,pC hi]
  simp only [aP]
  by_cases he:e=ys[i]
  ·rw [bv (by simp [he]),Jy ys tl (i+1) (by omega)]
   congr 1
   apply AB
   simp only [li]
   rw [he]
   exact⟨fun h=>by rw [h],fun h=>(zI h).2⟩
  ·rw [bD (by simp [he])]
   congr 1
   apply AB
   simp only [li,jS,false_iff]
   exact fun h=>he (zI h).1
def HV(a b:aD):xw a b=some (decide (a.Nodes=b.Nodes)):=by
 unfold xw gB
 by_cases h:a.Nodes.length=b.Nodes.length
 ·rw [bv (by simp [h]),Jy _ _ 0 (by omega)]
  simp
 ·rw [bD (by simp;omega)]
  have: ¬a.Nodes=b.Nodes:=fun e=>h (by rw [e])
  simp [this]
def IP(b:aD): ∀(tl:List ap) (i:Nat),i+tl.length=b.Nodes.length->p8 b tl i=some (decide (tl=b.Nodes.drop i))
 |[],i,h=>by
  have e:b.Nodes.drop i=[]:=oE (by simp at h;omega)
  rw [e];rfl
 |e::tl,i,h=>by
  simp only [gz]at h
  have hi:i<b.Nodes.length:=by omega
  unfold p8
  rw [JC hi,pC hi]
  simp only [aP]
  by_cases he:e=b.Nodes[i]
  ·rw [bv (by simp [he]),IP b tl (i+1) (by omega)]
   congr 1
   apply AB
   simp only [li]
   rw [he]
   exact⟨fun h=>by rw [h],fun h=>(zI h).2⟩
  ·rw [bD (by simp [he])]
   congr 1
   apply AB
   simp only [li,jS,false_iff]
   exact fun h=>he (zI h).1
def Fs(a b:aD):uC a b=some (decide (a.Nodes=b.Nodes)):=by
 unfold uC
 by_cases h:a.Nodes.length=b.Nodes.length
 ·rw [bv (by simp [h]),IP _ _ 0 (by omega)]
  simp
 ·rw [bD (by simp;omega)]
  have: ¬a.Nodes=b.Nodes:=fun e=>h (by rw [e])
  simp [this]

def Sd(k:Nat)(n:ap):ap:=⟨n.Tag,if 0<=n.L then IntKind.i64.wrap (n.L+(k:Int))else n.L,if 0<=n.R then IntKind.i64.wrap (n.R+(k:Int))else n.R,n.Col,n.Value⟩
def Sc{k:Nat}{n:ap}(h:Zg n)(hk:k<=1000000):Sd k n=IC k n:=by
 obtain⟨A,D⟩:=h
 unfold Sd IC sh fJ
 congr 1
 ·split
  ·rw [cV (by omega) (by omega)]
  ·rfl
 ·split
  ·rw [cV (by omega) (by omega)]
  ·rfl
def Ep(t:Tr)(k:Nat)(M:t.size<=1000000)(hk:k<=1000000):(t.flat 0).map (Sd k)=t.flat k:=by
 rw [Ih (g:=IC k) fun n hn=>Sc (Ju t 0 (by omega) n hn) hk,MX,pz]
def zx(nx:Nat->ap->aD->Option aD)(i:Nat)(root1:ap)(out:aD): ∀(es out1:List ap),out1.length+es.length<=1000000->eK nx i root1 out es ⟨out1⟩=eK nx i root1 out [] ⟨out1++es.map (Sd out.Nodes.length)⟩:=by
 intro es
 induction es with
 |nil=>intro out1 _;simp
 |cons n es ih=>
  intro out1 hl
  simp only [gz]at hl
  have step: ∀n1:ap,p9 (eK nx i root1 out es) ⟨out1⟩ n1=eK nx i root1 out es ⟨out1++[n1]⟩:=by
   intro n1
   unfold p9
   rw [cG (by simp;omega)];rfl
  have key:eK nx i root1 out (n::es) ⟨out1⟩=eK nx i root1 out es ⟨out1++[Sd out.Nodes.length n]⟩:=by
   conv=>lhs;unfold eK
   unfold tF Sd
   by_cases A:0<=n.L
   ·rw [bD (by simpa using A)]
    by_cases D:0<=n.R
    ·rw [bD (by simpa using D),step]
     simp only [A,D,gW]
    ·rw [bv (by simpa using D),step]
     simp only [A,D,gW,ii]
   ·rw [bv (by simpa using A)]
    by_cases D:0<=n.R
    ·rw [bD (by simpa using D),step]
     simp only [A,D,gW,ii]
    ·rw [bv (by simpa using D),step]
     simp only [A,D,ii]
  rw [key,ih _ (by simp;omega)]
  simp
def E8(i:Nat)(root:ap)(out:List ap)(h:out.length<=1000000):kf [] i root ⟨out⟩=some ⟨out++[root]⟩:=by
 unfold kf
 rw [cG (by simp;omega)];rfl
def X6(n:ap):fx n []=some ⟨[fJ n (-1) (-1)]⟩:=by
 unfold fx
 exact E8 0 _ [] (by simp)
def X5(n:ap)(a:List ap)(h:a.length<=100000):fx n [⟨a⟩]=some ⟨a.map (Sd 0)++[fJ n ((a.length:Int)-1) (-1)]⟩:=by
 unfold fx kf
 rw [zx _ _ _ _ _ _ (by simp;omega)]
 unfold eK
 rw [bD (by decide)]
 simp only [nu,pB,xX]
 rw [E8 _ _ _ (by simp;omega),cV (by omega) (by omega)]
 rfl
def X4(n:ap)(a b:List ap)(h:a.length<=100000)(D:b.length<=100000):fx n [⟨a⟩,⟨b⟩]=some ⟨a.map (Sd 0)++b.map (Sd a.length)++[fJ n ((a.length:Int)-1) (((a.length+b.length:Nat):Int)-1)]⟩:=by
 unfold fx kf
 rw [zx _ _ _ _ _ _ (by simp;omega)]
 unfold eK
 rw [bD (by decide)]
 simp only [nu,pB,xX]
 unfold kf
 rw [zx _ _ _ _ _ _ (by simp;omega)]
 unfold eK
 rw [bv (by decide)]
 simp only [xX,mV]
 rw [E8 _ _ _ (by simp;omega),cV (by omega) (by omega),cV (by omega) (by omega)]
 rfl
def LT(n:ap)(a:Tr)(h:a.size<=100000):fx n [⟨a.flat 0⟩]=some ⟨(Tr.un n a).flat 0⟩:=by
 rw [X5 _ _ (by rw [a.flat_len];exact h),Ep a 0 (by omega) (by omega),a.flat_len]
 simp [Tr.flat]
def LS(n:ap)(a b:Tr)(h:a.size<=100000)(D:b.size<=100000):fx n [⟨a.flat 0⟩,⟨b.flat 0⟩]=some ⟨(Tr.bi n a b).flat 0⟩:=by
 rw [X4 _ _ _ (by rw [a.flat_len];exact h) (by rw [b.flat_len];exact D),Ep a 0 (by omega) (by omega),a.flat_len,Ep b a.size (by omega) (by omega),b.flat_len]
 simp [Tr.flat]
def U9(b:Bool)(w:aD):aD×Int:=if b then(w,0)else(⟨[]⟩,200)
def KX(root:ap)(l:List aD)(x:aD): ∀tl:List aD,(∀e∈tl,e.Nodes.length<=100000)->lD root l tl x=if tl.all (fun e=>jE e.Nodes)then lD root l [] x else some (⟨[]⟩,200):=by
 intro tl
 induction tl with
 |nil=>intro _;rfl
 |cons e tl ih=>
  intro hl
  conv=>lhs;unfold lD
  rw [qh e (hl e (lL ..)),aP,ih fun q hq=>hl q (ma _ hq),qk]
  cases jE e.Nodes with
  |true=>rw [bv (by decide),tw]
  |false=>rfl
def wp{root:ap}{l:List aD}{w:aD}(hl: ∀e∈l,e.Nodes.length<=100000)(ha:l.all (fun e=>jE e.Nodes)=true)(hj:j5 root l=some w)(hw:w.Nodes.length<=100000):pT root l=some (U9 (jE w.Nodes) w):=by
 unfold pT
 rw [KX root l _ l hl,ha,bD rfl]
 unfold lD
 rw [hj,aP,qh w hw,aP]
 cases jE w.Nodes<;>rfl
def sa(tag:Int):ap:=⟨tag,0,0,0,⟨0,0,0,[]⟩⟩
end Go.Proofs.YthbdkceckjihgaaGreatDoor

