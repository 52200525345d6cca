/- cm of this claim: M1, M2, M3, M4, M5, M6, M7, M8, M9, M16. -/
import Derived.Test.YthbdkceckjihgaaGreatDoorBdQ2
set_option linter.all false
namespace Go.Proofs.YthbdkceckjihgaaGreatDoor
open Go

def zV:bZ:=⟨0,0,0,[]⟩
def bV(b:Bool):bZ:=⟨1,if b then 1 else 0,0,[]⟩
def iV(n:Int):bZ:=⟨2,n,0,[]⟩
def sV(s:cB):bZ:=⟨3,0,0,s⟩
def r64(n:Int):Prop:= -9223372036854775808<=n/\n<=9223372036854775807
inductive Pl:bZ->Prop
 |z:Pl zV
 |b (b:Bool):Pl (bV b)
 |i (n:Int) (h:r64 n):Pl (iV n)
 |s (s:cB) (h:s.length<=40):Pl (sV s)
inductive Tu:bZ->Prop
 |z:Tu zV
 |b (b:Bool):Tu (bV b)





def sh(s:Nat)(x:Int):Int:=if 0<=x then x+(s:Int)else x
def Hk(s:Nat)(n:ap):ap:=fy n (sh s n.L) (sh s n.R)
def X8(n:ap):Prop:=n.L<=1000000/\n.R<=1000000
def Id(t:Tr): ∀s,s+t.size<=1000000-> ∀n∈t.flat s,X8 n:=by
 induction t with
 |lf m=>intro s _ n hn;simp only [Tr.flat,uk]at hn;subst hn;exact⟨by simp [fy],by simp [fy]⟩
 |un m a ih=>
  intro s hs n hn
  simp only [Tr.size]at hs
  simp only [Tr.flat,uu,uk]at hn
  rcases hn with hn|rfl
  ·exact ih s (by omega) n hn
  ·constructor<;>simp only [fy]<;>omega
 |bi m a b iha ihb=>
  intro s hs n hn
  simp only [Tr.size]at hs
  simp only [Tr.flat,uu,uk]at hn
  rcases hn with(hn|hn)|rfl
  ·exact iha s (by omega) n hn
  ·exact ihb _ (by omega) n hn
  ·constructor<;>simp only [fy]<;>omega
def Hj(k:Nat)(n:ap)(l r:Int):Hk k (fy n l r)=fy n (sh k l) (sh k r):=rfl
def I7{k:Nat}{x:Int}(h:0<=x):sh k x=x+(k:Int):=bK h
def Ti(k:Nat):sh k (-1)= -1:=rfl
def Lp(t:Tr)(k:Nat): ∀s,(t.flat s).map (Hk k)=t.flat (s+k):=by
 induction t with
 |lf m=>intro s;rfl
 |un m a ih=>
  intro s
  have:=a.size_pos
  simp only [Tr.flat,List.map_append,ih,sn,List.map_nil,Hj,Ti]
  rw [I7 (by omega),show((s+a.size:Nat):Int)-1+(k:Int)=((s+k+a.size:Nat):Int)-1 from by omega]
 |bi m a b iha ihb=>
  intro s
  have:=a.size_pos
  have:=b.size_pos
  simp only [Tr.flat,List.map_append,iha,ihb,sn,List.map_nil,Hj]
  rw [I7 (by omega),I7 (by omega),show s+a.size+k=s+k+a.size from by omega,show((s+a.size:Nat):Int)-1+(k:Int)=((s+k+a.size:Nat):Int)-1 from by omega,show((s+a.size+b.size:Nat):Int)-1+(k:Int)=((s+k+a.size+b.size:Nat):Int)-1 from by omega]
def Lf(out:List ap)(ho:out.length<=1000000): ∀(ns out1:List ap),(∀n∈ns,X8 n)->out1.length+ns.length<=1000000->ig out ns out1=some (out1++ns.map (Hk out.length))
 |[],out1,_,_=>by simp [ig]
 |n::ns,out1,H,hl=>by
  simp only [gq]at hl
  obtain⟨A,V⟩:=H n (ln ..)
  have ih:=Lf out ho ns (out1++[Hk out.length n]) (fun m hm=>H m (lH _ hm)) (by simp;omega)
  have e9:out1++(n::ns).map (Hk out.length)=out1++[Hk out.length n]++ns.map (Hk out.length):=by simp
  rw [e9]
  unfold ig
  have hk2: ∀m,m=Hk out.length n->oe (ig out ns) out1 m=some (out1++[Hk out.length n]++ns.map (Hk out.length)):=by
   intro m hm
   unfold oe
   rw [cW (by simp;omega),hm]
   exact ih
  by_cases hL:0<=n.L
  ·rw [bK (by simpa using hL)]
   unfold oh
   rw [dS (n:=n.L+(out.length:Int)) (by omega) (by omega)]
   by_cases hR:0<=n.R
   ·rw [bK (by simpa using hR)]
    dsimp only
    rw [dS (n:=n.R+(out.length:Int)) (by omega) (by omega)]
    exact hk2 _ (by simp only [Hk,fy,sh,bK hL,bK hR])
   ·rw [bG (by simpa using hR)]
    exact hk2 _ (by simp only [Hk,fy,sh,bK hL,bG hR])
  ·rw [bG (by simpa using hL)]
   unfold oh
   by_cases hR:0<=n.R
   ·rw [bK (by simpa using hR)]
    rw [dS (n:=n.R+(out.length:Int)) (by omega) (by omega)]
    exact hk2 _ (by simp only [Hk,fy,sh,bG hL,bK hR])
   ·rw [bG (by simpa using hR)]
    exact hk2 _ (by simp only [Hk,fy,sh,bG hL,bG hR])
def zQ(out:List ap)(t:Tr)(h:out.length+t.size<=1000000):vQ out ⟨t.flat 0⟩=some (out++t.flat out.length):=by
 unfold vQ
 rw [Lf out (by omega) _ _ (Id t 0 (by omega)) (by rw [t.flat_len];exact h),Lp]
 simp
def QR(n:ap):jX n []=some ⟨(Tr.lf n).flat 0⟩:=by
 unfold jX gC
 rw [show fE [(-1:Int),-1] 0=some (-1)from rfl,show fE [(-1:Int),-1] 1=some (-1)from rfl]
 simp only [aX]
 rw [cW (by simp)]
 rfl
def QQ(n:ap)(a:Tr)(h:a.size<=100000):jX n [⟨a.flat 0⟩]=some ⟨(Tr.un n a).flat 0⟩:=by
 unfold jX gC
 rw [zQ [] a (by simp;omega)]
 simp only [aX,nj,pj]
 rw [show fE [(-1:Int),-1] ((0:Nat):Int)=some (-1)from rfl,a.flat_len,dS (by omega) (by omega)]
 simp only [aX]
 unfold gC
 rw [show([(-1:Int),-1].set ((0:Nat):Int).toNat ((a.size:Int)-1))=[(a.size:Int)-1,-1]from rfl]
 rw [show fE [(a.size:Int)-1,-1] 0=some ((a.size:Int)-1)from rfl,show fE [(a.size:Int)-1,-1] 1=some (-1)from rfl]
 simp only [aX]
 rw [cW (by simp [a.flat_len];omega)]
 simp [Tr.flat,fy]
def QP(n:ap)(a b:Tr)(h:a.size+b.size<=100000):jX n [⟨a.flat 0⟩,⟨b.flat 0⟩]=some ⟨(Tr.bi n a b).flat 0⟩:=by
 unfold jX gC
 rw [zQ [] a (by simp;omega)]
 simp only [aX,nj,pj]
 rw [show fE [(-1:Int),-1] ((0:Nat):Int)=some (-1)from rfl,a.flat_len,dS (by omega) (by omega)]
 simp only [aX]
 unfold gC
 rw [zQ (a.flat 0) b (by rw [a.flat_len];omega)]
 rw [show([(-1:Int),-1].set ((0:Nat):Int).toNat ((a.size:Int)-1))=[(a.size:Int)-1,-1]from rfl]
 simp only [aX]
 rw [show fE [(a.size:Int)-1,-1] ((0+1:Nat):Int)=some (-1)from rfl]
 simp only [aX]
 rw [mY,a.flat_len,b.flat_len,dS (by omega) (by omega)]
 unfold gC
 rw [show([(a.size:Int)-1,-1].set ((0+1:Nat):Int).toNat (((a.size+b.size:Nat):Int)-1))=[(a.size:Int)-1,((a.size+b.size:Nat):Int)-1]from rfl]
 rw [show fE [(a.size:Int)-1,((a.size+b.size:Nat):Int)-1] 0=some ((a.size:Int)-1)from rfl,show fE [(a.size:Int)-1,((a.size+b.size:Nat):Int)-1] 1=some (((a.size+b.size:Nat):Int)-1)from rfl]
 simp only [aX]
 rw [cW (by simp [a.flat_len,b.flat_len];omega)]
 simp [Tr.flat,fy]

def us(s:Nat)(x:Int):Int:=if 0<=x then x-(s:Int)else x


def yW{a b:Bool}(h:a=true↔b=true):a=b:=by cases a<;>cases b<;>simp_all
def Im{α:Type}{ys:List α}{i:Nat}(h:i<ys.length):fE ys (i:Int)=some ys[i]:=by rw [mK,kQ h]
def Ii(ys:List ap): ∀(tl:List ap) (i:Nat),i+tl.length=ys.length->dq ys tl i=some (decide (tl=ys.drop i))
 |[],i,h=>by
  have e:ys.drop i=[]:=su (by simp at h;omega)
  rw [e];rfl
 |e::tl,i,h=>by
  simp only [gq]at h
  have hi:i<ys.length:=by omega
  unfold dq
  rw [Im hi,wN hi]
  simp only [aX]
  by_cases he:e=ys[i]
  ·rw [bG (by simp [he]),Ii ys tl (i+1) (by omega)]
   congr 1
   apply yW
   simp only [il]
   rw [he]
   exact⟨fun h=>by rw [h],fun h=>(xS h).2⟩
  ·rw [bK (by simp [he])]
   congr 1
   apply yW
   simp only [il,j0,false_iff]
   exact fun h=>he (xS h).1
def Gv(a b:aB):vR a b=some (decide (a.Nodes=b.Nodes)):=by
 unfold vR gx
 by_cases h:a.Nodes.length=b.Nodes.length
 ·rw [bG (by simp [h]),Ii _ _ 0 (by omega)]
  simp
 ·rw [bK (by simp;omega)]
  have: ¬a.Nodes=b.Nodes:=fun e=>h (by rw [e])
  simp [this]
def Hu(b:aB): ∀(tl:List ap) (i:Nat),i+tl.length=b.Nodes.length->o5 b tl i=some (decide (tl=b.Nodes.drop i))
 |[],i,h=>by
  have e:b.Nodes.drop i=[]:=su (by simp at h;omega)
  rw [e];rfl
 |e::tl,i,h=>by
  simp only [gq]at h
  have hi:i<b.Nodes.length:=by omega
  unfold o5
  rw [Im hi,wN hi]
  simp only [aX]
  by_cases he:e=b.Nodes[i]
  ·rw [bG (by simp [he]),Hu b tl (i+1) (by omega)]
   congr 1
   apply yW
   simp only [il]
   rw [he]
   exact⟨fun h=>by rw [h],fun h=>(xS h).2⟩
  ·rw [bK (by simp [he])]
   congr 1
   apply yW
   simp only [il,j0,false_iff]
   exact fun h=>he (xS h).1
def D3(a b:aB):s9 a b=some (decide (a.Nodes=b.Nodes)):=by
 unfold s9
 by_cases h:a.Nodes.length=b.Nodes.length
 ·rw [bG (by simp [h]),Hu _ _ 0 (by omega)]
  simp
 ·rw [bK (by simp;omega)]
  have: ¬a.Nodes=b.Nodes:=fun e=>h (by rw [e])
  simp [this]

def QA(k:Nat)(n:ap):ap:=⟨n.Tag,if 0<=n.L then IntKind.i64.wrap (n.L+(k:Int))else n.L,if 0<=n.R then IntKind.i64.wrap (n.R+(k:Int))else n.R,n.Col,n.Value⟩
def Qz{k:Nat}{n:ap}(h:X8 n)(hk:k<=1000000):QA k n=Hk k n:=by
 obtain⟨A,V⟩:=h
 unfold QA Hk sh fy
 congr 1
 ·split
  ·rw [dS (by omega) (by omega)]
  ·rfl
 ·split
  ·rw [dS (by omega) (by omega)]
  ·rfl
def CY(t:Tr)(k:Nat)(M:t.size<=1000000)(hk:k<=1000000):(t.flat 0).map (QA k)=t.flat k:=by
 rw [List.map_congr_left (g:=Hk k) fun n hn=>Qz (Id t 0 (by omega) n hn) hk,Lp,ph]
def xD(nx:Nat->ap->aB->Option aB)(i:Nat)(root1:ap)(out:aB): ∀(es out1:List ap),out1.length+es.length<=1000000->eJ nx i root1 out es ⟨out1⟩=eJ nx i root1 out [] ⟨out1++es.map (QA out.Nodes.length)⟩:=by
 intro es
 induction es with
 |nil=>intro out1 _;simp
 |cons n es ih=>
  intro out1 hl
  simp only [gq]at hl
  have step: ∀n1:ap,o6 (eJ nx i root1 out es) ⟨out1⟩ n1=eJ nx i root1 out es ⟨out1++[n1]⟩:=by
   intro n1
   unfold o6
   rw [cW (by simp;omega)];rfl
  have key:eJ nx i root1 out (n::es) ⟨out1⟩=eJ nx i root1 out es ⟨out1++[QA out.Nodes.length n]⟩:=by
   conv=>lhs;unfold eJ
   unfold sa QA
   by_cases A:0<=n.L
   ·rw [bK (by simpa using A)]
    by_cases V:0<=n.R
    ·rw [bK (by simpa using V),step]
     simp only [A,V,gO]
    ·rw [bG (by simpa using V),step]
     simp only [A,V,gO,iB]
   ·rw [bG (by simpa using A)]
    by_cases V:0<=n.R
    ·rw [bK (by simpa using V),step]
     simp only [A,V,gO,iB]
    ·rw [bG (by simpa using V),step]
     simp only [A,V,iB]
  rw [key,ih _ (by simp;omega)]
  simp
def DC(i:Nat)(root:ap)(out:List ap)(h:out.length<=1000000):j8 [] i root ⟨out⟩=some ⟨out++[root]⟩:=by
 unfold j8
 rw [cW (by simp;omega)];rfl
def WH(n:ap):ff n []=some ⟨[fy n (-1) (-1)]⟩:=by
 unfold ff
 exact DC 0 _ [] (by simp)
def WG(n:ap)(a:List ap)(h:a.length<=100000):ff n [⟨a⟩]=some ⟨a.map (QA 0)++[fy n ((a.length:Int)-1) (-1)]⟩:=by
 unfold ff j8
 rw [xD _ _ _ _ _ _ (by simp;omega)]
 unfold eJ
 rw [bK (by decide)]
 simp only [nj,pj,BL]
 rw [DC _ _ _ (by simp;omega),dS (by omega) (by omega)]
 rfl
def WF(n:ap)(a b:List ap)(h:a.length<=100000)(V:b.length<=100000):ff n [⟨a⟩,⟨b⟩]=some ⟨a.map (QA 0)++b.map (QA a.length)++[fy n ((a.length:Int)-1) (((a.length+b.length:Nat):Int)-1)]⟩:=by
 unfold ff j8
 rw [xD _ _ _ _ _ _ (by simp;omega)]
 unfold eJ
 rw [bK (by decide)]
 simp only [nj,pj,BL]
 unfold j8
 rw [xD _ _ _ _ _ _ (by simp;omega)]
 unfold eJ
 rw [bG (by decide)]
 simp only [BL,mY]
 rw [DC _ _ _ (by simp;omega),dS (by omega) (by omega),dS (by omega) (by omega)]
 rfl
def Kp(n:ap)(a:Tr)(h:a.size<=100000):ff n [⟨a.flat 0⟩]=some ⟨(Tr.un n a).flat 0⟩:=by
 rw [WG _ _ (by rw [a.flat_len];exact h),CY a 0 (by omega) (by omega),a.flat_len]
 simp [Tr.flat]
def Ko(n:ap)(a b:Tr)(h:a.size<=100000)(V:b.size<=100000):ff n [⟨a.flat 0⟩,⟨b.flat 0⟩]=some ⟨(Tr.bi n a b).flat 0⟩:=by
 rw [WF _ _ _ (by rw [a.flat_len];exact h) (by rw [b.flat_len];exact V),CY a 0 (by omega) (by omega),a.flat_len,CY b a.size (by omega) (by omega),b.flat_len]
 simp [Tr.flat]
def TH(b:Bool)(w:aB):aB×Int:=if b then(w,0)else(⟨[]⟩,200)
def JD(root:ap)(l:List aB)(x:aB): ∀tl:List aB,(∀e∈tl,e.Nodes.length<=100000)->kY root l tl x=if tl.all (fun e=>jx e.Nodes)then kY root l [] x else some (⟨[]⟩,200):=by
 intro tl
 induction tl with
 |nil=>intro _;rfl
 |cons e tl ih=>
  intro hl
  conv=>lhs;unfold kY
  rw [pf e (hl e (ln ..)),aX,ih fun q hq=>hl q (lH _ hq),uj]
  cases jx e.Nodes with
  |true=>rw [bG (by decide),ut]
  |false=>rfl
def uR{root:ap}{l:List aB}{w:aB}(hl: ∀e∈l,e.Nodes.length<=100000)(ha:l.all (fun e=>jx e.Nodes)=true)(hj:jX root l=some w)(hw:w.Nodes.length<=100000):oU root l=some (TH (jx w.Nodes) w):=by
 unfold oU
 rw [JD root l _ l hl,ha,bK rfl]
 unfold kY
 rw [hj,aX,pf w hw,aX]
 cases jx w.Nodes<;>rfl
def qJ(tag:Int):ap:=⟨tag,0,0,0,⟨0,0,0,[]⟩⟩
end Go.Proofs.YthbdkceckjihgaaGreatDoor

