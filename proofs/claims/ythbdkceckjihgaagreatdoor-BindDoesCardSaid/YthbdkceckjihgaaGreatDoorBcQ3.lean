/- dm of this claim: M1, M2, M3, M4, M5, M6, M7, M8, M9, M16. -/
import Derived.Test.YthbdkceckjihgaaGreatDoorBcQ2
set_option linter.all false
namespace Go.Proofs.YthbdkceckjihgaaGreatDoor
open Go

def zV:cJ:=⟨0,0,0,[]⟩
def bV(b:Bool):cJ:=⟨1,if b then 1 else 0,0,[]⟩
def iV(n:Int):cJ:=⟨2,n,0,[]⟩
def sV(s:cX):cJ:=⟨3,0,0,s⟩
def r64(n:Int):Prop:= -9223372036854775808<=n/\n<=9223372036854775807
inductive Pl:cJ->Prop
 |z:Pl zV
 |b (b:Bool):Pl (bV b)
 |i (n:Int) (h:r64 n):Pl (iV n)
 |s (s:cX) (h:s.length<=40):Pl (sV s)
inductive Tu:cJ->Prop
 |z:Tu zV
 |b (b:Bool):Tu (bV b)





def sh(s:Nat)(x:Int):Int:=if 0<=x then x+(s:Int)else x
def Lh(s:Nat)(n:aD):aD:=gX n (sh s n.L) (sh s n.R)
def bnd(n:aD):Prop:=n.L<=1000000/\n.R<=1000000
def Mh(t:Tr): ∀s,s+t.size<=1000000-> ∀n∈t.flat s,bnd n:=by
 induction t with
 |lf m=>intro s _ n hn;simp only [Tr.flat,Bx]at hn;subst hn;exact⟨by simp [gX],by simp [gX]⟩
 |un m a ih=>
  intro s hs n hn
  simp only [Tr.size]at hs
  simp only [Tr.flat,Bv,Bx]at hn
  rcases hn with hn|rfl
  ·exact ih s (by omega) n hn
  ·constructor<;>simp only [gX]<;>omega
 |bi m a b iha ihb=>
  intro s hs n hn
  simp only [Tr.size]at hs
  simp only [Tr.flat,Bv,Bx]at hn
  rcases hn with(hn|hn)|rfl
  ·exact iha s (by omega) n hn
  ·exact ihb _ (by omega) n hn
  ·constructor<;>simp only [gX]<;>omega
def Lg(k:Nat)(n:aD)(l r:Int):Lh k (gX n l r)=gX n (sh k l) (sh k r):=rfl
def No{k:Nat}{x:Int}(h:0<=x):sh k x=x+(k:Int):=cx h
def X5(k:Nat):sh k (-1)= -1:=rfl
def PU(t:Tr)(k:Nat): ∀s,(t.flat s).map (Lh k)=t.flat (s+k):=by
 induction t with
 |lf m=>intro s;rfl
 |un m a ih=>
  intro s
  have:=a.size_pos
  simp only [Tr.flat,Iu,ih,uM,EB,Lg,X5]
  rw [No (by omega),show((s+a.size:Nat):Int)-1+(k:Int)=((s+k+a.size:Nat):Int)-1 from by omega]
 |bi m a b iha ihb=>
  intro s
  have:=a.size_pos
  have:=b.size_pos
  simp only [Tr.flat,Iu,iha,ihb,uM,EB,Lg]
  rw [No (by omega),No (by omega),show s+a.size+k=s+k+a.size from by omega,show((s+a.size:Nat):Int)-1+(k:Int)=((s+k+a.size:Nat):Int)-1 from by omega,show((s+a.size+b.size:Nat):Int)-1+(k:Int)=((s+k+a.size+b.size:Nat):Int)-1 from by omega]
def PI(out:List aD)(ho:out.length<=1000000): ∀(ns out1:List aD),(∀n∈ns,bnd n)->out1.length+ns.length<=1000000->kj out ns out1=some (out1++ns.map (Lh out.length))
 |[],out1,_,_=>by simp [kj]
 |n::ns,out1,A,hl=>by
  simp only [ji]at hl
  obtain⟨H,J⟩:=A n (oh ..)
  have ih:=PI out ho ns (out1++[Lh out.length n]) (fun m hm=>A m (oO _ hm)) (by simp;omega)
  have e9:out1++(n::ns).map (Lh out.length)=out1++[Lh out.length n]++ns.map (Lh out.length):=by simp
  rw [e9]
  unfold kj
  have hk2: ∀m,m=Lh out.length n->sj (kj out ns) out1 m=some (out1++[Lh out.length n]++ns.map (Lh out.length)):=by
   intro m hm
   unfold sj
   rw [dF (by simp;omega),hm]
   exact ih
  by_cases hL:0<=n.L
  ·rw [cx (by simpa using hL)]
   unfold sk
   rw [dW (n:=n.L+(out.length:Int)) (by omega) (by omega)]
   by_cases hR:0<=n.R
   ·rw [cx (by simpa using hR)]
    dsimp only
    rw [dW (n:=n.R+(out.length:Int)) (by omega) (by omega)]
    exact hk2 _ (by simp only [Lh,gX,sh,cx hL,cx hR])
   ·rw [cm (by simpa using hR)]
    exact hk2 _ (by simp only [Lh,gX,sh,cx hL,cm hR])
  ·rw [cm (by simpa using hL)]
   unfold sk
   by_cases hR:0<=n.R
   ·rw [cx (by simpa using hR)]
    rw [dW (n:=n.R+(out.length:Int)) (by omega) (by omega)]
    exact hk2 _ (by simp only [Lh,gX,sh,cm hL,cx hR])
   ·rw [cm (by simpa using hR)]
    exact hk2 _ (by simp only [Lh,gX,sh,cm hL,cm hR])
def D6(out:List aD)(t:Tr)(h:out.length+t.size<=1000000):AE out ⟨t.flat 0⟩=some (out++t.flat out.length):=by
 unfold AE
 rw [PI out (by omega) _ _ (Mh t 0 (by omega)) (by rw [t.flat_len];exact h),PU]
 simp
def Vf(n:aD):mK n []=some ⟨(Tr.lf n).flat 0⟩:=by
 unfold mK jx
 rw [show fz [(-1:Int),-1] 0=some (-1)from rfl,show fz [(-1:Int),-1] 1=some (-1)from rfl]
 simp only [bI]
 rw [dF (by simp)]
 rfl
def Ve(n:aD)(a:Tr)(h:a.size<=100000):mK n [⟨a.flat 0⟩]=some ⟨(Tr.un n a).flat 0⟩:=by
 unfold mK jx
 rw [D6 [] a (by simp;omega)]
 simp only [bI,qo,sG]
 rw [show fz [(-1:Int),-1] ((0:Nat):Int)=some (-1)from rfl,a.flat_len,dW (by omega) (by omega)]
 simp only [bI]
 unfold jx
 rw [show([(-1:Int),-1].set ((0:Nat):Int).toNat ((a.size:Int)-1))=[(a.size:Int)-1,-1]from rfl]
 rw [show fz [(a.size:Int)-1,-1] 0=some ((a.size:Int)-1)from rfl,show fz [(a.size:Int)-1,-1] 1=some (-1)from rfl]
 simp only [bI]
 rw [dF (by simp [a.flat_len];omega)]
 simp [Tr.flat,gX]
def Vd(n:aD)(a b:Tr)(h:a.size+b.size<=100000):mK n [⟨a.flat 0⟩,⟨b.flat 0⟩]=some ⟨(Tr.bi n a b).flat 0⟩:=by
 unfold mK jx
 rw [D6 [] a (by simp;omega)]
 simp only [bI,qo,sG]
 rw [show fz [(-1:Int),-1] ((0:Nat):Int)=some (-1)from rfl,a.flat_len,dW (by omega) (by omega)]
 simp only [bI]
 unfold jx
 rw [D6 (a.flat 0) b (by rw [a.flat_len];omega)]
 rw [show([(-1:Int),-1].set ((0:Nat):Int).toNat ((a.size:Int)-1))=[(a.size:Int)-1,-1]from rfl]
 simp only [bI]
 rw [show fz [(a.size:Int)-1,-1] ((0+1:Nat):Int)=some (-1)from rfl]
 simp only [bI]
 rw [pg,a.flat_len,b.flat_len,dW (by omega) (by omega)]
 unfold jx
 rw [show([(a.size:Int)-1,-1].set ((0+1:Nat):Int).toNat (((a.size+b.size:Nat):Int)-1))=[(a.size:Int)-1,((a.size+b.size:Nat):Int)-1]from rfl]
 rw [show fz [(a.size:Int)-1,((a.size+b.size:Nat):Int)-1] 0=some ((a.size:Int)-1)from rfl,show fz [(a.size:Int)-1,((a.size+b.size:Nat):Int)-1] 1=some (((a.size+b.size:Nat):Int)-1)from rfl]
 simp only [bI]
 rw [dF (by simp [a.flat_len,b.flat_len];omega)]
 simp [Tr.flat,gX]

def us(s:Nat)(x:Int):Int:=if 0<=x then x-(s:Int)else x


def Dn{a b:Bool}(h:a=true↔b=true):a=b:=by cases a<;>cases b<;>simp_all
def Mp{α:Type}{ys:List α}{i:Nat}(h:i<ys.length):fz ys (i:Int)=some ys[i]:=by rw [jt,lr h]
def Mk(ys:List aD): ∀(tl:List aD) (i:Nat),i+tl.length=ys.length->eA ys tl i=some (decide (tl=ys.drop i))
 |[],i,h=>by
  have e:ys.drop i=[]:=rE (by simp at h;omega)
  rw [e];rfl
 |e::tl,i,h=>by
  simp only [ji]at h
  have hi:i<ys.length:=by omega
  unfold eA
  rw [Mp hi,sH hi]
  simp only [bI]
  by_cases he:e=ys[i]
  ·rw [cm (by simp [he]),Mk ys tl (i+1) (by omega)]
   congr 1
   apply Dn
   simp only [mV]
   rw [he]
   exact⟨fun h=>by rw [h],fun h=>(Cr h).2⟩
  ·rw [cx (by simp [he])]
   congr 1
   apply Dn
   simp only [mV,kM,false_iff]
   exact fun h=>he (Cr h).1
def Kv(a b:aZ):AF a b=some (decide (a.Nodes=b.Nodes)):=by
 unfold AF jl
 by_cases h:a.Nodes.length=b.Nodes.length
 ·rw [cm (by simp [h]),Mk _ _ 0 (by omega)]
  simp
 ·rw [cx (by simp;omega)]
  have: ¬a.Nodes=b.Nodes:=fun e=>h (by rw [e])
  simp [this]
def Ly(b:aZ): ∀(tl:List aD) (i:Nat),i+tl.length=b.Nodes.length->qx b tl i=some (decide (tl=b.Nodes.drop i))
 |[],i,h=>by
  have e:b.Nodes.drop i=[]:=rE (by simp at h;omega)
  rw [e];rfl
 |e::tl,i,h=>by
  simp only [ji]at h
  have hi:i<b.Nodes.length:=by omega
  unfold qx
  rw [Mp hi,sH hi]
  simp only [bI]
  by_cases he:e=b.Nodes[i]
  ·rw [cm (by simp [he]),Ly b tl (i+1) (by omega)]
   congr 1
   apply Dn
   simp only [mV]
   rw [he]
   exact⟨fun h=>by rw [h],fun h=>(Cr h).2⟩
  ·rw [cx (by simp [he])]
   congr 1
   apply Dn
   simp only [mV,kM,false_iff]
   exact fun h=>he (Cr h).1
def oI(a b:aZ):lV a b=some (decide (a.Nodes=b.Nodes)):=by
 unfold lV
 by_cases h:a.Nodes.length=b.Nodes.length
 ·rw [cm (by simp [h]),Ly _ _ 0 (by omega)]
  simp
 ·rw [cx (by simp;omega)]
  have: ¬a.Nodes=b.Nodes:=fun e=>h (by rw [e])
  simp [this]

def U0(k:Nat)(n:aD):aD:=⟨n.Tag,if 0<=n.L then IntKind.i64.wrap (n.L+(k:Int))else n.L,if 0<=n.R then IntKind.i64.wrap (n.R+(k:Int))else n.R,n.Col,n.Value⟩
def UZ{k:Nat}{n:aD}(h:bnd n)(hk:k<=1000000):U0 k n=Lh k n:=by
 obtain⟨H,J⟩:=h
 unfold U0 Lh sh gX
 congr 1
 ·split
  ·rw [dW (by omega) (by omega)]
  ·rfl
 ·split
  ·rw [dW (by omega) (by omega)]
  ·rfl
def G7(t:Tr)(k:Nat)(M:t.size<=1000000)(hk:k<=1000000):(t.flat 0).map (U0 k)=t.flat k:=by
 rw [List.map_congr_left (g:=Lh k) fun n hn=>UZ (Mh t 0 (by omega) n hn) hk,PU,sE]
def Ci(nx:Nat->aD->aZ->Option aZ)(i:Nat)(root1:aD)(out:aZ): ∀(es out1:List aD),out1.length+es.length<=1000000->eQ nx i root1 out es ⟨out1⟩=eQ nx i root1 out [] ⟨out1++es.map (U0 out.Nodes.length)⟩:=by
 intro es
 induction es with
 |nil=>intro out1 _;simp
 |cons n es ih=>
  intro out1 hl
  simp only [ji]at hl
  have step: ∀n1:aD,qy (eQ nx i root1 out es) ⟨out1⟩ n1=eQ nx i root1 out es ⟨out1++[n1]⟩:=by
   intro n1
   unfold qy
   rw [dF (by simp;omega)];rfl
  have key:eQ nx i root1 out (n::es) ⟨out1⟩=eQ nx i root1 out es ⟨out1++[U0 out.Nodes.length n]⟩:=by
   conv=>lhs;unfold eQ
   unfold tn U0
   by_cases H:0<=n.L
   ·rw [cx (by simpa using H)]
    by_cases J:0<=n.R
    ·rw [cx (by simpa using J),step]
     simp only [H,J,jb]
    ·rw [cm (by simpa using J),step]
     simp only [H,J,jb,jh]
   ·rw [cm (by simpa using H)]
    by_cases J:0<=n.R
    ·rw [cx (by simpa using J),step]
     simp only [H,J,jb,jh]
    ·rw [cm (by simpa using J),step]
     simp only [H,J,jh]
  rw [key,ih _ (by simp;omega)]
  simp
def HO(i:Nat)(root:aD)(out:List aD)(h:out.length<=1000000):iz [] i root ⟨out⟩=some ⟨out++[root]⟩:=by
 unfold iz
 rw [dF (by simp;omega)];rfl
def abZ(n:aD):gv n []=some ⟨[gX n (-1) (-1)]⟩:=by
 unfold gv
 exact HO 0 _ [] (by simp)
def abY(n:aD)(a:List aD)(h:a.length<=100000):gv n [⟨a⟩]=some ⟨a.map (U0 0)++[gX n ((a.length:Int)-1) (-1)]⟩:=by
 unfold gv iz
 rw [Ci _ _ _ _ _ _ (by simp;omega)]
 unfold eQ
 rw [cx (by decide)]
 simp only [qo,sG,A2]
 rw [HO _ _ _ (by simp;omega),dW (by omega) (by omega)]
 rfl
def abX(n:aD)(a b:List aD)(h:a.length<=100000)(J:b.length<=100000):gv n [⟨a⟩,⟨b⟩]=some ⟨a.map (U0 0)++b.map (U0 a.length)++[gX n ((a.length:Int)-1) (((a.length+b.length:Nat):Int)-1)]⟩:=by
 unfold gv iz
 rw [Ci _ _ _ _ _ _ (by simp;omega)]
 unfold eQ
 rw [cx (by decide)]
 simp only [qo,sG,A2]
 unfold iz
 rw [Ci _ _ _ _ _ _ (by simp;omega)]
 unfold eQ
 rw [cm (by decide)]
 simp only [A2,pg]
 rw [HO _ _ _ (by simp;omega),dW (by omega) (by omega),dW (by omega) (by omega)]
 rfl
def OS(n:aD)(a:Tr)(h:a.size<=100000):gv n [⟨a.flat 0⟩]=some ⟨(Tr.un n a).flat 0⟩:=by
 rw [abY _ _ (by rw [a.flat_len];exact h),G7 a 0 (by omega) (by omega),a.flat_len]
 simp [Tr.flat]
def OR(n:aD)(a b:Tr)(h:a.size<=100000)(J:b.size<=100000):gv n [⟨a.flat 0⟩,⟨b.flat 0⟩]=some ⟨(Tr.bi n a b).flat 0⟩:=by
 rw [abX _ _ _ (by rw [a.flat_len];exact h) (by rw [b.flat_len];exact J),G7 a 0 (by omega) (by omega),a.flat_len,G7 b a.size (by omega) (by omega),b.flat_len]
 simp [Tr.flat]
def Yq(b:Bool)(w:aZ):aZ×Int:=if b then(w,0)else(⟨[]⟩,200)
def NY(root:aD)(l:List aZ)(x:aZ): ∀tl:List aZ,(∀e∈tl,e.Nodes.length<=100000)->n5 root l tl x=if tl.all (fun e=>lS e.Nodes)then n5 root l [] x else some (⟨[]⟩,200):=by
 intro tl
 induction tl with
 |nil=>intro _;rfl
 |cons e tl ih=>
  intro hl
  conv=>lhs;unfold n5
  rw [tE e (hl e (oh ..)),bI,ih fun q hq=>hl q (oO _ hq),tI]
  cases lS e.Nodes with
  |true=>rw [cm (by decide),wY]
  |false=>rfl
def zJ{root:aD}{l:List aZ}{w:aZ}(hl: ∀e∈l,e.Nodes.length<=100000)(ha:l.all (fun e=>lS e.Nodes)=true)(hj:mK root l=some w)(hw:w.Nodes.length<=100000):sZ root l=some (Yq (lS w.Nodes) w):=by
 unfold sZ
 rw [NY root l _ l hl,ha,cx rfl]
 unfold n5
 rw [hj,bI,tE w hw,bI]
 cases lS w.Nodes<;>rfl
def vQ(tag:Int):aD:=⟨tag,0,0,0,⟨0,0,0,[]⟩⟩
end Go.Proofs.YthbdkceckjihgaaGreatDoor

