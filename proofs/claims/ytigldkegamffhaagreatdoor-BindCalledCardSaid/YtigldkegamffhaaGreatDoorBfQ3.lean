/- de of this claim: M1, M2, M3, M4, M5, M6, M7, M8, M9, M16. -/
import Derived.Test.YtigldkegamffhaaGreatDoorBfQ2
set_option linter.all false
namespace Go.Proofs.YtigldkegamffhaaGreatDoor
open Go

def zV:cr:=⟨0,0,0,[]⟩
def bV(b:Bool):cr:=⟨1,if b then 1 else 0,0,[]⟩
def iV(n:Int):cr:=⟨2,n,0,[]⟩
def sV(s:cj):cr:=⟨3,0,0,s⟩
def r64(n:Int):Prop:= -9223372036854775808<=n/\n<=9223372036854775807
inductive Pl:cr->Prop
 |z:Pl zV
 |b (b:Bool):Pl (bV b)
 |i (n:Int) (h:r64 n):Pl (iV n)
 |s (s:cj) (h:s.length<=40):Pl (sV s)
inductive Tu:cr->Prop
 |z:Tu zV
 |b (b:Bool):Tu (bV b)





def sh(s:Nat)(x:Int):Int:=if 0<=x then x+(s:Int)else x
def LI(s:Nat)(n:ap):ap:=ia n (sh s n.L) (sh s n.R)
def bnd(n:ap):Prop:=n.L<=1000000/\n.R<=1000000
def ME(t:Tr): ∀s,s+t.size<=1000000-> ∀n∈t.flat s,bnd n:=by
 induction t with
 |lf m=>intro s _ n hn;simp only [Tr.flat,A9]at hn;subst hn;exact⟨by simp [ia],by simp [ia]⟩
 |un m a ih=>
  intro s hs n hn
  simp only [Tr.size]at hs
  simp only [Tr.flat,A6,A9]at hn
  rcases hn with hn|rfl
  ·exact ih s (by omega) n hn
  ·constructor<;>simp only [ia]<;>omega
 |bi m a b iha ihb=>
  intro s hs n hn
  simp only [Tr.size]at hs
  simp only [Tr.flat,A6,A9]at hn
  rcases hn with(hn|hn)|rfl
  ·exact iha s (by omega) n hn
  ·exact ihb _ (by omega) n hn
  ·constructor<;>simp only [ia]<;>omega
def LH(k:Nat)(n:ap)(l r:Int):LI k (ia n l r)=ia n (sh k l) (sh k r):=rfl
def N3{k:Nat}{x:Int}(h:0<=x):sh k x=x+(k:Int):=bv h
def YD(k:Nat):sh k (-1)= -1:=rfl
def Q4(t:Tr)(k:Nat): ∀s,(t.flat s).map (LI k)=t.flat (s+k):=by
 induction t with
 |lf m=>intro s;rfl
 |un m a ih=>
  intro s
  have:=a.size_pos
  simp only [Tr.flat,EO,ih,pE,EH,LH,YD]
  rw [N3 (by omega),show((s+a.size:Nat):Int)-1+(k:Int)=((s+k+a.size:Nat):Int)-1 from by omega]
 |bi m a b iha ihb=>
  intro s
  have:=a.size_pos
  have:=b.size_pos
  simp only [Tr.flat,EO,iha,ihb,pE,EH,LH]
  rw [N3 (by omega),N3 (by omega),show s+a.size+k=s+k+a.size from by omega,show((s+a.size:Nat):Int)-1+(k:Int)=((s+k+a.size:Nat):Int)-1 from by omega,show((s+a.size+b.size:Nat):Int)-1+(k:Int)=((s+k+a.size+b.size:Nat):Int)-1 from by omega]
def QP(out:List ap)(ho:out.length<=1000000): ∀(ns out1:List ap),(∀n∈ns,bnd n)->out1.length+ns.length<=1000000->jR out ns out1=some (out1++ns.map (LI out.length))
 |[],out1,_,_=>by simp [jR]
 |n::ns,out1,H,hl=>by
  simp only [iZ]at hl
  obtain⟨A,V⟩:=H n (lg ..)
  have ih:=QP out ho ns (out1++[LI out.length n]) (fun m hm=>H m (li _ hm)) (by simp;omega)
  have e9:out1++(n::ns).map (LI out.length)=out1++[LI out.length n]++ns.map (LI out.length):=by simp
  rw [e9]
  unfold jR
  have hk2: ∀m,m=LI out.length n->qN (jR out ns) out1 m=some (out1++[LI out.length n]++ns.map (LI out.length)):=by
   intro m hm
   unfold qN
   rw [dz (by simp;omega),hm]
   exact ih
  by_cases hL:0<=n.L
  ·rw [bv (by simpa using hL)]
   unfold qO
   rw [dP (n:=n.L+(out.length:Int)) (by omega) (by omega)]
   by_cases hR:0<=n.R
   ·rw [bv (by simpa using hR)]
    dsimp only
    rw [dP (n:=n.R+(out.length:Int)) (by omega) (by omega)]
    exact hk2 _ (by simp only [LI,ia,sh,bv hL,bv hR])
   ·rw [bm (by simpa using hR)]
    exact hk2 _ (by simp only [LI,ia,sh,bv hL,bm hR])
  ·rw [bm (by simpa using hL)]
   unfold qO
   by_cases hR:0<=n.R
   ·rw [bv (by simpa using hR)]
    rw [dP (n:=n.R+(out.length:Int)) (by omega) (by omega)]
    exact hk2 _ (by simp only [LI,ia,sh,bm hL,bv hR])
   ·rw [bm (by simpa using hR)]
    exact hk2 _ (by simp only [LI,ia,sh,bm hL,bm hR])
def Ec(out:List ap)(t:Tr)(h:out.length+t.size<=1000000):Ac out ⟨t.flat 0⟩=some (out++t.flat out.length):=by
 unfold Ac
 rw [QP out (by omega) _ _ (ME t 0 (by omega)) (by rw [t.flat_len];exact h),Q4]
 simp
def WI(n:ap):lD n []=some ⟨(Tr.lf n).flat 0⟩:=by
 unfold lD jj
 rw [show ep [(-1:Int),-1] 0=some (-1)from rfl,show ep [(-1:Int),-1] 1=some (-1)from rfl]
 simp only [aV]
 rw [dz (by simp)]
 rfl
def WH(n:ap)(a:Tr)(h:a.size<=100000):lD n [⟨a.flat 0⟩]=some ⟨(Tr.un n a).flat 0⟩:=by
 unfold lD jj
 rw [Ec [] a (by simp;omega)]
 simp only [aV,pe,rk]
 rw [show ep [(-1:Int),-1] ((0:Nat):Int)=some (-1)from rfl,a.flat_len,dP (by omega) (by omega)]
 simp only [aV]
 unfold jj
 rw [show([(-1:Int),-1].set ((0:Nat):Int).toNat ((a.size:Int)-1))=[(a.size:Int)-1,-1]from rfl]
 rw [show ep [(a.size:Int)-1,-1] 0=some ((a.size:Int)-1)from rfl,show ep [(a.size:Int)-1,-1] 1=some (-1)from rfl]
 simp only [aV]
 rw [dz (by simp [a.flat_len];omega)]
 simp [Tr.flat,ia]
def WG(n:ap)(a b:Tr)(h:a.size+b.size<=100000):lD n [⟨a.flat 0⟩,⟨b.flat 0⟩]=some ⟨(Tr.bi n a b).flat 0⟩:=by
 unfold lD jj
 rw [Ec [] a (by simp;omega)]
 simp only [aV,pe,rk]
 rw [show ep [(-1:Int),-1] ((0:Nat):Int)=some (-1)from rfl,a.flat_len,dP (by omega) (by omega)]
 simp only [aV]
 unfold jj
 rw [Ec (a.flat 0) b (by rw [a.flat_len];omega)]
 rw [show([(-1:Int),-1].set ((0:Nat):Int).toNat ((a.size:Int)-1))=[(a.size:Int)-1,-1]from rfl]
 simp only [aV]
 rw [show ep [(a.size:Int)-1,-1] ((0+1:Nat):Int)=some (-1)from rfl]
 simp only [aV]
 rw [gA,a.flat_len,b.flat_len,dP (by omega) (by omega)]
 unfold jj
 rw [show([(a.size:Int)-1,-1].set ((0+1:Nat):Int).toNat (((a.size+b.size:Nat):Int)-1))=[(a.size:Int)-1,((a.size+b.size:Nat):Int)-1]from rfl]
 rw [show ep [(a.size:Int)-1,((a.size+b.size:Nat):Int)-1] 0=some ((a.size:Int)-1)from rfl,show ep [(a.size:Int)-1,((a.size+b.size:Nat):Int)-1] 1=some (((a.size+b.size:Nat):Int)-1)from rfl]
 simp only [aV]
 rw [dz (by simp [a.flat_len,b.flat_len];omega)]
 simp [Tr.flat,ia]

def us(s:Nat)(x:Int):Int:=if 0<=x then x-(s:Int)else x


def Df{a b:Bool}(h:a=true↔b=true):a=b:=by cases a<;>cases b<;>simp_all
def MN{α:Type}{ys:List α}{i:Nat}(h:i<ys.length):ep ys (i:Int)=some ys[i]:=by rw [fE,qf h]
def MJ(ys:List ap): ∀(tl:List ap) (i:Nat),i+tl.length=ys.length->eC ys tl i=some (decide (tl=ys.drop i))
 |[],i,h=>by
  have e:ys.drop i=[]:=o6 (by simp at h;omega)
  rw [e];rfl
 |e::tl,i,h=>by
  simp only [iZ]at h
  have hi:i<ys.length:=by omega
  unfold eC
  rw [MN hi,rn hi]
  simp only [aV]
  by_cases he:e=ys[i]
  ·rw [bm (by simp [he]),MJ ys tl (i+1) (by omega)]
   congr 1
   apply Df
   simp only [mo]
   rw [he]
   exact⟨fun h=>by rw [h],fun h=>(Cg h).2⟩
  ·rw [bv (by simp [he])]
   congr 1
   apply Df
   simp only [mo,lh,false_iff]
   exact fun h=>he (Cg h).1
def oS(a b:aA):ln a b=some (decide (a.Nodes=b.Nodes)):=by
 unfold ln jb
 by_cases h:a.Nodes.length=b.Nodes.length
 ·rw [bm (by simp [h]),MJ _ _ 0 (by omega)]
  simp
 ·rw [bv (by simp;omega)]
  have: ¬a.Nodes=b.Nodes:=fun e=>h (by rw [e])
  simp [this]
def LS(b:aA): ∀(tl:List ap) (i:Nat),i+tl.length=b.Nodes.length->rZ b tl i=some (decide (tl=b.Nodes.drop i))
 |[],i,h=>by
  have e:b.Nodes.drop i=[]:=o6 (by simp at h;omega)
  rw [e];rfl
 |e::tl,i,h=>by
  simp only [iZ]at h
  have hi:i<b.Nodes.length:=by omega
  unfold rZ
  rw [MN hi,rn hi]
  simp only [aV]
  by_cases he:e=b.Nodes[i]
  ·rw [bm (by simp [he]),LS b tl (i+1) (by omega)]
   congr 1
   apply Df
   simp only [mo]
   rw [he]
   exact⟨fun h=>by rw [h],fun h=>(Cg h).2⟩
  ·rw [bv (by simp [he])]
   congr 1
   apply Df
   simp only [mo,lh,false_iff]
   exact fun h=>he (Cg h).1
def IB(a b:aA):wL a b=some (decide (a.Nodes=b.Nodes)):=by
 unfold wL
 by_cases h:a.Nodes.length=b.Nodes.length
 ·rw [bm (by simp [h]),LS _ _ 0 (by omega)]
  simp
 ·rw [bv (by simp;omega)]
  have: ¬a.Nodes=b.Nodes:=fun e=>h (by rw [e])
  simp [this]

def Wq(k:Nat)(n:ap):ap:=⟨n.Tag,if 0<=n.L then IntKind.i64.wrap (n.L+(k:Int))else n.L,if 0<=n.R then IntKind.i64.wrap (n.R+(k:Int))else n.R,n.Col,n.Value⟩
def Wp{k:Nat}{n:ap}(h:bnd n)(hk:k<=1000000):Wq k n=LI k n:=by
 obtain⟨A,V⟩:=h
 unfold Wq LI sh ia
 congr 1
 ·split
  ·rw [dP (by omega) (by omega)]
  ·rfl
 ·split
  ·rw [dP (by omega) (by omega)]
  ·rfl
def Hq(t:Tr)(k:Nat)(M:t.size<=1000000)(hk:k<=1000000):(t.flat 0).map (Wq k)=t.flat k:=by
 rw [Lq (g:=LI k) fun n hn=>Wp (ME t 0 (by omega) n hn) hk,Q4,rj]
def BW(nx:Nat->ap->aA->Option aA)(i:Nat)(root1:ap)(out:aA): ∀(es out1:List ap),out1.length+es.length<=1000000->gv nx i root1 out es ⟨out1⟩=gv nx i root1 out [] ⟨out1++es.map (Wq out.Nodes.length)⟩:=by
 intro es
 induction es with
 |nil=>intro out1 _;simp
 |cons n es ih=>
  intro out1 hl
  simp only [iZ]at hl
  have step: ∀n1:ap,sa (gv nx i root1 out es) ⟨out1⟩ n1=gv nx i root1 out es ⟨out1++[n1]⟩:=by
   intro n1
   unfold sa
   rw [dz (by simp;omega)];rfl
  have key:gv nx i root1 out (n::es) ⟨out1⟩=gv nx i root1 out es ⟨out1++[Wq out.Nodes.length n]⟩:=by
   conv=>lhs;unfold gv
   unfold vJ Wq
   by_cases A:0<=n.L
   ·rw [bv (by simpa using A)]
    by_cases V:0<=n.R
    ·rw [bv (by simpa using V),step]
     simp only [A,V,i8]
    ·rw [bm (by simpa using V),step]
     simp only [A,V,i8,jB]
   ·rw [bm (by simpa using A)]
    by_cases V:0<=n.R
    ·rw [bv (by simpa using V),step]
     simp only [A,V,i8,jB]
    ·rw [bm (by simpa using V),step]
     simp only [A,V,jB]
  rw [key,ih _ (by simp;omega)]
  simp
def If(i:Nat)(root:ap)(out:List ap)(h:out.length<=1000000):lN [] i root ⟨out⟩=some ⟨out++[root]⟩:=by
 unfold lN
 rw [dz (by simp;omega)];rfl
def acm(n:ap):gU n []=some ⟨[ia n (-1) (-1)]⟩:=by
 unfold gU
 exact If 0 _ [] (by simp)
def acl(n:ap)(a:List ap)(h:a.length<=100000):gU n [⟨a⟩]=some ⟨a.map (Wq 0)++[ia n ((a.length:Int)-1) (-1)]⟩:=by
 unfold gU lN
 rw [BW _ _ _ _ _ _ (by simp;omega)]
 unfold gv
 rw [bv (by decide)]
 simp only [pe,rk,Cb]
 rw [If _ _ _ (by simp;omega),dP (by omega) (by omega)]
 rfl
def ack(n:ap)(a b:List ap)(h:a.length<=100000)(V:b.length<=100000):gU n [⟨a⟩,⟨b⟩]=some ⟨a.map (Wq 0)++b.map (Wq a.length)++[ia n ((a.length:Int)-1) (((a.length+b.length:Nat):Int)-1)]⟩:=by
 unfold gU lN
 rw [BW _ _ _ _ _ _ (by simp;omega)]
 unfold gv
 rw [bv (by decide)]
 simp only [pe,rk,Cb]
 unfold lN
 rw [BW _ _ _ _ _ _ (by simp;omega)]
 unfold gv
 rw [bm (by decide)]
 simp only [Cb,gA]
 rw [If _ _ _ (by simp;omega),dP (by omega) (by omega),dP (by omega) (by omega)]
 rfl
def PQ(n:ap)(a:Tr)(h:a.size<=100000):gU n [⟨a.flat 0⟩]=some ⟨(Tr.un n a).flat 0⟩:=by
 rw [acl _ _ (by rw [a.flat_len];exact h),Hq a 0 (by omega) (by omega),a.flat_len]
 simp [Tr.flat]
def PP(n:ap)(a b:Tr)(h:a.size<=100000)(V:b.size<=100000):gU n [⟨a.flat 0⟩,⟨b.flat 0⟩]=some ⟨(Tr.bi n a b).flat 0⟩:=by
 rw [ack _ _ _ (by rw [a.flat_len];exact h) (by rw [b.flat_len];exact V),Hq a 0 (by omega) (by omega),a.flat_len,Hq b a.size (by omega) (by omega),b.flat_len]
 simp [Tr.flat]
def Y6(b:Bool)(w:aA):aA×Int:=if b then(w,0)else(⟨[]⟩,200)
def OM(root:ap)(l:List aA)(x:aA): ∀tl:List aA,(∀e∈tl,e.Nodes.length<=100000)->nh root l tl x=if tl.all (fun e=>kQ e.Nodes)then nh root l [] x else some (⟨[]⟩,200):=by
 intro tl
 induction tl with
 |nil=>intro _;rfl
 |cons e tl ih=>
  intro hl
  conv=>lhs;unfold nh
  rw [sk e (hl e (lg ..)),aV,ih fun q hq=>hl q (li _ hq),sn]
  cases kQ e.Nodes with
  |true=>rw [bm (by decide),vG]
  |false=>rfl
def yX{root:ap}{l:List aA}{w:aA}(hl: ∀e∈l,e.Nodes.length<=100000)(ha:l.all (fun e=>kQ e.Nodes)=true)(hj:lD root l=some w)(hw:w.Nodes.length<=100000):rJ root l=some (Y6 (kQ w.Nodes) w):=by
 unfold rJ
 rw [OM root l _ l hl,ha,bv rfl]
 unfold nh
 rw [hj,aV,sk w hw,aV]
 cases kQ w.Nodes<;>rfl
def uH(tag:Int):ap:=⟨tag,0,0,0,⟨0,0,0,[]⟩⟩
end Go.Proofs.YtigldkegamffhaaGreatDoor

