/- du of this claim: M1, M2, M3, M4, M5, M6, M7, M8, M9, M16. -/
import Derived.Test.YthbdkceckjihgaaGreatDoorBbQ2
set_option linter.all false
namespace Go.Proofs.YthbdkceckjihgaaGreatDoor
open Go

def zV:cJ:=⟨0,0,0,[]⟩
def bV(b:Bool):cJ:=⟨1,if b then 1 else 0,0,[]⟩
def iV(n:Int):cJ:=⟨2,n,0,[]⟩
def sV(s:cS):cJ:=⟨3,0,0,s⟩
def r64(n:Int):Prop:= -9223372036854775808<=n/\n<=9223372036854775807
inductive Pl:cJ->Prop
 |z:Pl zV
 |b (b:Bool):Pl (bV b)
 |i (n:Int) (h:r64 n):Pl (iV n)
 |s (s:cS) (h:s.length<=40):Pl (sV s)
inductive Tu:cJ->Prop
 |z:Tu zV
 |b (b:Bool):Tu (bV b)





def sh(s:Nat)(x:Int):Int:=if 0<=x then x+(s:Int)else x
def K0(s:Nat)(n:aC):aC:=hU n (sh s n.L) (sh s n.R)
def bnd(n:aC):Prop:=n.L<=1000000/\n.R<=1000000
def LZ(t:Tr): ∀s,s+t.size<=1000000-> ∀n∈t.flat s,bnd n:=by
 induction t with
 |lf m=>intro s _ n hn;simp only [Tr.flat,Bn]at hn;subst hn;exact⟨by simp [hU],by simp [hU]⟩
 |un m a ih=>
  intro s hs n hn
  simp only [Tr.size]at hs
  simp only [Tr.flat,Bj,Bn]at hn
  rcases hn with hn|rfl
  ·exact ih s (by omega) n hn
  ·constructor<;>simp only [hU]<;>omega
 |bi m a b iha ihb=>
  intro s hs n hn
  simp only [Tr.size]at hs
  simp only [Tr.flat,Bj,Bn]at hn
  rcases hn with(hn|hn)|rfl
  ·exact iha s (by omega) n hn
  ·exact ihb _ (by omega) n hn
  ·constructor<;>simp only [hU]<;>omega
def KZ(k:Nat)(n:aC)(l r:Int):K0 k (hU n l r)=hU n (sh k l) (sh k r):=rfl
def MU{k:Nat}{x:Int}(h:0<=x):sh k x=x+(k:Int):=cz h
def X3(k:Nat):sh k (-1)= -1:=rfl
def PA(t:Tr)(k:Nat): ∀s,(t.flat s).map (K0 k)=t.flat (s+k):=by
 induction t with
 |lf m=>intro s;rfl
 |un m a ih=>
  intro s
  have:=a.size_pos
  simp only [Tr.flat,Im,ih,uG,Ez,KZ,X3]
  rw [MU (by omega),show((s+a.size:Nat):Int)-1+(k:Int)=((s+k+a.size:Nat):Int)-1 from by omega]
 |bi m a b iha ihb=>
  intro s
  have:=a.size_pos
  have:=b.size_pos
  simp only [Tr.flat,Im,iha,ihb,uG,Ez,KZ]
  rw [MU (by omega),MU (by omega),show s+a.size+k=s+k+a.size from by omega,show((s+a.size:Nat):Int)-1+(k:Int)=((s+k+a.size:Nat):Int)-1 from by omega,show((s+a.size+b.size:Nat):Int)-1+(k:Int)=((s+k+a.size+b.size:Nat):Int)-1 from by omega]
def Pn(out:List aC)(ho:out.length<=1000000): ∀(ns out1:List aC),(∀n∈ns,bnd n)->out1.length+ns.length<=1000000->kw out ns out1=some (out1++ns.map (K0 out.length))
 |[],out1,_,_=>by simp [kw]
 |n::ns,out1,Y,hl=>by
  simp only [jm]at hl
  obtain⟨V,Z⟩:=Y n (oa ..)
  have ih:=Pn out ho ns (out1++[K0 out.length n]) (fun m hm=>Y m (oD _ hm)) (by simp;omega)
  have e9:out1++(n::ns).map (K0 out.length)=out1++[K0 out.length n]++ns.map (K0 out.length):=by simp
  rw [e9]
  unfold kw
  have hk2: ∀m,m=K0 out.length n->rY (kw out ns) out1 m=some (out1++[K0 out.length n]++ns.map (K0 out.length)):=by
   intro m hm
   unfold rY
   rw [dH (by simp;omega),hm]
   exact ih
  by_cases hL:0<=n.L
  ·rw [cz (by simpa using hL)]
   unfold rZ
   rw [d6 (n:=n.L+(out.length:Int)) (by omega) (by omega)]
   by_cases hR:0<=n.R
   ·rw [cz (by simpa using hR)]
    dsimp only
    rw [d6 (n:=n.R+(out.length:Int)) (by omega) (by omega)]
    exact hk2 _ (by simp only [K0,hU,sh,cz hL,cz hR])
   ·rw [cr (by simpa using hR)]
    exact hk2 _ (by simp only [K0,hU,sh,cz hL,cr hR])
  ·rw [cr (by simpa using hL)]
   unfold rZ
   by_cases hR:0<=n.R
   ·rw [cz (by simpa using hR)]
    rw [d6 (n:=n.R+(out.length:Int)) (by omega) (by omega)]
    exact hk2 _ (by simp only [K0,hU,sh,cr hL,cz hR])
   ·rw [cr (by simpa using hR)]
    exact hk2 _ (by simp only [K0,hU,sh,cr hL,cr hR])
def D0(out:List aC)(t:Tr)(h:out.length+t.size<=1000000):Au out ⟨t.flat 0⟩=some (out++t.flat out.length):=by
 unfold Au
 rw [Pn out (by omega) _ _ (LZ t 0 (by omega)) (by rw [t.flat_len];exact h),PA]
 simp
def Vf(n:aC):mI n []=some ⟨(Tr.lf n).flat 0⟩:=by
 unfold mI jA
 rw [show fB [(-1:Int),-1] 0=some (-1)from rfl,show fB [(-1:Int),-1] 1=some (-1)from rfl]
 simp only [bH]
 rw [dH (by simp)]
 rfl
def Ve(n:aC)(a:Tr)(h:a.size<=100000):mI n [⟨a.flat 0⟩]=some ⟨(Tr.un n a).flat 0⟩:=by
 unfold mI jA
 rw [D0 [] a (by simp;omega)]
 simp only [bH,qg,sD]
 rw [show fB [(-1:Int),-1] ((0:Nat):Int)=some (-1)from rfl,a.flat_len,d6 (by omega) (by omega)]
 simp only [bH]
 unfold jA
 rw [show([(-1:Int),-1].set ((0:Nat):Int).toNat ((a.size:Int)-1))=[(a.size:Int)-1,-1]from rfl]
 rw [show fB [(a.size:Int)-1,-1] 0=some ((a.size:Int)-1)from rfl,show fB [(a.size:Int)-1,-1] 1=some (-1)from rfl]
 simp only [bH]
 rw [dH (by simp [a.flat_len];omega)]
 simp [Tr.flat,hU]
def Vd(n:aC)(a b:Tr)(h:a.size+b.size<=100000):mI n [⟨a.flat 0⟩,⟨b.flat 0⟩]=some ⟨(Tr.bi n a b).flat 0⟩:=by
 unfold mI jA
 rw [D0 [] a (by simp;omega)]
 simp only [bH,qg,sD]
 rw [show fB [(-1:Int),-1] ((0:Nat):Int)=some (-1)from rfl,a.flat_len,d6 (by omega) (by omega)]
 simp only [bH]
 unfold jA
 rw [D0 (a.flat 0) b (by rw [a.flat_len];omega)]
 rw [show([(-1:Int),-1].set ((0:Nat):Int).toNat ((a.size:Int)-1))=[(a.size:Int)-1,-1]from rfl]
 simp only [bH]
 rw [show fB [(a.size:Int)-1,-1] ((0+1:Nat):Int)=some (-1)from rfl]
 simp only [bH]
 rw [pF,a.flat_len,b.flat_len,d6 (by omega) (by omega)]
 unfold jA
 rw [show([(a.size:Int)-1,-1].set ((0+1:Nat):Int).toNat (((a.size+b.size:Nat):Int)-1))=[(a.size:Int)-1,((a.size+b.size:Nat):Int)-1]from rfl]
 rw [show fB [(a.size:Int)-1,((a.size+b.size:Nat):Int)-1] 0=some ((a.size:Int)-1)from rfl,show fB [(a.size:Int)-1,((a.size+b.size:Nat):Int)-1] 1=some (((a.size+b.size:Nat):Int)-1)from rfl]
 simp only [bH]
 rw [dH (by simp [a.flat_len,b.flat_len];omega)]
 simp [Tr.flat,hU]

def us(s:Nat)(x:Int):Int:=if 0<=x then x-(s:Int)else x


def Dg{a b:Bool}(h:a=true↔b=true):a=b:=by cases a<;>cases b<;>simp_all
def Mb{α:Type}{ys:List α}{i:Nat}(h:i<ys.length):fB ys (i:Int)=some ys[i]:=by rw [kr,lP h]
def L7(ys:List aC): ∀(tl:List aC) (i:Nat),i+tl.length=ys.length->eB ys tl i=some (decide (tl=ys.drop i))
 |[],i,h=>by
  have e:ys.drop i=[]:=rp (by simp at h;omega)
  rw [e];rfl
 |e::tl,i,h=>by
  simp only [jm]at h
  have hi:i<ys.length:=by omega
  unfold eB
  rw [Mb hi,sG hi]
  simp only [bH]
  by_cases he:e=ys[i]
  ·rw [cr (by simp [he]),L7 ys tl (i+1) (by omega)]
   congr 1
   apply Dg
   simp only [nE]
   rw [he]
   exact⟨fun h=>by rw [h],fun h=>(Ci h).2⟩
  ·rw [cz (by simp [he])]
   congr 1
   apply Dg
   simp only [nE,lu,false_iff]
   exact fun h=>he (Ci h).1
def pY(a b:aW):mt a b=some (decide (a.Nodes=b.Nodes)):=by
 unfold mt jr
 by_cases h:a.Nodes.length=b.Nodes.length
 ·rw [cr (by simp [h]),L7 _ _ 0 (by omega)]
  simp
 ·rw [cz (by simp;omega)]
  have: ¬a.Nodes=b.Nodes:=fun e=>h (by rw [e])
  simp [this]
def Lk(b:aW): ∀(tl:List aC) (i:Nat),i+tl.length=b.Nodes.length->qm b tl i=some (decide (tl=b.Nodes.drop i))
 |[],i,h=>by
  have e:b.Nodes.drop i=[]:=rp (by simp at h;omega)
  rw [e];rfl
 |e::tl,i,h=>by
  simp only [jm]at h
  have hi:i<b.Nodes.length:=by omega
  unfold qm
  rw [Mb hi,sG hi]
  simp only [bH]
  by_cases he:e=b.Nodes[i]
  ·rw [cr (by simp [he]),Lk b tl (i+1) (by omega)]
   congr 1
   apply Dg
   simp only [nE]
   rw [he]
   exact⟨fun h=>by rw [h],fun h=>(Ci h).2⟩
  ·rw [cz (by simp [he])]
   congr 1
   apply Dg
   simp only [nE,lu,false_iff]
   exact fun h=>he (Ci h).1
def ox(a b:aW):lX a b=some (decide (a.Nodes=b.Nodes)):=by
 unfold lX
 by_cases h:a.Nodes.length=b.Nodes.length
 ·rw [cr (by simp [h]),Lk _ _ 0 (by omega)]
  simp
 ·rw [cz (by simp;omega)]
  have: ¬a.Nodes=b.Nodes:=fun e=>h (by rw [e])
  simp [this]

def U0(k:Nat)(n:aC):aC:=⟨n.Tag,if 0<=n.L then IntKind.i64.wrap (n.L+(k:Int))else n.L,if 0<=n.R then IntKind.i64.wrap (n.R+(k:Int))else n.R,n.Col,n.Value⟩
def UZ{k:Nat}{n:aC}(h:bnd n)(hk:k<=1000000):U0 k n=K0 k n:=by
 obtain⟨V,Z⟩:=h
 unfold U0 K0 sh hU
 congr 1
 ·split
  ·rw [d6 (by omega) (by omega)]
  ·rfl
 ·split
  ·rw [d6 (by omega) (by omega)]
  ·rfl
def G7(t:Tr)(k:Nat)(M:t.size<=1000000)(hk:k<=1000000):(t.flat 0).map (U0 k)=t.flat k:=by
 rw [List.map_congr_left (g:=K0 k) fun n hn=>UZ (LZ t 0 (by omega) n hn) hk,PA,sB]
def BZ(nx:Nat->aC->aW->Option aW)(i:Nat)(root1:aC)(out:aW): ∀(es out1:List aC),out1.length+es.length<=1000000->eU nx i root1 out es ⟨out1⟩=eU nx i root1 out [] ⟨out1++es.map (U0 out.Nodes.length)⟩:=by
 intro es
 induction es with
 |nil=>intro out1 _;simp
 |cons n es ih=>
  intro out1 hl
  simp only [jm]at hl
  have step: ∀n1:aC,qn (eU nx i root1 out es) ⟨out1⟩ n1=eU nx i root1 out es ⟨out1++[n1]⟩:=by
   intro n1
   unfold qn
   rw [dH (by simp;omega)];rfl
  have key:eU nx i root1 out (n::es) ⟨out1⟩=eU nx i root1 out es ⟨out1++[U0 out.Nodes.length n]⟩:=by
   conv=>lhs;unfold eU
   unfold tp U0
   by_cases V:0<=n.L
   ·rw [cz (by simpa using V)]
    by_cases Z:0<=n.R
    ·rw [cz (by simpa using Z),step]
     simp only [V,Z,jo]
    ·rw [cr (by simpa using Z),step]
     simp only [V,Z,jo,jQ]
   ·rw [cr (by simpa using V)]
    by_cases Z:0<=n.R
    ·rw [cz (by simpa using Z),step]
     simp only [V,Z,jo,jQ]
    ·rw [cr (by simpa using Z),step]
     simp only [V,Z,jQ]
  rw [key,ih _ (by simp;omega)]
  simp
def HK(i:Nat)(root:aC)(out:List aC)(h:out.length<=1000000):iD [] i root ⟨out⟩=some ⟨out++[root]⟩:=by
 unfold iD
 rw [dH (by simp;omega)];rfl
def abQ(n:aC):gA n []=some ⟨[hU n (-1) (-1)]⟩:=by
 unfold gA
 exact HK 0 _ [] (by simp)
def abP(n:aC)(a:List aC)(h:a.length<=100000):gA n [⟨a⟩]=some ⟨a.map (U0 0)++[hU n ((a.length:Int)-1) (-1)]⟩:=by
 unfold gA iD
 rw [BZ _ _ _ _ _ _ (by simp;omega)]
 unfold eU
 rw [cz (by decide)]
 simp only [qg,sD,Ck]
 rw [HK _ _ _ (by simp;omega),d6 (by omega) (by omega)]
 rfl
def abO(n:aC)(a b:List aC)(h:a.length<=100000)(Z:b.length<=100000):gA n [⟨a⟩,⟨b⟩]=some ⟨a.map (U0 0)++b.map (U0 a.length)++[hU n ((a.length:Int)-1) (((a.length+b.length:Nat):Int)-1)]⟩:=by
 unfold gA iD
 rw [BZ _ _ _ _ _ _ (by simp;omega)]
 unfold eU
 rw [cz (by decide)]
 simp only [qg,sD,Ck]
 unfold iD
 rw [BZ _ _ _ _ _ _ (by simp;omega)]
 unfold eU
 rw [cr (by decide)]
 simp only [Ck,pF]
 rw [HK _ _ _ (by simp;omega),d6 (by omega) (by omega),d6 (by omega) (by omega)]
 rfl
def Ov(n:aC)(a:Tr)(h:a.size<=100000):gA n [⟨a.flat 0⟩]=some ⟨(Tr.un n a).flat 0⟩:=by
 rw [abP _ _ (by rw [a.flat_len];exact h),G7 a 0 (by omega) (by omega),a.flat_len]
 simp [Tr.flat]
def Ou(n:aC)(a b:Tr)(h:a.size<=100000)(Z:b.size<=100000):gA n [⟨a.flat 0⟩,⟨b.flat 0⟩]=some ⟨(Tr.bi n a b).flat 0⟩:=by
 rw [abO _ _ _ (by rw [a.flat_len];exact h) (by rw [b.flat_len];exact Z),G7 a 0 (by omega) (by omega),a.flat_len,G7 b a.size (by omega) (by omega),b.flat_len]
 simp [Tr.flat]
def Ym(b:Bool)(w:aW):aW×Int:=if b then(w,0)else(⟨[]⟩,200)
def NC(root:aC)(l:List aW)(x:aW): ∀tl:List aW,(∀e∈tl,e.Nodes.length<=100000)->nY root l tl x=if tl.all (fun e=>lU e.Nodes)then nY root l [] x else some (⟨[]⟩,200):=by
 intro tl
 induction tl with
 |nil=>intro _;rfl
 |cons e tl ih=>
  intro hl
  conv=>lhs;unfold nY
  rw [tE e (hl e (oa ..)),bH,ih fun q hq=>hl q (oD _ hq),tI]
  cases lU e.Nodes with
  |true=>rw [cr (by decide),wK]
  |false=>rfl
def zz{root:aC}{l:List aW}{w:aW}(hl: ∀e∈l,e.Nodes.length<=100000)(ha:l.all (fun e=>lU e.Nodes)=true)(hj:mI root l=some w)(hw:w.Nodes.length<=100000):sZ root l=some (Ym (lU w.Nodes) w):=by
 unfold sZ
 rw [NC root l _ l hl,ha,cz rfl]
 unfold nY
 rw [hj,bH,tE w hw,bH]
 cases lU w.Nodes<;>rfl
def vz(tag:Int):aC:=⟨tag,0,0,0,⟨0,0,0,[]⟩⟩
end Go.Proofs.YthbdkceckjihgaaGreatDoor

