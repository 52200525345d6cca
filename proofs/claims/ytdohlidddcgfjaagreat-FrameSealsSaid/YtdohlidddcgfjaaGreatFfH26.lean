import Derived.Test.YtdohlidddcgfjaaGreatFfQ1
import Derived.Test.YtdohlidddcgfjaaGreatFfQ2
import Derived.Test.YtdohlidddcgfjaaGreatFfY15
import Derived.KernelRfl
import Derived.Test.YtdohlidddcgfjaaGreatFfA0
/- bS of this claim: G1. -/
set_option linter.all false
namespace Go.Proofs.YtdohlidddcgfjaaGreat
open Go

def Ac{n:Nat}(h:n<=900000):n<fq:=xu (BY _) (nZ (by omega))
def eX(p:Int):Nat->List Int
 |0=>[]
 |k+1=>IntKind.u8.wrap (p.fdiv (2^(8*k)))::eX p k
def eS(p:Int): ∀k,(eX p k).length=k
 |0=>rfl
 |k+1=>by simp [eX,eS p k]
def jB(p:Int): ∀k,nj (eX p k)
 |0=>fun x V=>by cases V
 |k+1=>fun x V=>by
  rcases jl.1 V with rfl|V
  ·exact DP _ _ (uk.2 rfl)
  ·exact jB p k x V
def Ar(n:Nat): ∀k,eX (n:Int) k=Cz n k
 |0=>rfl
 |k+1=>by
  unfold eX Cz
  rw [Ar n k,N0 _ (Int.pow_nonneg (by omega)),show(2:Int)^(8*k)=((256^k:Nat):Int) by rw [show(256:Nat)=2^8 from rfl,<-Nat.pow_mul];norm_cast,show((n:Int)/((256^k:Nat):Int))=((n/256^k:Nat):Int)from rfl]
  congr 1
def BH: ∀(k:Nat) {m n:Nat},m%256^k=n%256^k->Cz m k=Cz n k
 |0,_,_,_=>rfl
 |k+1,m,n,h=>by
  have Y:m/256^k%256=n/256^k%256:=by
   rw [<-Nat.mod_mul_right_div_self,<-Nat.mod_mul_right_div_self,<-Nat.pow_succ,h]
  have X:m%256^k=n%256^k:=by
   have:=congrArg (· %256^k) h
   simpa [Nat.mod_mod_of_dvd _ (Nat.pow_dvd_pow 256 (Nat.le_succ k))] using this
  unfold Cz
  rw [Y,BH k X]
def N9(p:Int): ∃n:Nat,n<18446744073709551616/\IntKind.u64.wrap p=(n:Int):=⟨(IntKind.u64.wrap p).toNat,by rw [xd];omega,by rw [xd];omega⟩
def RJ(k w:Nat)(hk:k+1<=w)(hw:w<=8):IntKind.i64.wrap (IntKind.i64.wrap (8*IntKind.i64.wrap ((w:Int)-((w-(k+1):Nat):Int)))-8)=((8*k:Nat):Int):=by
 rw [show(w:Int)-((w-(k+1):Nat):Int)=((k+1:Nat):Int) by omega,rl,rl,rl]
 omega
def UQ(p:Int)(k:Nat)(hk:k<=8):p.fdiv (2^(min (Int.toNat ((8*k:Nat):Int)) IntKind.u64.bits))=p.fdiv (2^(8*k)):=by
 rw [uY,show IntKind.u64.bits=64 from rfl,xq (by omega)]
def wh(p:Int)(w:Nat)(hw:w<=8): ∀(k f:Nat) (b:List Int),k<=w->k<f->b.length+k<=60000000000->ek p (w:Int) f b ((w-k:Nat):Int)=some (b++eX p k)
 |0,f+1,b,_,_,_=>by
  unfold ek
  rw [aQ (by simp),eX,p6]
 |k+1,f+1,b,hk,hf,H=>by
  unfold ek
  rw [bh (by rw [ig];omega),RJ k w hk hw,show Z0 ((8*k:Nat):Int)=some ()from bh (by omega),bf,UQ p k (by omega),cD (by simp;omega),bf]
  rw [show IntKind.i64.wrap (((w-(k+1):Nat):Int)+1)=((w-k:Nat):Int) by rw [rl];omega]
  rw [wh p w hw k f _ (by omega) (by omega) (by simp;omega),hZ];rfl
def Kg(p w:Int): ∀(f:Nat) (b:List Int) (x:Int),kC p w f b x=ek (IntKind.u64.wrap p) w f b x
 |0,_,_=>rfl
 |f+1,b,x=>by
  unfold kC ek
  simp only [Kg p w f]
def Kf(p w:Int): ∀(f:Nat) (b:List Int) (x:Int),kz p w f b x=ek (IntKind.u64.wrap p) w f b x
 |0,_,_=>rfl
 |f+1,b,x=>by
  unfold kz ek
  simp only [Kf p w f]
def B1{n:Nat}(h:n<=68719476736):xy (0:Int) (n:Int) (0:Int)=some []:=by
 unfold xy
 rw [bh (by omega)];rfl
def ND(b:List Int)(w:Nat)(h:b.length+w<=60000000000):IntKind.i64.wrap ((b.length:Int)+(w:Int))=((b.length+w:Nat):Int):=by
 rw [rl];omega
def mP(b:List Int)(p:Int)(h:b.length<=50000000000):jY b p=some (b++eX p 8):=by
 unfold jY rz
 have:=wh p 8 (by omega) 8 fq b (by omega) (Ac (by omega)) (by omega)
 rw [show((8:Int))=((8:Nat):Int)from rfl,ND b 8 (by omega),B1 (by omega),bf,cD (by simp;omega),bf,mh]
 rw [show((0:Int))=((8-8:Nat):Int)from rfl,this]
 rfl
def xU(b:List Int)(p:Int)(h:b.length<=50000000000):m2 b p=some (b++eX (IntKind.u64.wrap p) 4):=by
 unfold m2 rA
 have:=wh (IntKind.u64.wrap p) 4 (by omega) 4 fq b (by omega) (Ac (by omega)) (by omega)
 rw [show((4:Int))=((4:Nat):Int)from rfl,ND b 4 (by omega),B1 (by omega),bf,cD (by simp;omega),bf,mh]
 rw [show((0:Int))=((4-4:Nat):Int)from rfl,Kf,this]
 rfl
def xV(b:List Int)(p:Int)(h:b.length<=50000000000):qv b p=some (b++eX (IntKind.u64.wrap p) 2):=by
 unfold qv rC
 have:=wh (IntKind.u64.wrap p) 2 (by omega) 2 fq b (by omega) (Ac (by omega)) (by omega)
 rw [show((2:Int))=((2:Nat):Int)from rfl,ND b 2 (by omega),B1 (by omega),bf,cD (by simp;omega),bf,mh]
 rw [show((0:Int))=((2-2:Nat):Int)from rfl,Kg,this]
 rfl
def vB(v:am):List Int:=IntKind.u8.wrap v.Kind::(if v.Kind=1 then [IntKind.u8.wrap v.N]else if v.Kind=2 then eX (IntKind.u64.wrap v.N) 8 else if v.Kind=3 then IntKind.u8.wrap (v.S.length:Int)::kh v.S else if v.Kind=4 then eX (IntKind.u64.wrap v.N) 8++eX v.U 8 else [])
def yw(ae:Po):(kh ae).length=ae.length:=by simp [kh]
def H0(v:am):(vB v).length<=17+v.S.length:=by
 unfold vB
 have:=yw v.S
 split
 ·simp;omega
 ·split
  ·simp [eS];omega
  ·split
   ·simp [this];omega
   ·split
    ·simp [eS]
    ·simp;omega
def iC{n:Int}{l:List Int}(h:nj l):nj (IntKind.u8.wrap n::l):=gz (DP n) h
def pZ:nj []:=fun x V=>by cases V
def T4(v:am):nj (vB v):=by
 unfold vB
 refine iC ?_
 split
 ·exact DP _
 ·split
  ·exact jB _ _
  ·split
   ·exact iC (QZ _)
   ·split
    ·exact gz (jB _ _) (jB _ _)
    ·exact pZ
def yu(v:am)(h:v.S.length<=100000):sr v=some (if gu v then(vB v,0)else([],120)):=by
 have hl:=yw v.S
 unfold sr vB
 rw [qK,bf]
 by_cases hr:gu v=true
 ·rw [bh hr,aQ (by simp),bh hr]
  by_cases Y:v.Kind=1
  ·rw [bh (by simp [Y]),bh Y,cD (by simp)];rfl
  by_cases X:v.Kind=2
  ·rw [aQ (by simp [Y]),bh (by simp [X]),aQ Y,bh X,mP _ _ (by simp)];rfl
  by_cases d:v.Kind=3
  ·rw [aQ (by simp [Y]),aQ (by simp [X]),bh (by simp [d]),aQ Y,aQ X,bh d,cD (by simp),bf,cD (by simp [hl];omega)];rfl
  by_cases h4:v.Kind=4
  ·rw [aQ (by simp [Y]),aQ (by simp [X]),aQ (by simp [d]),bh (by simp [h4]),aQ Y,aQ X,aQ d,bh h4,mP _ _ (by simp),bf,mP _ _ (by simp [eS]),bf,hZ];rfl
  ·rw [aQ (by simp [Y]),aQ (by simp [X]),aQ (by simp [d]),aQ (by simp [h4]),aQ Y,aQ X,aQ d,aQ h4]
 ·rw [aQ hr,bh (by simp),aQ hr]
end Go.Proofs.YtdohlidddcgfjaaGreat


/- bS of this claim: G2. -/
set_option linter.all false
namespace Go.Proofs.YtdohlidddcgfjaaGreat
open Go

def tF(l:List Int):List Int:=l.map IntKind.u8.wrap
def fB(b:Bool):Int:=if b then 1 else 0
def S6(l:List Int):List Int:=IntKind.u8.wrap (l.length:Int)::tF l
def nB(n:ap):List Int:=IntKind.u8.wrap n.Tag::(if n.Tag=2 then [IntKind.u8.wrap n.Col]else if n.Tag=1 then vB n.Value else [])
def eB(e:aO):List Int:=eX (e.Nodes.length:Int) 2++e.Nodes.flatMap nB
def WA(a:eY):List Int:=IntKind.u8.wrap a.Tag::eB a.Arg
def ZY(o:ku):List Int:=[IntKind.u8.wrap o.Col,fB o.Desc]
def KQ(n:aa):List Int:=eX (IntKind.u64.wrap (IntKind.i64.wrap (n.Limit+1))) 4
def DO(n:aa):List Int:=
 if n.Op=1\/n.Op=9 then IntKind.u8.wrap n.Table::S6 n.Kinds
 else if n.Op=2 then fB n.Left::eB n.Cond
 else if n.Op=3 then eB n.Cond
 else if n.Op=4\/n.Op=10\/n.Op=11 then S6 n.Keys++IntKind.u8.wrap (n.Aggs.length:Int)::n.Aggs.flatMap WA
 else if n.Op=5 then IntKind.u8.wrap (n.Items.length:Int)::n.Items.flatMap eB
 else if n.Op=8 then IntKind.u8.wrap (n.Order.length:Int)::(n.Order.flatMap ZY++KQ n)
 else []
def Do(n:aa):List Int:=IntKind.u8.wrap n.Op::DO n
def Un(f:dp):List Int:=[IntKind.u8.wrap f.At,IntKind.u8.wrap f.Way]++S6 f.Cols++IntKind.u8.wrap (f.Nodes.length:Int)::f.Nodes.flatMap Do
def WT(p:cV):List Int:=IntKind.u8.wrap (p.Frags.length:Int)::p.Frags.flatMap Un
structure T9(e:aO):Prop where
 len:e.Nodes.length<=100
 str: ∀n∈e.Nodes,n.Value.S.length<=100
structure WB(n:aa):Prop where
 kinds:n.Kinds.length<=20
 keys:n.Keys.length<=20
 order:n.Order.length<=20
 items:n.Items.length<=20
 aggs:n.Aggs.length<=20
 cond:T9 n.Cond
 item: ∀e∈n.Items,T9 e
 arg: ∀a∈n.Aggs,T9 a.Arg
structure Z4(f:dp):Prop where
 cols:f.Cols.length<=40
 len:f.Nodes.length<=70
 n: ∀n∈f.Nodes,WB n
structure Z3(p:cV):Prop where
 len:p.Frags.length<=40
 f: ∀f∈p.Frags,Z4 f
def VE(e:aO):Prop:= ∀n∈e.Nodes,n.Tag=1->gu n.Value=true
structure VN(n:aa):Prop where
 cond:n.Op=2\/n.Op=3->VE n.Cond
 arg:n.Op=4\/n.Op=10\/n.Op=11-> ∀a∈n.Aggs,VE a.Arg
 item:n.Op=5-> ∀e∈n.Items,VE e
def uJ{α β:Type}{f:α->List β}{k:Nat}: ∀(l:List α),(∀x∈l,(f x).length<=k)->(l.flatMap f).length<=k*l.length
 |[],_=>by simp
 |x::l,h=>by
  have Y:=h x (nM ..)
  have X:=uJ l fun y hy=>h y (pK _ hy)
  rw [Az,kj,iG,AH]
  omega
def UE(l:List Int):(tF l).length=l.length:=by simp [tF]
def wq(l:List Int):(S6 l).length=l.length+1:=by simp [S6,tF]
def SU{n:ap}(h:n.Value.S.length<=100):(nB n).length<=118:=by
 have:=H0 n.Value
 unfold nB
 split
 ·simp
 ·split
  ·simp;omega
  ·simp
def Ja{e:aO}(h:T9 e):(eB e).length<=11802:=by
 have Y:=uJ (f:=nB) (k:=118) e.Nodes fun n hn=>SU (h.str n hn)
 have X:=h.len
 unfold eB
 rw [kj,eS]
 have:118*e.Nodes.length<=118*100:=Nat.mul_le_mul_left _ X
 omega
def Pn{a:eY}(h:T9 a.Arg):(WA a).length<=11803:=by
 have:=Ja h
 unfold WA
 simp;omega
def Wl{n:aa}(h:WB n):(DO n).length<=236100:=by
 have Y:=Ja h.cond
 have X:=uJ (f:=WA) (k:=11803) n.Aggs fun a ha=>Pn (h.arg a ha)
 have d:=uJ (f:=eB) (k:=11802) n.Items fun a ha=>Ja (h.item a ha)
 have h4:=uJ (f:=ZY) (k:=2) n.Order fun a ha=>by simp [ZY]
 have:=h.kinds;have:=h.keys;have:=h.order;have:=h.items;have:=h.aggs
 unfold DO
 split
 ·rw [iG,wq];omega
 ·split
  ·rw [iG];omega
  ·split
   ·omega
   ·split
    ·rw [kj,wq,iG];omega
    ·split
     ·rw [iG];omega
     ·split
      ·rw [iG,kj,KQ,eS];omega
      ·simp
def KA{n:aa}(h:WB n):(Do n).length<=236101:=by
 have:=Wl h
 unfold Do
 simp;omega
def OS{f:dp}(h:Z4 f):(Un f).length<=16527200:=by
 have Y:=uJ (f:=Do) (k:=236101) f.Nodes fun n hn=>KA (h.n n hn)
 have:=h.cols;have:=h.len
 unfold Un
 rw [kj,kj,wq,iG]
 simp only [iG,vk]
 omega
def U5{p:cV}(h:Z3 p):(WT p).length<=661088001:=by
 have Y:=uJ (f:=Un) (k:=16527200) p.Frags fun f hf=>OS (h.f f hf)
 have:=h.len
 unfold WT
 rw [iG]
 omega
def Ph(l:List Int):nj (tF l):=by
 induction l with
 |nil=>exact pZ
 |cons x l ih=>exact iC ih
def su{α:Type}{f:α->List Int}: ∀(l:List α),(∀x∈l,nj (f x))->nj (l.flatMap f)
 |[],_=>pZ
 |x::l,h=>by
  rw [Az]
  exact gz (h x (nM ..)) (su l fun y hy=>h y (pK _ hy))
def Jh(b:Bool){l:List Int}(h:nj l):nj (fB b::l):=fun x V=>by
 rcases jl.1 V with rfl|V
 ·cases b
  ·exact⟨0,by omega,rfl⟩
  ·exact⟨1,by omega,rfl⟩
 ·exact h x V
def Jg(l:List Int):nj (S6 l):=iC (Ph l)
def ZJ(n:ap):nj (nB n):=by
 unfold nB
 refine iC ?_
 split
 ·exact DP _
 ·split
  ·exact T4 _
  ·exact pZ
def Ji(e:aO):nj (eB e):=gz (jB _ _) (su _ fun n _=>ZJ n)
def Wv(a:eY):nj (WA a):=iC (Ji _)
def Wu(n:aa):nj (DO n):=by
 unfold DO
 split
 ·exact iC (Jg _)
 ·split
  ·exact Jh _ (Ji _)
  ·split
   ·exact Ji _
   ·split
    ·exact gz (Jg _) (iC (su _ fun a _=>Wv a))
    ·split
     ·exact iC (su _ fun a _=>Ji a)
     ·split
      ·exact iC (gz (su _ fun a _=>iC (Jh _ pZ)) (jB _ _))
      ·exact pZ
def Wt(f:dp):nj (Un f):=gz (gz (iC (iC pZ)) (Jg _)) (iC (su _ fun n _=>iC (Wu n)))
def Wr(p:cV):nj (WT p):=iC (su _ fun f _=>Wt f)
abbrev W0(b:List Int):aT:=⟨b⟩
def zj: ∀(l b:List Int),b.length+l.length<=60000000000->fZ l (W0 b)=some (W0 (b++tF l))
 |[],b,_=>by unfold fZ;simp [tF]
 |x::l,b,h=>by
  simp only [iG]at h
  unfold fZ
  show((app b [IntKind.u8.wrap x]).bind _)=_
  rw [cD (by simp;omega),bf]
  show fZ l (W0 (b++[IntKind.u8.wrap x]))=_
  rw [zj l _ (by simp;omega),hZ]
  rfl
def mC(b l:List Int)(h:b.length+l.length<=60000000000):cb (W0 b) l=some (W0 (b++tF l)):=zj l b h
def RF(b l:List Int)(h:b.length+l.length<=50000000000):ke (W0 b) l=some (W0 (b++S6 l)):=by
 unfold ke
 rw [mC b [(l.length:Int)] (by simp;omega),bf,mC _ l (by simp [tF];omega),bf,hZ]
 rfl
def WK(b:List Int)(n:aa)(h:b.length+n.Kinds.length<=40000000000):fi (W0 b) n=some (W0 (b++IntKind.u8.wrap n.Table::S6 n.Kinds)):=by
 unfold fi
 rw [mC b _ (by simp;omega),bf,RF _ _ (by simp [tF];omega),bf,hZ]
 rfl
def N3(b:List Int)(x:Bool)(h:b.length<=50000000000):gW (W0 b) x=some (W0 (b++[fB x])):=by
 unfold gW lO
 cases x
 ·rw [aQ (by simp),mC b _ (by simp;omega),bf];rfl
 ·rw [bh rfl,mC b _ (by simp;omega),bf];rfl
def JR: ∀(l:List ap) (b:List Int),(∀n∈l,n.Value.S.length<=100)->(∀n∈l,n.Tag=1->gu n.Value=true)->b.length+118*l.length<=50000000000->dY l (W0 b)=some (W0 (b++l.flatMap nB))
 |[],b,_,_,_=>by unfold dY;simp
 |n::l,b,hs,hv,h=>by
  have ih:=fun b H=>JR l b (fun m hm=>hs m (pK _ hm)) (fun m hm=>hv m (pK _ hm)) H
  have hn:=hs n (nM ..)
  have hnv:=hv n (nM ..)
  have hln:=SU hn
  simp only [iG,AH]at h
  have key: ∀t:List Int,IntKind.u8.wrap n.Tag::t=nB n->dY l (W0 ((b++tF [n.Tag])++t))=some (W0 (b++(n::l).flatMap nB)):=fun t D=>by
   rw [hZ,show tF [n.Tag]++t=nB n from D,ih _ (by simp;omega),hZ,Az]
  unfold dY
  rw [mC b _ (by simp;omega),bf]
  by_cases X:n.Tag=2
  ·rw [bh (by simp [X]),mC _ _ (by simp [tF];omega),bf]
   exact key _ (by unfold nB;rw [bh X];rfl)
  ·rw [aQ (by simpa using X)]
   by_cases Y:n.Tag=1
   ·have hvl:=H0 n.Value
    rw [bh (by simp [Y]),yu _ (by omega),bh (hnv Y),bf]
    show((app (b++tF [n.Tag]) (vB n.Value)).bind _)=_
    rw [cD (by simp [tF];omega),bf]
    exact key _ (by unfold nB;rw [aQ X,bh Y])
   ·rw [aQ (by simpa using Y)]
    have:=key [] (by unfold nB;rw [aQ X,aQ Y])
    rwa [p6]at this
def WU{n:Nat}(h:n<=60000):IntKind.u64.wrap (IntKind.u16.wrap (n:Int))=(n:Int):=by rw [IntKind.wrap_u16,xd];omega
def N4(b:List Int)(e:aO)(hs:T9 e)(hv:VE e)(h:b.length<=40000000000):iP (W0 b) e=some (W0 (b++eB e)):=by
 have:=hs.len
 unfold iP
 show((qv b _).bind _)=_
 rw [xV b _ (by omega),bf,WU (by omega)]
 show dY e.Nodes (W0 _)=_
 rw [JR e.Nodes _ hs.str hv (by simp [eS];omega),hZ]
 rfl
def GC: ∀(l:List eY) (b:List Int),(∀a∈l,T9 a.Arg)->(∀a∈l,VE a.Arg)->b.length+11803*l.length<=30000000000->hD l (W0 b)=some (W0 (b++l.flatMap WA))
 |[],b,_,_,_=>by unfold hD;simp
 |a::l,b,hs,hv,h=>by
  have hl:=Pn (hs a (nM ..))
  simp only [iG,AH]at h
  unfold hD
  rw [mC b _ (by simp;omega),bf,N4 _ a.Arg (hs a (nM ..)) (hv a (nM ..)) (by simp [tF];omega),bf,hZ]
  rw [show tF [a.Tag]++eB a.Arg=WA a from rfl,GC l _ (fun m hm=>hs m (pK _ hm)) (fun m hm=>hv m (pK _ hm)) (by simp;omega),hZ,Az]
def XS(b:List Int)(n:aa)(hs:WB n)(hv: ∀a∈n.Aggs,VE a.Arg)(h:b.length<=20000000000):ed (W0 b) n=some (W0 (b++(S6 n.Keys++IntKind.u8.wrap (n.Aggs.length:Int)::n.Aggs.flatMap WA))):=by
 have:=hs.keys;have:=hs.aggs
 unfold ed
 rw [RF b _ (by omega),bf,mC _ _ (by simp [wq];omega),bf,GC n.Aggs _ hs.arg hv (by simp [wq,tF];omega),hZ,hZ]
 rfl
def CP: ∀(l:List aO) (b:List Int),(∀a∈l,T9 a)->(∀a∈l,VE a)->b.length+11802*l.length<=30000000000->gq l (W0 b)=some (W0 (b++l.flatMap eB))
 |[],b,_,_,_=>by unfold gq;simp
 |a::l,b,hs,hv,h=>by
  have hl:=Ja (hs a (nM ..))
  simp only [iG,AH]at h
  unfold gq
  rw [N4 _ a (hs a (nM ..)) (hv a (nM ..)) (by omega),bf]
  rw [CP l _ (fun m hm=>hs m (pK _ hm)) (fun m hm=>hv m (pK _ hm)) (by simp;omega),hZ,Az]
def RC(b:List Int)(n:aa)(hs:WB n)(hv: ∀a∈n.Items,VE a)(h:b.length<=20000000000):gv (W0 b) n=some (W0 (b++IntKind.u8.wrap (n.Items.length:Int)::n.Items.flatMap eB)):=by
 have:=hs.items
 unfold gv
 rw [mC _ _ (by simp;omega),bf,CP n.Items _ hs.item hv (by simp [tF];omega),hZ]
 rfl
def SW(n:aa):eX (IntKind.u64.wrap (IntKind.u32.wrap (IntKind.i64.wrap (n.Limit+1)))) 4=KQ n:=by
 unfold KQ
 generalize IntKind.i64.wrap (n.Limit+1)=x
 obtain⟨m,_,hm⟩:=N9 (IntKind.u32.wrap x)
 obtain⟨k,_,hk⟩:=N9 x
 rw [hm,hk,Ar,Ar]
 refine BH 4 ?_
 rw [xd,IntKind.wrap_u32]at hm
 rw [xd]at hk
 show m%4294967296=k%4294967296
 omega
def GB(n:aa): ∀(l:List ku) (b:List Int),b.length+2*l.length<=30000000000->g9 n l (W0 b)=some (W0 (b++(l.flatMap ZY++KQ n)))
 |[],b,h=>by
  unfold g9
  show((m2 b _).bind _)=_
  rw [xU b _ (by simp at h;omega),bf,SW]
  rfl
 |o::l,b,h=>by
  simp only [iG]at h
  unfold g9
  rw [mC b _ (by simp;omega),bf,N3 _ _ (by simp [tF];omega),bf,GB n l _ (by simp [tF];omega),hZ,hZ]
  rfl
def XQ(b:List Int)(n:aa)(hs:WB n)(h:b.length<=20000000000):im (W0 b) n=some (W0 (b++IntKind.u8.wrap (n.Order.length:Int)::(n.Order.flatMap ZY++KQ n))):=by
 have:=hs.order
 unfold im
 rw [mC _ _ (by simp;omega),bf,GB n n.Order _ (by simp [tF];omega),hZ]
 rfl
def aaM{β:Type}(f1 f9 f2 f3 f4 f10 f11 f5 f8:β)(k:Int):uo (gC (gC (gC (gC (gC (gC (gC (gC (gC ([]:List (Int×β)) 1 f1) 9 f9) 2 f2) 3 f3) 4 f4) 10 f10) 11 f11) 5 f5) 8 f8) k=
  if k=1 then some f1 else if k=9 then some f9 else if k=2 then some f2 else if k=3 then some f3 else if k=4 then some f4 else if k=10 then some f10 else if k=11 then some f11 else if k=5 then some f5 else if k=8 then some f8 else none:=by
 have e:gC (gC (gC (gC (gC (gC (gC (gC (gC ([]:List (Int×β)) 1 f1) 9 f9) 2 f2) 3 f3) 4 f4) 10 f10) 11 f11) 5 f5) 8 f8=[(1,f1),(9,f9),(2,f2),(3,f3),(4,f4),(10,f10),(11,f11),(5,f5),(8,f8)]:=rfl
 rw [e]
 simp only [uo,eq_comm (b:=k)]
def map_some{α β:Type}{x:Option α}{y:α}(h:x=some y)(f:α->β):x.map f=some (f y):=by rw [h];rfl
def JM(nx:aT->Option aT): ∀(l:List aa) (b:List Int),(∀n∈l,WB n)->(∀n∈l,VN n)->b.length+236101*l.length<=15000000000->eH nx l (W0 b)=nx (W0 (b++l.flatMap Do))
 |[],b,_,_,_=>by unfold eH;simp
 |n::l,b,hs,hv,h=>by
  have ih:=fun b H=>JM nx l b (fun m hm=>hs m (pK _ hm)) (fun m hm=>hv m (pK _ hm)) H
  have hn:=hs n (nM ..)
  have hnv:=hv n (nM ..)
  have hln:=KA hn
  have hkinds:=hn.kinds
  simp only [iG,AH]at h
  have hb0:(b++tF [n.Op]).length=b.length+1:=by simp [tF]
  have key: ∀t:List Int,t=DO n->eH nx l (W0 ((b++tF [n.Op])++t))=nx (W0 (b++(n::l).flatMap Do)):=fun t D=>by
   subst D
   rw [hZ,show tF [n.Op]++DO n=Do n from rfl,ih _ (by simp;omega),hZ,Az]
  unfold eH
  rw [mC b _ (by simp;omega),bf,aaM]
  generalize hc:b++tF [n.Op]=c at hb0 key ⊢
  by_cases Y:n.Op=1
  ·rw [bh Y,bh (by rfl)]
   show(((fi (W0 c) n).map _).bind _)=_
   rw [map_some (WK c n (by omega)),bf]
   exact key _ (by unfold DO;rw [bh (.inl Y)])
  by_cases h9:n.Op=9
  ·rw [aQ Y,bh h9,bh (by rfl)]
   show(((fi (W0 c) n).map _).bind _)=_
   rw [map_some (WK c n (by omega)),bf]
   exact key _ (by unfold DO;rw [bh (.inr h9)])
  have h19: ¬(n.Op=1\/n.Op=9):=by omega
  by_cases X:n.Op=2
  ·rw [aQ Y,aQ h9,bh X,bh (by rfl)]
   show(((iO (W0 c) n).map _).bind _)=_
   have hj:iO (W0 c) n=some (W0 (c++fB n.Left::eB n.Cond)):=by
    unfold iO
    rw [N3 c _ (by omega),bf,N4 _ _ hn.cond (hnv.cond (.inl X)) (by simp;omega),bf,hZ];rfl
   rw [map_some hj,bf]
   exact key _ (by unfold DO;rw [aQ h19,bh X])
  by_cases d:n.Op=3
  ·rw [aQ Y,aQ h9,aQ X,bh d,bh (by rfl)]
   show(((gQ (W0 c) n).map _).bind _)=_
   have hj:gQ (W0 c) n=some (W0 (c++eB n.Cond)):=by
    unfold gQ
    rw [N4 _ _ hn.cond (hnv.cond (.inr d)) (by omega),bf]
   rw [map_some hj,bf]
   exact key _ (by unfold DO;rw [aQ h19,aQ X,bh d])
  have K:(n.Op=4\/n.Op=10\/n.Op=11)->((ed (W0 c) n).map fun mr=>((),mr)).bind (fun r5=>(eH nx l) r5.2)=nx (W0 (b++(n::l).flatMap Do)):=fun K=>by
   rw [map_some (XS c n hn (hnv.arg K) (by omega)),bf]
   exact key _ (by unfold DO;rw [aQ h19,aQ X,aQ d,bh K])
  by_cases h4:n.Op=4
  ·rw [aQ Y,aQ h9,aQ X,aQ d,bh h4,bh (by rfl)]
   exact K (.inl h4)
  by_cases h10:n.Op=10
  ·rw [aQ Y,aQ h9,aQ X,aQ d,aQ h4,bh h10,bh (by rfl)]
   exact K (.inr (.inl h10))
  by_cases h11:n.Op=11
  ·rw [aQ Y,aQ h9,aQ X,aQ d,aQ h4,aQ h10,bh h11,bh (by rfl)]
   exact K (.inr (.inr h11))
  have h4n: ¬(n.Op=4\/n.Op=10\/n.Op=11):=by omega
  by_cases h5:n.Op=5
  ·rw [aQ Y,aQ h9,aQ X,aQ d,aQ h4,aQ h10,aQ h11,bh h5,bh (by rfl)]
   show(((gv (W0 c) n).map _).bind _)=_
   rw [map_some (RC c n hn (hnv.item h5) (by omega)),bf]
   exact key _ (by unfold DO;rw [aQ h19,aQ X,aQ d,aQ h4n,bh h5])
  by_cases h8:n.Op=8
  ·rw [aQ Y,aQ h9,aQ X,aQ d,aQ h4,aQ h10,aQ h11,aQ h5,bh h8,bh (by rfl)]
   show(((im (W0 c) n).map _).bind _)=_
   rw [map_some (XQ c n hn (by omega)),bf]
   exact key _ (by unfold DO;rw [aQ h19,aQ X,aQ d,aQ h4n,aQ h5,bh h8])
  ·rw [aQ Y,aQ h9,aQ X,aQ d,aQ h4,aQ h10,aQ h11,aQ h5,aQ h8,aQ (by simp)]
   have:=key [] (by unfold DO;rw [aQ h19,aQ X,aQ d,aQ h4n,aQ h5,aQ h8])
   rwa [p6]at this
def JN: ∀(l:List dp) (b:List Int),(∀f∈l,Z4 f)->(∀f∈l,∀n∈f.Nodes,VN n)->b.length+16527200*l.length<=10000000000->gw l (W0 b)=some (W0 (b++l.flatMap Un))
 |[],b,_,_,_=>by unfold gw;simp
 |f::l,b,hs,hv,h=>by
  have hf:=hs f (nM ..)
  have hfl:=OS hf
  have Y:=hf.cols;have X:=hf.len
  simp only [iG,AH]at h
  unfold gw
  rw [mC b _ (by simp;omega),bf,RF _ _ (by simp [tF];omega),bf,mC _ _ (by simp [tF,wq];omega),bf,JM _ f.Nodes _ hf.n (hv f (nM ..)) (by simp [tF,wq];omega)]
  rw [show((b++tF [f.At,f.Way])++S6 f.Cols++tF [(f.Nodes.length:Int)])++f.Nodes.flatMap Do=b++Un f by simp [Un,tF]]
  rw [JN l _ (fun m hm=>hs m (pK _ hm)) (fun m hm=>hv m (pK _ hm)) (by simp;omega),hZ,Az]
def aaa(b:List Int)(p:cV)(hs:Z3 p)(hv: ∀f∈p.Frags,∀n∈f.Nodes,VN n)(h:b.length<=1000000000):lN (W0 b) p=some (W0 (b++WT p)):=by
 have:=hs.len
 unfold lN
 rw [mC _ _ (by simp;omega),bf,JN p.Frags _ hs.f hv (by simp [tF];omega),hZ]
 rfl
end Go.Proofs.YtdohlidddcgfjaaGreat


/- bS of this claim: G3. -/
set_option linter.all false
namespace Go.Proofs.YtdohlidddcgfjaaGreat
open Go

def Th(t:Tr): ∀ae,t.wf-> ∀n∈t.flat ae,C9 n=true:=by
 induction t with
 |lf n=>
  intro ae h m hm
  rw [uk.1 hm,Je];exact h.2.1
 |un n a ih=>
  intro ae h m hm
  rcases ui.1 hm with hm|hm
  ·exact ih ae h.2 m hm
  ·rw [uk.1 hm,Je];exact h.1.2.1
 |bi n a b iha ihb=>
  intro ae h m hm
  rcases ui.1 hm with hm|hm
  ·rcases ui.1 hm with hm|hm
   ·exact iha ae h.2.1 m hm
   ·exact ihb _ h.2.2 m hm
  ·rw [uk.1 hm,Je];exact h.1.2.1
def Qj{ns:List ap}(h:mE ns=true): ∀n∈ns,C9 n=true:=by
 unfold mE at h
 obtain⟨t,D⟩:=NY.1 h
 obtain⟨Y,X,_⟩:=mZ D
 rw [X]
 exact Th t 0 Y
def R8{e:aO}(h:mE e.Nodes=true):VE e:=fun n hn Y=>by
 have:=Qj h n hn
 unfold C9 kH at this
 rw [bh (by simp [Y]),oz]at this
 simp [va]at this
 grind
def qw{e:aO}{ks:List Int}(h:(gp e ks).2=0):mE e.Nodes=true:=by
 unfold gp at h
 split at h
 ·assumption
 ·cases h
def yb{e:aO}{ks:List Int}(h:(gp e ks).2=0):VE e:=R8 (qw h)
def Ls{e:aO}(h:e.Nodes.length=0):VE e:=fun n hn=>by
 rw [sd h]at hn;cases hn
def JX{e:aO}{ks:List Int}(hl:e.Nodes.length<=5000){b:Bool}(h:kp e ks=some b)(H:b=true):VE e:=by
 rw [Eg e ks hl]at h
 cases h
 unfold Ie at H
 simp only [ly,oY]at H
 exact yb H.1
def On: ∀(items:List aO) (ob:al) {r:Bool×al},(∀e∈items,e.Nodes.length<=5000)->eF items ob=some r->r.1=true-> ∀e∈items,VE e
 |[],_,_,_,_,_=>fun e he=>by cases he
 |e::tl,ob,r,hl,h,hr=>by
  unfold eF at h
  rw [ne e _ (by have:=hl e (nM ..);omega),bf]at h
  by_cases hk:(gp e ob.a_).2=0
  ·rw [aQ (by simp [hk])]at h
   obtain⟨l4,_,h⟩:=bs h
   intro x V
   rcases jl.1 V with rfl|V
   ·exact yb hk
   ·exact On tl _ (fun y hy=>hl y (pK _ hy)) h hr x V
  ·rw [bh (by simpa using hk)]at h
   cases h
   cases hr
def ZO{g:eY}{a:List Int}(h:(BN g a).2=true):VE g.Arg:=by
 unfold BN at h
 split at h
 ·exact Ls (by simpa using h)
 ·split at h
  ·simp only [ly,oY]at h;exact yb h.1.1.1
  ·split at h
   ·simp only [ly,oY]at h;exact yb h.1.1
   ·simp only [ly,oY]at h;exact yb h.1.1
def E5{l:al}(K: ∀g∈l.n.Aggs,g.Arg.Nodes.length<=5000)(hgl:l.n.Aggs.length<=5000): ∀(ks R:List Int) {r:Bool×al},R.length+ks.length<=5000->dB l ks {l with result:=R}=some r->r.1=true-> ∀g∈l.n.Aggs,VE g.Arg
 |[],R,r,hR,h,hr=>by
  unfold dB at h
  rw [M2 l.n.Aggs _ R K (by simp at hR;omega)]at h
  cases h
  simp only [ly]at hr
  exact fun g hg' =>ZO (kU.1 hr.2 g hg')
 |k::tl,R,r,hR,h,hr=>by
  simp only [iG]at hR
  unfold dB at h
  split at h
  ·cases h;cases hr
  ·obtain⟨e2,_,h⟩:=bs h
   obtain⟨l9,h9,h⟩:=bs h
   have h9' :app R [e2]=some l9:=h9
   rw [cD (by simp;omega)]at h9'
   cases h9'
   exact E5 K hgl tl (R++[e2]) (by simp;omega) h hr
def By{nx:Nat->Bool->al->Option (Bool×al)}{i:Nat}{e:eY}{ok:Bool}{ob:al}{e3:Int}{x:Bool}{r:Bool×al}(h:ij nx i e ok ob e3 x=some r): ∃ok' ob',nx (i+1) ok' ob' =some r/\(ok' =true->ok=true/\e.Arg.Nodes.length=0):=by
 unfold ij at h
 split at h
 ·exact⟨_,_,h,fun h=>by simp at h;exact⟨h.1.1,by rw [h.1.2];rfl⟩⟩
 ·exact⟨_,_,h,fun h=>by cases h⟩
def Bz{l:al}{nx:Nat->Bool->al->Option (Bool×al)}{i:Nat}{e:eY}{ok:Bool}{ob:al}{e3:Int}{x:Bool}{r:Bool×al}(h:fG l nx i e ok ob e3 x=some r): ∃ok' ob',nx (i+1) ok' ob' =some r/\(ok' =true->ok=true/\e.Arg.Nodes.length=0):=by
 unfold fG at h
 split at h
 ·exact⟨_,_,h,fun h=>by simp at h;exact⟨h.1.1,by rw [h.1.2];rfl⟩⟩
 ·split at h
  ·obtain⟨e4,_,h⟩:=bs h
   obtain⟨st,_,h⟩:=bs h
   exact⟨_,_,h,fun h=>by simp at h;exact⟨h.1.1,by rw [h.1.2];rfl⟩⟩
  ·split at h
   ·exact By h
   ·exact By h
def Bw{l:al}: ∀(gs:List eY) (i:Nat) (ok:Bool) (ob:al) {r:Bool×al},ca l gs i ok ob=some r->r.1=true->ok=true/\ ∀g∈gs,g.Arg.Nodes.length=0
 |[],i,ok,ob,r,h,hr=>by
  unfold ca at h
  cases h
  exact⟨hr,fun g K=>by cases K⟩
 |g::gs,i,ok,ob,r,h,hr=>by
  unfold ca at h
  obtain⟨e3,_,h⟩:=bs h
  have: ∃ok' ob',ca l gs (i+1) ok' ob' =some r/\(ok' =true->ok=true/\g.Arg.Nodes.length=0):=by
   split at h
   ·exact Bz h
   ·exact Bz h
  obtain⟨ok',ob',Y,X⟩:=this
  obtain⟨d,h4⟩:=Bw gs _ _ _ Y hr
  obtain⟨h5,h6⟩:=X d
  refine⟨h5,fun x V=>?_⟩
  rcases jl.1 V with rfl|V
  ·exact h6
  ·exact h4 x V
def Bx{l:al}{R:List Int}: ∀(ks:List Int) (i:Nat) (ok:Bool) {r:Bool×al},ea l R ks i ok=some r->r.1=true-> ∀g∈l.n.Aggs,g.Arg.Nodes.length=0
 |[],i,ok,r,h,hr=>by
  unfold ea at h
  exact(Bw _ _ _ _ h hr).2
 |k::ks,i,ok,r,h,hr=>by
  unfold ea at h
  obtain⟨t,_,h⟩:=bs h
  exact Bx ks _ _ h hr
def ZK{n:aa}(hn:je n){l:al}(hl:l.n=n){r:Bool×al}(h:oe n.Op l ()=some r)(hr:r.1=true):VN n:=by
 subst hl
 refine⟨fun ho=>?_,fun ho=>?_,fun ho=>?_⟩
 ·rcases ho with ho|ho
  ·rw [ho]at h
   have h:hU l=some r:=h
   unfold hU at h
   obtain⟨c,_,h⟩:=bs h
   obtain⟨b,Y,h⟩:=bs h
   cases h
   exact JX hn.cond Y hr
  ·rw [ho]at h
   have h:fP l=some r:=h
   unfold fP at h
   obtain⟨b,Y,h⟩:=bs h
   cases h
   exact JX hn.cond Y hr
 ·rcases ho with ho|ho|ho
  ·rw [ho]at h
   have h:eC l=some r:=h
   exact E5 hn.args hn.aggs l.n.Keys [] (by have:=hn.keys;simpa using this) h hr
  ·rw [ho]at h
   have h:d8 l=some r:=h
   unfold d8 at h
   obtain⟨q,Y,h⟩:=bs h
   by_cases hq:q.1=true
   ·exact E5 hn.args hn.aggs l.n.Keys [] (by have:=hn.keys;simpa using this) Y hq
   ·rw [bh (by simpa using hq)]at h
    cases h;cases hr
  ·rw [ho]at h
   have h:dF l=some r:=h
   unfold dF at h
   obtain⟨e,_,h⟩:=bs h
   split at h
   ·cases h;cases hr
   ·obtain⟨c,_,h⟩:=bs h
    exact fun g K=>Ls (Bx _ _ _ h hr g K)
 ·rw [ho]at h
  have h:iL l=some r:=h
  exact On l.n.Items _ hn.exprs h hr
def v7{l:al}{i:Int}{ask:al->Unit->Option (Bool×al)}{e:aa}{r:Int}: ∀(tl:List Int) (i5:Nat) (a b:List Int) {q:Bool×al},bd l i ask e r tl i5 a b=some q->q.1=true-> ∃l0 r2,l0.n=e/\ask l0 ()=some r2/\r2.1=true
 |[],i5,a,b,q,h,hq=>by
  unfold bd at h
  split at h
  ·cases h;cases hq
  ·obtain⟨r2,X,h⟩:=bs h
   by_cases hr:r2.1=true
   ·exact⟨_,r2,rfl,X,hr⟩
   ·rw [bh (by simp [hr])]at h
    cases h;cases hq
 |p::tl,i5,a,b,q,h,hq=>by
  unfold bd at h
  obtain⟨e2,_,h⟩:=bs h
  obtain⟨t1,_,h⟩:=bs h
  split at h
  ·cases h;cases hq
  ·split at h
   ·exact v7 tl _ _ _ h hq
   ·exact v7 tl _ _ _ h hq
def PP{l:al}{i:Int}{ask:al->Unit->Option (Bool×al)}{q:Bool×al}(h:dm l i ask=some q)(hq:q.1=true){e:aa}(he:gV l.nodes i=some e): ∃l0 r2,l0.n=e/\ask l0 ()=some r2/\r2.1=true:=by
 unfold dm at h
 rw [he,bf]at h
 obtain⟨r,_,h⟩:=bs h
 obtain⟨t,_,h⟩:=bs h
 split at h
 ·cases h;cases hq
 ·obtain⟨y,_,h⟩:=bs h
  split at h
  ·cases h;cases hq
  ·obtain⟨y1,_,h⟩:=bs h
   exact v7 _ _ _ _ h hq
def OH{ns:List aa}(hs:mz ns): ∀(tl:List aa) (i:Nat) (l:al),ns.drop i=tl->Q4 ns l i-> ∀{out:List (List Int)} {w:Int},fh ns ((lE).getD []) tl i (-1) l=some (out,w,0)-> ∀n∈tl,VN n
 |[],_,_,_,_,_,_,_=>fun n hn=>by cases hn
 |e::tl,i,l,hd,hS,out,w,h=>by
  obtain⟨hidx,hi,hd'⟩:=pz hd
  have hidx' :=hidx
  rw [eU]at hidx
  obtain⟨ok,l',g1,g2,g3⟩:=B6 hS hs hidx tl
  unfold fh at h
  have g1' :dm l (i:Int) ((uo ((lE).getD []) e.Op).getD (fun _ _=>none))=some (ok,l'):=g1
  rw [g1',bf]at h
  cases ok with
  |false=>
   rw [bh (by rfl)]at h
   unfold jJ at h
   rw [aQ (by simp;omega),pB l' (by omega)]at h
   cases h
  |true=>
   rw [aQ (by simp)]at h
   have hse:=hs.n e (tu hidx)
   obtain⟨l0,r2,k1,k2,k3⟩:=PP g1 rfl (by rw [hS.k.nodes];exact hidx')
   intro n hn
   rcases jl.1 hn with rfl|hn
   ·exact ZK hse k1 k2 k3
   ·exact OH hs tl (i+1) l' hd' (g2 rfl).1 h n hn
def Uf{ns:List aa}(hs:mz ns){out:List (List Int)}{w:Int}(h:iM ns=some (out,w,0)): ∀n∈ns,VN n:=by
 unfold iM at h
 split at h
 ·cases h
 ·exact OH hs ns 0 ⟨ns,[],[],⟨0,0,0,0,[],false,⟨[]⟩,[],[],[],[],0⟩,[],[],[]⟩ rfl ⟨⟨rfl,rfl,fun p hp=>(by cases hp),eo _,fun k hk=>(by cases hk),fun j hj=>by omega⟩,.nil,fun k hk=>by cases hk⟩ h
end Go.Proofs.YtdohlidddcgfjaaGreat


/- bS of this claim: G4. -/
set_option linter.all false
namespace Go.Proofs.YtdohlidddcgfjaaGreat
open Go

def Uo{α:Type} [DecidableEq α]{g:List α->Nat->Option Bool}{s2:List α}{P:α->Prop}(h0: ∀i,g [] i=some true)(Y: ∀e tl i,P e->g (e::tl) i=(gV s2 (i:Int)).bind fun e1=>if e=e1 then g tl (i+1)else some false): ∀(l:List α) (i:Nat),(∀e∈l,P e)->i+l.length=s2.length->g l i=some (decide (l=s2.drop i))
 |[],i,_,hl=>by
  rw [h0]
  simp only [vk]at hl
  rw [FU (by omega)]
  simp
 |e::tl,i,hp,hl=>by
  simp only [iG]at hl
  have hi:i<s2.length:=by omega
  rw [Y e tl i (hp e (nM ..)),eU,sH hi,bf,B0 hi]
  by_cases h:e=s2[i]
  ·rw [bh h,Uo h0 Y tl (i+1) (fun x V=>hp x (pK _ V)) (by omega),<-h]
   congr 1
   rw [BZ]
   exact⟨fun hh=>by rw [<-hh],fun hh=>(xw hh).2⟩
  ·rw [aQ h,CJ (fun hh=>h (xw hh).1)]
def Wh{α:Type} [DecidableEq α]{g:List α->Nat->Option Bool}{s1 s2:List α}(h:s1.length=s2.length->g s1 0=some (decide (s1=s2.drop 0))):(if((s1.length:Int) !=(s2.length:Int))then some false else g s1 0)=some (decide (s1=s2)):=by
 by_cases hl:s1.length=s2.length
 ·rw [aQ (by simp [hl]),h hl,zF]
 ·rw [bh (by simp;omega),CJ (fun hh=>hl (by rw [hh]))]
def DU{α:Type}{p:Prop} [Decidable p](x y:α):(if(!decide p)=true then x else y)=if p then y else x:=by
 by_cases h:p<;>simp [h]
def yD(a b:List Int):iv a b=some (decide (a=b)):=by
 unfold iv
 refine Wh fun hl=>Uo (P:=fun _=>True) (fun _=>rfl) (fun e tl i _=>?_) a 0 (fun _ _=>trivial) (by simpa using hl)
 conv=>lhs;unfold j7
 congr 1;funext e1
 by_cases h:e=e1<;>simp [h]
def LL(a b:List ku):ib a b=some (decide (a=b)):=by
 unfold ib
 refine Wh fun hl=>Uo (P:=fun _=>True) (fun _=>rfl) (fun e tl i _=>?_) a 0 (fun _ _=>trivial) (by simpa using hl)
 conv=>lhs;unfold gr
 congr 1;funext e1
 exact DU _ _
def NO(a b:List ap):f7 a b=some (decide (a=b)):=by
 unfold f7
 refine Wh fun hl=>Uo (P:=fun _=>True) (fun _=>rfl) (fun e tl i _=>?_) a 0 (fun _ _=>trivial) (by simpa using hl)
 conv=>lhs;unfold fe
 congr 1;funext e1
 exact DU _ _
def LK(a b:List am):d5 a b=some (decide (a=b)):=by
 unfold d5
 refine Wh fun hl=>Uo (P:=fun _=>True) (fun _=>rfl) (fun e tl i _=>?_) a 0 (fun _ _=>trivial) (by simpa using hl)
 conv=>lhs;unfold dH
 congr 1;funext e1
 exact DU _ _
def BJ{α:Type} [DecidableEq α]{f:α->α->Option Bool}{e e1:α}{x y:Option Bool}(h:f e e1=some (decide (e=e1))):((f e e1).bind fun r=>if(!r)=true then y else x)=if e=e1 then x else y:=by
 rw [h,bf];exact DU _ _
def Jv{f:List am->List am->Option Bool}(hf: ∀x y,f x y=some (decide (x=y)))(a b:List (List am)):cm a b f=some (decide (a=b)):=by
 unfold cm
 refine Wh fun hl=>Uo (P:=fun _=>True) (fun _=>rfl) (fun e tl i _=>?_) a 0 (fun _ _=>trivial) (by simpa using hl)
 conv=>lhs;unfold b8
 congr 1;funext e1
 exact BJ (hf e e1)
def Jw{f:eY->eY->Option Bool}(hf: ∀x y,f x y=some (decide (x=y)))(a b:List eY):dv a b f=some (decide (a=b)):=by
 unfold dv
 refine Wh fun hl=>Uo (P:=fun _=>True) (fun _=>rfl) (fun e tl i _=>?_) a 0 (fun _ _=>trivial) (by simpa using hl)
 conv=>lhs;unfold dg
 congr 1;funext e1
 exact BJ (hf e e1)
def Gt{f:aO->aO->Option Bool}(hf: ∀x y,f x y=some (decide (x=y)))(a b:List aO):db a b f=some (decide (a=b)):=by
 unfold db
 refine Wh fun hl=>Uo (P:=fun _=>True) (fun _=>rfl) (fun e tl i _=>?_) a 0 (fun _ _=>trivial) (by simpa using hl)
 conv=>lhs;unfold cT
 congr 1;funext e1
 exact BJ (hf e e1)
def Gr{f:aa->aa->Option Bool}(hf: ∀x y,f x y=some (decide (x=y)))(a b:List aa):cP a b f=some (decide (a=b)):=by
 unfold cP
 refine Wh fun hl=>Uo (P:=fun _=>True) (fun _=>rfl) (fun e tl i _=>?_) a 0 (fun _ _=>trivial) (by simpa using hl)
 conv=>lhs;unfold cM
 congr 1;funext e1
 exact BJ (hf e e1)
def Gs{f:dp->dp->Option Bool}(hf: ∀x y,f x y=some (decide (x=y)))(a b:List dp):da a b f=some (decide (a=b)):=by
 unfold da
 refine Wh fun hl=>Uo (P:=fun _=>True) (fun _=>rfl) (fun e tl i _=>?_) a 0 (fun _ _=>trivial) (by simpa using hl)
 conv=>lhs;unfold cS
 congr 1;funext e1
 exact BJ (hf e e1)
def iW{p q:Bool}{x:Option Bool}(h:x=some q):(if p=true then(x.bind fun r=>some r)else some false)=some (p&&q):=by
 subst h
 cases p<;>rfl
def yq(a b:aO):tp a b=some (decide (a=b)):=by
 unfold tp
 rw [NO,bf]
 cases a;cases b;simp
def NH(a b:eY):pQ a b=some (decide (a=b)):=by
 unfold pQ
 rw [iW (yq _ _),bf]
 cases a;cases b;simp [Bool.beq_eq_decide_eq]
def KL(a b:aa):oA a b=some (decide (a=b)):=by
 unfold oA
 rw [iW (yD _ _),bf,iW (yD _ _),bf,iW (LL _ _),bf,iW (yq _ _),bf,iW (Jw NH _ _),bf,iW (Gt yq _ _),bf]
 cases a;cases b
 congr 1
 rw [xp]
 simp only [ly,oY,ig,aa.mk.injEq]
 grind
def La(a b:dp):sn oA a b=some (decide (a=b)):=by
 unfold sn
 rw [iW (yD _ _),bf,iW (Gr KL _ _),bf]
 cases a;cases b
 congr 1
 rw [xp]
 simp only [ly,oY,ig,dp.mk.injEq]
 grind
def Kn(a b:cV):yM a b=some (decide (a=b)):=by
 unfold yM
 rw [Gs La,bf]
 cases a;cases b;simp
def F8(a b:aI):po a b=some (decide (a=b)):=by
 unfold po
 rw [Jv (fun x y=>by unfold qf;rw [LK,bf]),bf]
 obtain⟨k,ae,q,l,⟨r,e,c⟩⟩:=a
 obtain⟨k',s',q',l',⟨r',e',c'⟩⟩:=b
 congr 1
 rw [xp]
 simp only [ly,oY,ig,aI.mk.injEq,bI.mk.injEq]
 grind
def Gm(a b:bT):qg a b=some (decide (a=b)):=by
 unfold qg
 rw [iW (F8 _ _),bf,iW (Kn _ _),bf]
 cases a;cases b
 congr 1
 rw [xp]
 simp only [ly,oY,ig,bT.mk.injEq,List.cons.injEq]
 grind
end Go.Proofs.YtdohlidddcgfjaaGreat


/- bS of this claim: G5. -/
set_option linter.all false
namespace Go.Proofs.YtdohlidddcgfjaaGreat
open Go

def WO(r:List am):List Int:=IntKind.u8.wrap (r.length:Int)::r.flatMap vB
structure Z2(l:List (List am)):Prop where
 len:l.length<=10
 r: ∀r∈l,r.length<=20/\ ∀v∈r,v.S.length<=100
def Qi(r:List am):List Int×Int:=if 16<r.length then([],3)else if r.all gu then(WO r,0)else([],120)
def Bk: ∀(l:List am) (b:List Int),(∀v∈l,v.S.length<=100)->b.length+117*l.length<=50000000000->lF l b=some (if l.all gu then(b++l.flatMap vB,0)else([],120))
 |[],b,_,_=>by unfold lF;simp
 |v::l,b,hs,h=>by
  have hv:=hs v (nM ..)
  have hvl:=H0 v
  simp only [iG,AH]at h
  unfold lF
  rw [yu v (by omega),bf]
  by_cases hr:gu v=true
  ·rw [bh hr,aQ (by simp)]
   show((app b (vB v)).bind _)=_
   rw [cD (by omega),bf,Bk l _ (fun x V=>hs x (pK _ V)) (by simp;omega)]
   simp [hr]
  ·rw [aQ hr,bh (by simp)]
   simp [hr]
def Lx(r:List am)(h:r.length<=20/\ ∀v∈r,v.S.length<=100):yX r=some (Qi r):=by
 unfold yX Qi
 by_cases hl:16<r.length
 ·rw [bh (by simp;omega),bh hl]
 ·rw [aQ (by simp;omega),aQ hl]
  unfold wL
  rw [Bk r _ h.2 (by simp;omega),bf]
  cases r.all gu<;>rfl
def Oe(r:List am)(h:r.length<=20/\ ∀v∈r,v.S.length<=100):(Qi r).1.length<=2341:=by
 have Y:=uJ (f:=vB) (k:=117) r fun v hv=>by have:=H0 v;have:=h.2 v hv;omega
 have:=h.1
 unfold Qi
 split
 ·simp
 ·split
  ·simp only [WO,iG];omega
  ·simp
def Wq(r:List am):nj (Qi r).1:=by
 unfold Qi
 split
 ·exact pZ
 ·split
  ·exact iC (su _ fun v _=>T4 v)
  ·exact pZ
def Rl:List (List am)->Nat->List Int->List Int×Int×Int
 |[],_,b=>(b,0,0)
 |r::l,i,b=>if(Qi r).2=0 then Rl l (i+1) (b++(Qi r).1)else([],i,(Qi r).2)
def C8: ∀(l:List (List am)) (i:Nat) (b:List Int) (a e:Int),(∀r∈l,r.length<=20/\ ∀v∈r,v.S.length<=100)->b.length+2341*l.length<=50000000000->e=0->nI l i b a e=some (Rl l i b)
 |[],i,b,a,e,_,_,he=>by
  subst he
  unfold nI pT
  rw [aQ (by simp)];rfl
 |r::l,i,b,a,e,hs,h,_=>by
  have hr:=hs r (nM ..)
  have hrl:=Oe r hr
  simp only [iG,AH]at h
  unfold nI
  rw [Lx r hr,bf]
  unfold Rl
  by_cases h0:(Qi r).2=0
  ·rw [aQ (by simp [h0]),bh h0,cD (by omega),bf,C8 l (i+1) _ a _ (fun x V=>hs x (pK _ V)) (by simp;omega) h0]
  ·rw [bh (by simpa using h0),aQ h0]
   unfold pT
   rw [bh (by simpa using h0)]
def Um(l:List (List am)):List Int×Int×Int:=Rl l 0 (eX (l.length:Int) 2)
def Jc(l:List (List am))(hs:Z2 l):wM l=some (Um l):=by
 have:=hs.len
 unfold wM
 rw [aQ (by simp;omega),xV _ _ (by simp),bf,WU (by omega),mh,C8 l 0 _ _ _ hs.r (by simp [eS];omega) rfl]
 rfl
def OJ: ∀(l:List (List am)) (i:Nat) (b:List Int),(∀r∈l,r.length<=20/\ ∀v∈r,v.S.length<=100)->(Rl l i b).1.length<=b.length+2341*l.length
 |[],i,b,_=>by simp [Rl]
 |r::l,i,b,hs=>by
  have hrl:=Oe r (hs r (nM ..))
  unfold Rl
  split
  ·have:=OJ l (i+1) (b++(Qi r).1) fun x V=>hs x (pK _ V)
   rw [kj]at this
   simp only [iG,AH];omega
  ·simp
def Pj: ∀(l:List (List am)) (i:Nat) (b:List Int),nj b->nj (Rl l i b).1
 |[],i,b,h=>h
 |r::l,i,b,h=>by
  unfold Rl
  split
  ·exact Pj l (i+1) _ (gz h (Wq r))
  ·exact pZ
def OG(l:List (List am))(hs:Z2 l):(Um l).1.length<=30000:=by
 have:=OJ l 0 (eX (l.length:Int) 2) hs.r
 have:=hs.len
 rw [eS]at*
 unfold Um;omega
def Ws(l:List (List am)):nj (Um l).1:=Pj l 0 _ (jB _ _)
def w4(n:Nat):Nat->List Int
 |0=>[]
 |k+1=>((n%256:Nat):Int)::w4 (n/256) k
def Od: ∀(k n:Nat) (out:List Int),out.length+k<=60000000000->nv k out (n:Int)=some (out++w4 n k)
 |0,n,out,_=>by unfold nv;simp [w4]
 |k+1,n,out,h=>by
  unfold nv
  rw [show IntKind.u8.wrap (n:Int)=((n%256:Nat):Int) by rw [BW];omega,cD (by simp;omega),bf,show((n:Int).fdiv (2^(min (Int.toNat (8:Int)) IntKind.u32.bits)))=((n/256:Nat):Int) by
   show(n:Int).fdiv 256=_
   rw [N0 _ (by omega)];omega,Od k (n/256) _ (by simp;omega),hZ]
  rfl
def Eo{f:dp}(h:Z4 f):mz f.Nodes:=by
 refine⟨by have:=h.len;omega,fun n hn=>?_⟩
 have k:=h.n n hn
 have:=k.cond.len;have:=k.kinds;have:=k.keys;have:=k.order;have:=k.items;have:=k.aggs
 exact⟨by omega,by omega,by omega,by omega,by omega,by omega,fun g K=>by have:=(k.arg g K).len;omega,fun e he=>by have:=(k.item e he).len;omega⟩
def Vn(ns:List aa):Bool:=match iM ns with
 |some r=>r.2.2==0
 |none=>false
def QW(c:Int):Bool:=decide (c<0)||decide (16<=c)
def C1(f:dp):Bool:=Vn f.Nodes&&((f.At==1)||(f.At==2))&&((decide (1<=f.Way)&&decide (f.Way<=4))&&decide ((f.Cols.length:Int)<=16)&& !(f.Cols.any QW))
def zu(p:cV):Bool:=(decide ((1:Int)<=(p.Frags.length:Int))&&decide ((p.Frags.length:Int)<=30))&&p.Frags.all C1
def CZ{f:dp}(h:Z4 f): ∃out w e,iM f.Nodes=some (out,w,e)/\((e=0/\Vn f.Nodes=true/\(∀n∈f.Nodes,VN n)/\sj f.Nodes=some (out,-1))\/(e=291/\Vn f.Nodes=false/\ ∃a:Nat,sj f.Nodes=some ([],(a:Int)))):=by
 obtain⟨out,w,e,Y,X⟩:=NL (Eo h)
 refine⟨out,w,e,Y,?_⟩
 rcases X with⟨e0,_,d,_⟩|⟨e0,_,d⟩
 ·subst e0
  exact .inl ⟨rfl,by unfold Vn;rw [Y];rfl,Uf (Eo h) Y,d⟩
 ·subst e0
  exact .inr ⟨rfl,by unfold Vn;rw [Y];rfl,d⟩
def BL{p q:Bool}{x:Option Bool}(h:x=some q):(if p=true then(x.bind fun r=>some (!r))else some false)=some (p&& !q):=by
 subst h
 cases p<;>rfl
def Hk(p:cV): ∀l:List dp,(∀f∈l,∃r,iM f.Nodes=some r)->nG p l=some ((decide ((1:Int)<=(p.Frags.length:Int))&&decide ((p.Frags.length:Int)<=30))&&l.all C1)
 |[],_=>by unfold nG;simp
 |f::l,hs=>by
  obtain⟨⟨out,w,e⟩,Y⟩:=hs f (nM ..)
  have hk:Vn f.Nodes=(e==0):=by unfold Vn;rw [Y]
  unfold nG
  rw [Y,bf,kF (f:=qZ) (g:=QW) (fun _=>rfl)]
  have D:=BL (p:=((decide ((1:Int)<=f.Way))&&(decide (f.Way<=(4:Int))))&&(decide ((f.Cols.length:Int)<=(16:Int)))) (rfl:some (f.Cols.any QW)=some (f.Cols.any QW))
  rw [D,bf,Hk p l fun x V=>hs x (pK _ V)]
  have V:(((e !=(0:Int))||(!((f.At==(1:Int))||(f.At==(2:Int)))))||(!((((decide ((1:Int)<=f.Way))&&(decide (f.Way<=(4:Int))))&&(decide ((f.Cols.length:Int)<=(16:Int))))&& !(f.Cols.any QW))))= !(C1 f):=by
   unfold C1
   rw [hk]
   simp only [bne,Bool.not_and,Bool.not_not]
  show(if _ then _ else _)=_
  rw [V,AI]
  cases C1 f<;>simp
def IR(p:cV)(hs:Z3 p):tX p=some (zu p):=Hk p p.Frags fun f hf=>by
 obtain⟨out,w,e,Y,_⟩:=CZ (hs.f f hf)
 exact⟨_,Y⟩
def Vk{p:cV}(hs:Z3 p)(h:zu p=true): ∀f∈p.Frags,∀n∈f.Nodes,VN n:=fun f hf=>by
 unfold zu at h
 rw [ly]at h
 have Y:=kU.1 h.2 f hf
 unfold C1 at Y
 simp only [ly]at Y
 obtain⟨out,w,e,X,d⟩:=CZ (hs.f f hf)
 rcases d with⟨_,_,h4,_⟩|⟨_,h4,_⟩
 ·exact h4
 ·rw [h4]at Y;exact absurd Y.1.1 (by simp)
end Go.Proofs.YtdohlidddcgfjaaGreat


/- bS of this claim: G6. -/
set_option linter.all false
namespace Go.Proofs.YtdohlidddcgfjaaGreat
open Go

def xS: ∀l:List ap,kb l=some true\/(kb l=some false/\ ∀n∈l,n.Value.S.length<=100)
 |[]=> .inr ⟨rfl,fun n hn=>by cases hn⟩
 |x::l=>by
  unfold kb
  by_cases h:(decide ((100:Int)<(x.Value.S.length:Int)))=true
  ·rw [bh h];exact .inl rfl
  ·rw [aQ h]
   refine(xS l).imp id fun⟨Y,X⟩=>⟨Y,fun n hn=>?_⟩
   rcases jl.1 hn with rfl|hn
   ·simp at h;omega
   ·exact X n hn
def z6(e:aO):ll e=some true\/(ll e=some false/\T9 e):=by
 unfold ll
 by_cases h:(decide ((100:Int)<(e.Nodes.length:Int)))=true
 ·rw [bh h];exact .inl rfl
 ·rw [aQ h]
  exact(xS e.Nodes).imp id fun⟨Y,X⟩=>⟨Y,by simp at h;omega,X⟩
def w5(nx:Option Bool): ∀l:List eY,il nx l=some true\/(il nx l=nx/\ ∀a∈l,T9 a.Arg)
 |[]=> .inr ⟨rfl,fun n hn=>by cases hn⟩
 |x::l=>by
  unfold il
  rcases z6 x.Arg with h|⟨h,hs⟩
  ·rw [h,bf,bh rfl];exact .inl rfl
  ·rw [h,bf,aQ (by simp)]
   refine(w5 nx l).imp id fun⟨Y,X⟩=>⟨Y,fun n hn=>?_⟩
   rcases jl.1 hn with rfl|hn
   ·exact hs
   ·exact X n hn
def w6(nx:Option Bool)(e:aa): ∀l:List aO,jx nx e l=some true\/(jx nx e l=il nx e.Aggs/\ ∀a∈l,T9 a)
 |[]=> .inr ⟨rfl,fun n hn=>by cases hn⟩
 |x::l=>by
  unfold jx
  rcases z6 x with h|⟨h,hs⟩
  ·rw [h,bf,bh rfl];exact .inl rfl
  ·rw [h,bf,aQ (by simp)]
   refine(w6 nx e l).imp id fun⟨Y,X⟩=>⟨Y,fun n hn=>?_⟩
   rcases jl.1 hn with rfl|hn
   ·exact hs
   ·exact X n hn
def w7: ∀l:List aa,eP l=some true\/(eP l=some false/\ ∀n∈l,WB n)
  |[]=> .inr ⟨rfl,fun n hn=>by cases hn⟩
  | x :: l => by
    unfold eP
    by_cases hc:(!(((((decide ((20:Int)<(x.Kinds.length:Int)))||(decide ((20:Int)<(x.Keys.length:Int))))||(decide ((20:Int)<(x.Order.length:Int))))||(decide ((20:Int)<(x.Items.length:Int))))||(decide ((20:Int)<(x.Aggs.length:Int)))))=true
    · rw [bh hc]
      rcases z6 x.Cond with h|⟨h,hs⟩
      · rw [h,bf,bf,bh rfl];exact .inl rfl
      · rw [h,bf,bf,aQ (by simp)]
        rcases w6 (eP l) x x.Items with X|⟨X,d⟩
        · exact .inl X
        · rw [X]
          rcases w5 (eP l) x.Aggs with h4|⟨h4,h5⟩
          · exact .inl h4
          · rw [h4]
            refine(w7 l).imp id fun⟨h6,h7⟩=>⟨h6,fun n hn=>?_⟩
            rcases jl.1 hn with rfl|hn
            · simp at hc
              exact⟨by omega,by omega,by omega,by omega,by omega,hs,d,h5⟩
            · exact h7 n hn
    · rw [aQ hc,bf,bh rfl];exact .inl rfl
def Kx(l:List aa):np l=some true\/(np l=some false/\l.length<=70/\ ∀n∈l,WB n):=by
 unfold np
 by_cases h:(decide ((70:Int)<(l.length:Int)))=true
 ·rw [bh h];exact .inl rfl
 ·rw [aQ h]
  exact(w7 l).imp id fun⟨Y,X⟩=>⟨Y,by simp at h;omega,X⟩
def xR: ∀l:List dp,ka l=some true\/(ka l=some false/\ ∀f∈l,Z4 f)
 |[]=> .inr ⟨rfl,fun n hn=>by cases hn⟩
 |x::l=>by
  unfold ka
  by_cases hc:(!(decide ((40:Int)<(x.Cols.length:Int))))=true
  ·rw [bh hc]
   rcases Kx x.Nodes with h|⟨h,Y,X⟩
   ·rw [h,bf,bf,bh rfl];exact .inl rfl
   ·rw [h,bf,bf,aQ (by simp)]
    refine(xR l).imp id fun⟨h6,h7⟩=>⟨h6,fun n hn=>?_⟩
    rcases jl.1 hn with rfl|hn
    ·exact⟨by simp at hc;omega,Y,X⟩
    ·exact h7 n hn
  ·rw [aQ hc,bf,bh rfl];exact .inl rfl
def MI(p:cV):oG p=some true\/(oG p=some false/\Z3 p):=by
 unfold oG
 by_cases h:(decide ((40:Int)<(p.Frags.length:Int)))=true
 ·rw [bh h];exact .inl rfl
 ·rw [aQ h]
  exact(xR p.Frags).imp id fun⟨Y,X⟩=>⟨Y,by simp at h;omega,X⟩
def xP(nx:Option Bool): ∀l:List am,j9 nx l=some true\/(j9 nx l=nx/\ ∀v∈l,v.S.length<=100)
 |[]=> .inr ⟨rfl,fun n hn=>by cases hn⟩
 |x::l=>by
  unfold j9
  by_cases h:(decide ((100:Int)<(x.S.length:Int)))=true
  ·rw [bh h];exact .inl rfl
  ·rw [aQ h]
   refine(xP nx l).imp id fun⟨Y,X⟩=>⟨Y,fun n hn=>?_⟩
   rcases jl.1 hn with rfl|hn
   ·simp at h;omega
   ·exact X n hn
def xQ: ∀l:List (List am),gU l=some true\/(gU l=some false/\ ∀r∈l,r.length<=20/\ ∀v∈r,v.S.length<=100)
 |[]=> .inr ⟨rfl,fun n hn=>by cases hn⟩
 |x::l=>by
  unfold gU
  by_cases h:(decide ((20:Int)<(x.length:Int)))=true
  ·rw [bh h];exact .inl rfl
  ·rw [aQ h]
   rcases xP (gU l) x with X|⟨X,d⟩
   ·exact .inl X
   ·rw [X]
    refine(xQ l).imp id fun⟨Y,h4⟩=>⟨Y,fun n hn=>?_⟩
    rcases jl.1 hn with rfl|hn
    ·exact⟨by simp at h;omega,d⟩
    ·exact h4 n hn
def MH(l:List (List am)):oF l=some true\/(oF l=some false/\Z2 l):=by
 unfold oF
 by_cases h:(decide ((10:Int)<(l.length:Int)))=true
 ·rw [bh h];exact .inl rfl
 ·rw [aQ h]
  exact(xQ l).imp id fun⟨Y,X⟩=>⟨Y,by simp at h;omega,X⟩
structure Xy(m:bT):Prop where
 p:Z3 m.Plan
 r:Z2 m.Packet.Batch.Rows
def X9(m:bT):tW m=some true\/(tW m=some false/\Xy m):=by
 unfold tW
 rcases MI m.Plan with h|⟨h,Y⟩
 ·rw [h,bf,aQ (by simp),bf];exact .inl rfl
 ·rw [h,bf,bh (by simp)]
  rcases MH m.Packet.Batch.Rows with X|⟨X,d⟩
  ·rw [X,bf,bf];exact .inl rfl
  ·rw [X,bf,bf];exact .inr ⟨rfl,Y,d⟩
def Dv(l:List (List am)):Bool:=(decide ((0:Int)<(l.length:Int))&&decide ((l.length:Int)<=4))&&l.all qc
def Jk(b:bI)(seq:Int):Bool:=
 if(decide (seq<1)||decide (1099511627776<seq))=true then false
 else if b.End then((b.Rows.length:Int)==0)&&(b.Count==IntKind.u64.wrap (seq-1))else(b.Count==0)&&Dv b.Rows
def uD(p:aI):Bool:=(decide (1<=p.Session)&&decide (p.Session<=2147483647))&&
  (if p.Kind=1 then(p.Limit==0)&&Jk p.Batch p.Seq
   else if p.Kind=2 then(((((((p.Batch.Rows.length:Int)==0)&&(!p.Batch.End))&&(p.Batch.Count==0))&&decide (1<=p.Seq))&&decide (p.Seq<=1099511627777))&&decide (IntKind.u64.wrap (p.Seq-1)<=p.Limit))&&decide (p.Limit<=1099511627776)
   else false)
def Dc{f:List am->Option Bool}{g:List am->Bool}(hf: ∀v,f v=some (g v)): ∀(l:List (List am)) (i:Nat),∃r:Int,dV f l i=some r/\decide (0<=r)=l.any g
 |[],i=>⟨-1,rfl,rfl⟩
 |x::l,i=>by
  unfold dV
  rw [hf,bf,List.any_cons]
  cases h:g x with
  |true=>rw [bh rfl];exact⟨_,rfl,by simp⟩
  |false=>rw [aQ (by simp),uX];exact Dc hf l (i+1)
def FM{f:List am->Option Bool}{g:List am->Bool}(hf: ∀v,f v=some (g v))(l:List (List am)):ff l f=some (l.any g):=by
 obtain⟨r,Y,X⟩:=Dc hf l 0
 unfold ff iI
 rw [Y,bf,X]
def KP(l:List (List am)):yS l=some (Dv l):=by
 unfold yS Dv
 rw [BL (FM (g:=fun r=> !qc r) (fun v=>by
  unfold xY
  rw [Iu,bf]
  cases qc v<;>rfl) l),bf]
 congr 2
 rw [<-List.all_eq_not_any_not]
def IL(b:bI)(seq:Int):wo b seq=some (Jk b seq):=by
 unfold wo Jk
 rw [iW (KP _),bf]
 split
 ·rfl
 ·split<;>rfl
def Gg(b:bI):yR b ⟨[],false,0⟩=some ((((b.Rows.length:Int)==0)&&(!b.End))&&(b.Count==0)):=by
 unfold yR
 rw [iW (Kb _ _),bf]
 congr 1
 rw [xp]
 simp
 grind
def S9(b:Bool):(if(!b)=true then some (321:Int)else some 0)=some (if b then 0 else 321):=by cases b<;>rfl
def Gu(p:aI):pj p=some (if uD p then 0 else 321):=by
 unfold pj wn uD
 rw [bf,iW (IL _ _),bf,iW (Gg _),bf,S9,S9]
 by_cases Y:p.Kind=1
 ·rw [bh (by simp [Y]),bh Y,vW]
 ·rw [aQ (by simpa using Y),aQ Y]
  by_cases X:p.Kind=2
  ·rw [bh (by simp [X]),bh X]
   congr 2
   rw [xp];simp;grind
  ·rw [aQ (by simpa using X),aQ X,Bool.and_false]
   rfl
abbrev zP:aI:=⟨0,0,0,0,⟨[],false,0⟩⟩
def KM(n:Int):Bool:=decide (0<=n)&&decide (n<=8)
def Yu(m:bT):Bool:=((KM m.From&&KM m.To)&&decide (1<=m.Epoch))&&decide (m.Epoch<=12)
def qN(m:bT):Bool:=Yu m&&
  (if m.Kind=1 then((decide (1<=m.Sites)&&decide (m.Sites<=8))&&zu m.Plan)&&decide (m.Frag=0/\m.Packet=zP/\m.Err=0)
   else if m.Kind=2\/m.Kind=6\/m.Kind=7 then decide (m.Frag=0/\m.Sites=0/\m.Plan=⟨[]⟩/\m.Packet=zP/\m.Err=0)
   else if m.Kind=3\/m.Kind=4 then(((decide (0<=m.Frag)&&decide (m.Frag<30))&&(m.Packet.Kind==(if m.Kind=3 then 1 else 2)))&&uD m.Packet)&&decide (m.Sites=0/\m.Plan=⟨[]⟩/\m.Err=0)
   else if m.Kind=5 then((m.Err==140)||(m.Err==300))&&decide (m.Frag=0/\m.Sites=0/\m.Plan=⟨[]⟩/\m.Packet=zP)
   else false)
def Ma(m:bT):Bool:=
 if m.Kind=1 then decide (m.Frag=0/\m.Packet=zP/\m.Err=0)
 else if m.Kind=3\/m.Kind=4 then decide (m.Sites=0/\m.Plan=⟨[]⟩/\m.Err=0)
 else if m.Kind=5 then decide (m.Frag=0/\m.Sites=0/\m.Plan=⟨[]⟩/\m.Packet=zP)
 else decide (m.Frag=0/\m.Sites=0/\m.Plan=⟨[]⟩/\m.Packet=zP/\m.Err=0)
def Gi(m:bT):uH m=some (Ma m):=by
 unfold uH qX Ma
 simp only [Gm,bf,bT.mk.injEq]
 by_cases Y:m.Kind=1
 ·rw [bh (by simp [Y]),bh Y];congr 1;rw [BZ];simp
 rw [aQ (by simpa using Y),aQ Y]
 by_cases d:m.Kind=3
 ·rw [bh (by simp [d]),bh (by simp [d]),bh (.inl d)];congr 1;rw [BZ];simp
 rw [aQ (by simpa using d)]
 by_cases h4:m.Kind=4
 ·rw [bh (by simp [h4]),bh (.inr h4)];congr 1;rw [BZ];simp
 rw [aQ (by simpa using h4),aQ (show¬(m.Kind=3\/m.Kind=4) by omega)]
 by_cases h5:m.Kind=5
 ·rw [bh (by simp [h5]),bh h5];congr 1;rw [BZ];simp
 rw [aQ (by simpa using h5),aQ h5];congr 1;rw [BZ];simp
def Jb(m:bT):Bool:=
 if m.Kind=1 then(decide (1<=m.Sites)&&decide (m.Sites<=8))&&zu m.Plan
 else if m.Kind=2\/m.Kind=6\/m.Kind=7 then true
 else if m.Kind=3\/m.Kind=4 then((decide (0<=m.Frag)&&decide (m.Frag<30))&&(m.Packet.Kind==(if m.Kind=3 then 1 else 2)))&&uD m.Packet
 else if m.Kind=5 then(m.Err==140)||(m.Err==300)
 else false
def C6(m:bT)(k:Int):iT m k=some (((decide (0<=m.Frag)&&decide (m.Frag<30))&&(m.Packet.Kind==k))&&uD m.Packet):=by
 unfold iT
 rw [Gu]
 have: ∀b c:Bool,((if b=true then((some (if c=true then(0:Int)else 321)).bind fun r=>some (r==(0:Int)))else some false).bind fun t=>some t)=some (b&&c):=by decide
 exact this _ _
def E7(m:bT)(hl:tX m.Plan=some (zu m.Plan)):sX m=some (Jb m):=by
 unfold sX nt Jb
 rw [iW hl,bf,C6,C6,bf,bf]
 by_cases Y:m.Kind=1
 ·rw [bh (by simp [Y]),bh Y]
 rw [aQ (by simpa using Y),aQ Y]
 by_cases X:m.Kind=2
 ·rw [bh (by simp [X]),bh (by simp [X]),bh (.inl X)]
 rw [aQ (by simpa using X)]
 by_cases h6:m.Kind=6
 ·rw [bh (by simp [h6]),bh (by simp [h6]),bh (.inr (.inl h6))]
 rw [aQ (by simpa using h6)]
 by_cases h7:m.Kind=7
 ·rw [bh (by simp [h7]),bh (.inr (.inr h7))]
 rw [aQ (by simpa using h7),aQ (show¬(m.Kind=2\/m.Kind=6\/m.Kind=7) by omega)]
 by_cases d:m.Kind=3
 ·rw [bh (by simp [d]),bh (show m.Kind=3\/m.Kind=4 from .inl d),bh d]
 rw [aQ (by simpa using d)]
 by_cases h4:m.Kind=4
 ·rw [bh (by simp [h4]),bh (show m.Kind=3\/m.Kind=4 from .inr h4),aQ d]
 rw [aQ (by simpa using h4),aQ (show¬(m.Kind=3\/m.Kind=4) by omega)]
 by_cases h5:m.Kind=5
 ·rw [bh (by simp [h5]),bh h5]
 ·rw [aQ (by simpa using h5),aQ h5]
def Gj(m:bT)(hl:tX m.Plan=some (zu m.Plan)):m3 m=some (qN m):=by
 unfold m3
 rw [show nF m.From=some (KM m.From)from rfl,bf,iW (show nF m.To=some (KM m.To)from rfl),bf,iW (Gi m),bf,iW (E7 m hl),bf]
 congr 1
 unfold qN Ma Jb Yu
 rw [vW]
 congr 1
 repeat' split
 all_goals first|rfl|(exfalso;omega)|exact Bool.and_comm _ _|(simp;done)
def Gk(m:bT)(hs:Xy m):m3 m=some (qN m):=Gj m (IR m.Plan hs.p)
def Xa(m:bT):List Int:=tF [m.Kind,m.From,m.To,m.Epoch]
def Hv(p:aI):List Int:=eX (IntKind.u64.wrap p.Session) 4++eX p.Seq 8++fB p.Batch.End::(if p.Batch.End then eX p.Batch.Count 8 else(Um p.Batch.Rows).1)
def Q0(p:aI):List Int:=eX (IntKind.u64.wrap p.Session) 4++eX p.Seq 8++eX p.Limit 8
def vc(m:bT):List Int:=Xa m++(if m.Kind=1 then IntKind.u8.wrap m.Sites::WT m.Plan else if m.Kind=3 then IntKind.u8.wrap m.Frag::Hv m.Packet else if m.Kind=4 then IntKind.u8.wrap m.Frag::Q0 m.Packet else if m.Kind=5 then [fB (m.Err==300)]else [])
def N2(b:List Int)(p:aI)(hs:Z2 p.Batch.Rows)(h:b.length<=1000000000):mq (W0 b) p=some (W0 (b++if p.Kind=2 then Q0 p else Hv p)):=by
 have hll:=OG _ hs
 unfold mq
 show((m2 b p.Session).bind _)=_
 rw [xU b _ (by omega),bf,mP _ _ (by simp [eS];omega),bf]
 by_cases X:p.Kind=2
 ·rw [bh (by simp [X]),bh X,mP _ _ (by simp [eS];omega),bf]
  simp [Q0]
 ·rw [aQ (by simpa using X),aQ X]
  show((gW (W0 _) p.Batch.End).bind _)=_
  rw [N3 _ _ (by simp [eS];omega),bf]
  unfold Hv
  cases he:p.Batch.End with
  |true=>
   rw [bh rfl,bh rfl]
   show((jY _ _).bind _)=_
   rw [mP _ _ (by simp [eS];omega),bf]
   simp
  |false=>
   rw [aQ (by simp),aQ (by simp),Jc _ hs,bf]
   show((app _ (Um p.Batch.Rows).1).bind _)=_
   rw [cD (by simp [eS];omega),bf]
   simp
def L9(m:bT)(hp: ∀b,b.length<=10->zu m.Plan=true->lN (W0 b) m.Plan=some (W0 (b++WT m.Plan)))(hs:m.Kind=3\/m.Kind=4->uD m.Packet=true->Z2 m.Packet.Batch.Rows)(hr:qN m=true):jZ (W0 []) m=some (W0 (vc m)):=by
 unfold qN at hr
 rw [ly]at hr
 have hr:=hr.2
 unfold jZ kc
 rw [mC [] _ (by simp),bf,mh]
 unfold vc
 show(if(m.Kind==(1:Int))=true then _ else _)=_
 by_cases Y:m.Kind=1
 ·rw [bh Y]at hr
  simp only [ly]at hr
  rw [bh (by simp [Y]),bh Y,mC _ _ (by simp [tF]),bf,hp _ (by simp [tF]) hr.1.2,bf]
  simp [Xa,tF]
 rw [aQ (by simpa using Y),aQ Y]
 rw [aQ Y]at hr
 by_cases d:m.Kind=3
 ·rw [aQ (by omega),bh (.inl d),bh d]at hr
  simp only [ly,oY]at hr
  rw [bh (by simp [d]),bh (by simp [d]),bh d,mC _ _ (by simp [tF]),bf,N2 _ _ (hs (.inl d) hr.1.2) (by simp [tF]),bf,aQ (by omega)]
  simp [Xa,tF]
 rw [aQ (by simpa using d),aQ d]
 by_cases h4:m.Kind=4
 ·rw [aQ (by omega),bh (.inr h4),aQ d]at hr
  simp only [ly,oY]at hr
  rw [bh (by simp [h4]),bh h4,mC _ _ (by simp [tF]),bf,N2 _ _ (hs (.inr h4) hr.1.2) (by simp [tF]),bf,bh (by omega)]
  simp [Xa,tF]
 rw [aQ (by simpa using h4),aQ h4]
 by_cases h5:m.Kind=5
 ·rw [bh (by simp [h5]),bh h5,N3 _ _ (by simp [tF]),bf]
  rfl
 ·rw [aQ (by simpa using h5),aQ h5,p6]
  rfl
def RE(m:bT)(hs:Xy m)(hr:qN m=true):jZ (W0 []) m=some (W0 (vc m)):=
 L9 m (fun b H hl=>aaa b m.Plan hs.p (Vk hs.p hl) (by omega)) (fun _ _=>hs.r) hr
def DQ(m:bT):nj (vc m):=by
 unfold vc
 refine gz (Ph _) ?_
 split
 ·exact iC (Wr _)
 ·split
  ·refine iC (gz (gz (jB _ _) (jB _ _)) (Jh _ ?_))
   split
   ·exact jB _ _
   ·exact Ws _
  ·split
   ·exact iC (gz (gz (jB _ _) (jB _ _)) (jB _ _))
   ·split
    ·exact Jh _ pZ
    ·exact pZ
def OD(m:bT)(hs:Xy m):(vc m).length<=1000000000:=by
 have hpl:=U5 hs.p
 have hll:=OG _ hs.r
 unfold vc
 rw [kj,Xa,UE]
 split
 ·simp;omega
 ·split
  ·simp only [Hv,iG,kj,eS,vk]
   split
   ·simp [eS]
   ·omega
  ·split
   ·simp [Q0,eS]
   ·split<;>simp
def R6(n k:Nat):(w4 n k).length=k:=by
 induction k generalizing n with
 |zero=>rfl
 |succ k ih=>simp [w4,ih]
def UC:xZ=some true:=by kernel_rfl
end Go.Proofs.YtdohlidddcgfjaaGreat


/- bS of this claim: H1. -/
set_option linter.all false
namespace Go.Proofs.YtdohlidddcgfjaaGreat
open Go

def Bp{n:Nat}(h:n<=900000000):n<fq:=by unfold fq;omega
def rd(b:List Int)(k:Nat)(y:Int):af:=⟨⟨(k:Int),y⟩,b⟩
def vh(b:List Int)(k:Nat)(y:Int):fS (rd b k y)=some y:=by unfold fS;simp [rd]
def y4{b:List Int}{k:Nat}(y:Int)(hk:k<=b.length)(H:b.length<=50000000000):gc (rd b k y)=some ((b.length-k:Nat):Int):=by
 unfold gc
 simp only [rd,oj,lI]
 rw [rl];congr 1;omega
def OQ{α:Type}{b tl:List α}{k:Nat}{e:α}(h:b.drop k=e::tl):gV b (k:Int)=some e:=eK h
def Ht{α:Type}{b:List α}{k:Nat}(h:k<b.length): ∃e,b.drop k=e::b.drop (k+1):=⟨b[k],B0 h⟩
def El{i:Nat}(h:i<=50000000000):IntKind.i64.wrap ((i:Int)+1)=((i+1:Nat):Int):=by rw [rl];omega
def WJ(x c:Int):Int:=IntKind.u64.wrap ((IntKind.u64.wrap (x*2^(min (Int.toNat (8:Int)) IntKind.u64.bits)))+(IntKind.u64.wrap c))
def SP{b:List Int}(H:b.length<=50000000000): ∀(m n i k f:Nat) (x:Int),i+m=n->n<=50000000000->k+m<=b.length->m<f->
  fR (n:Int) f (i:Int) x (rd b k 0)=some (rd b (k+m) 0,((b.drop k).take m).foldl WJ x)
 |0,n,i,k,f+1,x,Y,_,_,_=>by
  unfold fR
  rw [aQ (by rw [ig];omega)]
  simp
 |m+1,n,i,k,f+1,x,Y,hn,X,d=>by
  obtain⟨e,he⟩:=Ht (b:=b) (k:=k) (by omega)
  unfold fR
  rw [bh (by rw [ig];omega)]
  have e1:gV (rd b k 0).own (rd b k 0).place.at_=some e:=OQ he
  rw [e1,bf]
  show(some (WJ x e)).bind _=_
  rw [bf,El (by omega)]
  have e2:({rd b k 0 with place:=({(rd b k 0).place with at_:=IntKind.i64.wrap ((rd b k 0).place.at_+1)}:me)}:af)=rd b (k+1) 0:=by
   show(⟨⟨IntKind.i64.wrap ((k:Int)+1),0⟩,b⟩:af)=_
   rw [El (by omega)];rfl
  rw [e2,SP H m n (i+1) (k+1) f (WJ x e) (by omega) hn (by omega) (by omega),he,show k+1+m=k+(m+1)from by omega]
  rfl
def GD{b:List Int}{k n:Nat}(y:Int)(hk:k<=b.length)(H:b.length<=900000000):ck (rd b k y) (n:Int)=
  some (if y≠0 then(0,rd b k y)else if b.length-k<n then(0,rd b k 7)else(((b.drop k).take n).foldl WJ 0,rd b (k+n) 0)):=by
 unfold ck nS
 by_cases hy:y=0
 ·subst hy
  rw [aQ (by simp [rd]),aQ (by rw [ig];omega),y4 0 hk (by omega),bf]
  by_cases hn:b.length-k<n
  ·rw [bh (by rw [ig];omega),aQ (by simp),bh hn];rfl
  ·rw [aQ (by rw [ig];omega),aQ (by simp),aQ hn]
   have:=SP (b:=b) (by omega) n n 0 k fq 0 (by omega) (by omega) (by omega) (Bp (by omega))
   rw [show((0:Nat):Int)=(0:Int)from rfl]at this
   rw [this];rfl
 ·rw [bh (by simp [rd,hy]),bh hy];rfl
def SQ{b:List Int}(H:b.length<=50000000000): ∀(m n i k f:Nat) (x:List Int),i+m=n->n<=50000000000->k+m<=b.length->m<f->x.length+m<=60000000000->
  fQ (n:Int) f (i:Int) x (rd b k 0)=some (rd b (k+m) 0,x++(b.drop k).take m)
 |0,n,i,k,f+1,x,Y,_,_,_,_=>by
  unfold fQ
  rw [aQ (by rw [ig];omega)]
  simp
 |m+1,n,i,k,f+1,x,Y,hn,X,d,h4=>by
  obtain⟨e,he⟩:=Ht (b:=b) (k:=k) (by omega)
  unfold fQ
  rw [bh (by rw [ig];omega)]
  have e1:gV (rd b k 0).own (rd b k 0).place.at_=some e:=OQ he
  rw [e1,bf]
  unfold qe
  rw [cD (by simp;omega),bf,bf,El (by omega)]
  have e2:({rd b k 0 with place:=({(rd b k 0).place with at_:=IntKind.i64.wrap ((rd b k 0).place.at_+1)}:me)}:af)=rd b (k+1) 0:=by
   show(⟨⟨IntKind.i64.wrap ((k:Int)+1),0⟩,b⟩:af)=_
   rw [El (by omega)];rfl
  rw [e2,SQ H m n (i+1) (k+1) f (x++[e]) (by omega) hn (by omega) (by omega) (by simp;omega),he,show k+1+m=k+(m+1)from by omega,hZ]
  rfl
def Jp{b:List Int}{k n:Nat}(y:Int)(hk:k<=b.length)(H:b.length<=900000000):jw (rd b k y) (n:Int)=
  some (if y≠0 then([],rd b k y)else if b.length-k<n then([],rd b k 7)else((b.drop k).take n,rd b (k+n) 0)):=by
 unfold jw nR
 by_cases hy:y=0
 ·subst hy
  rw [aQ (by simp [rd]),aQ (by rw [ig];omega),y4 0 hk (by omega),bf]
  by_cases hn:b.length-k<n
  ·rw [bh (by rw [ig];omega),aQ (by simp),bh hn];rfl
  ·rw [aQ (by rw [ig];omega),aQ (by simp),aQ hn]
   have:=SQ (b:=b) (by omega) n n 0 k fq [] (by omega) (by omega) (by omega) (Bp (by omega)) (by simp;omega)
   rw [show((0:Nat):Int)=(0:Int)from rfl]at this
   rw [this];rfl
 ·rw [bh (by simp [rd,hy]),bh hy];rfl
def bn:List Int->Int
 |[]=>0
 |c::l=>c*256^l.length+bn l
def BI{c:Int}{l:List Int}(h:nj (c::l)):(∃n:Nat,n<256/\c=(n:Int))/\nj l:=⟨h c (.head _),fun x V=>h x (.tail _ V)⟩
def XO{x c:Int}(V:0<=x)(hx' :x<256^7)(hc:0<=c)(hc' :c<256):WJ x c=x*256+c:=by
 unfold WJ
 rw [show(2:Int)^(min (Int.toNat (8:Int)) IntKind.u64.bits)=256 from rfl,xd,xd,xd]
 omega
def Lc: ∀(l:List Int) (x:Int) (j:Nat),nj l->0<=x->x<256^j->j+l.length<=8->l.foldl WJ x=x*256^l.length+bn l
 |[],x,_,_,_,_,_=>by show x=x*256^0+0;rw [Int.pow_zero,Int.mul_one,Int.add_zero]
 |c::l,x,j,h,h0,V,hj=>by
  obtain⟨⟨n,Y,rfl⟩,X⟩:=BI h
  have h7:x<256^7:=by
   have h8:(256:Int)^j<=256^7:=by
    have:(256:Nat)^j<=256^7:=Nat.pow_le_pow_right (by omega) (by simp at hj;omega)
    have h9:((256:Nat):Int)^j<=((256:Nat):Int)^7:=by rw [<-Int.natCast_pow,<-Int.natCast_pow];exact Int.ofNat_le.2 this
    exact h9
   omega
  rw [List.foldl_cons,XO h0 h7 (by omega) (by omega),Lc l (x*256+n) (j+1) X (by omega) (by rw [Int.pow_succ];omega) (by simp at hj ⊢;omega)]
  simp only [bn,iG,Int.pow_succ]
  rw [Int.add_mul,Int.mul_assoc,Int.mul_comm 256 (256^l.length),Int.add_assoc]
def Vs{l:List Int}(h:nj l)(hl:l.length<=8):l.foldl WJ 0=bn l:=by
 have:=Lc l 0 0 h (by omega) (by rw [Int.pow_zero];omega) (by omega)
 rw [Int.zero_mul,Int.zero_add]at this;exact this
def vL{l:List Int}(h:nj l)(k:Nat):nj (l.drop k):=fun x V=>h x (List.mem_of_mem_drop V)
def yx{l:List Int}(h:nj l)(k:Nat):nj (l.take k):=fun x V=>h x (List.mem_of_mem_take V)
end Go.Proofs.YtdohlidddcgfjaaGreat


/- bS of this claim: H2. -/
set_option linter.all false
namespace Go.Proofs.YtdohlidddcgfjaaGreat
open Go

class Jm(ρ:Type) where
 inv:List Int->ρ->Prop
 bad:ρ->Bool
instance rstR:Jm aK:=⟨fun b r=>r.all=b,fun r=>r.bad⟩
instance rstT:Jm cE:=⟨fun b t=>t.all=(b.length:Int),fun t=>t.bad⟩
variable{ρ:Type} [Jm ρ]
def Ok(b:List Int)(k:Nat)(r:ρ)(o:af):Prop:=Jm.inv b r/\Jm.bad r=false/\o=rd b k 0/\k<=b.length
def No(b:List Int)(r:ρ)(o:af):Prop:=Jm.inv b r/\ ∃k y,o=rd b k y/\k<=b.length/\(Jm.bad r=true\/y≠0)
abbrev Pr(α:Type):=List Int->Option (α×List Int)
def LV(b:List Int){α:Type}(q:Option (α×List Int))(x:α)(r:ρ)(o:af):Prop:=
 match q with
 |some (v,rest)=>x=v/\ ∃k,Ok b k r o/\b.drop k=rest
 |none=>No b r o
structure Rd(b:List Int){α:Type}(f:ρ->af->Option (α×ρ×af))(p:Pr α):Prop where
 ok: ∀k r o,Ok b k r o-> ∃x r' o',f r o=some (x,r',o')/\LV b (p (b.drop k)) x r' o'
 no: ∀r o,No b r o-> ∃x r' o',f r o=some (x,r',o')/\No b r' o'
def cZ{α β:Type}(p:Pr α)(q:α->Pr β):Pr β:=fun l=>(p l).bind fun u=>q u.1 u.2
def kW{α β:Type}(h:α->β)(p:Pr α):Pr β:=fun l=>(p l).map fun u=>(h u.1,u.2)
def Rd.congr{b:List Int}{α:Type}{f g:ρ->af->Option (α×ρ×af)}{p:Pr α}(h:Rd b f p)(e: ∀r o,g r o=f r o):Rd b g p:=
 ⟨fun k r o hk=>by rw [e];exact h.ok k r o hk,fun r o hn=>by rw [e];exact h.no r o hn⟩
def Rd.bind{b:List Int}{α β:Type}{f:ρ->af->Option (α×ρ×af)}{p:Pr α}{g:α->ρ->af->Option (β×ρ×af)}{q:α->Pr β}(hf:Rd b f p)(K: ∀x,Rd b (g x) (q x)):
  Rd b (fun r o=>(f r o).bind fun u=>g u.1 u.2.1 u.2.2) (cZ p q):=by
 refine⟨fun k r o hk=>?_,fun r o hn=>?_⟩
 ·obtain⟨x,r1,o1,Y,X⟩:=hf.ok k r o hk
  rw [Y,bf]
  unfold LV at X
  unfold cZ
  cases hp:p (b.drop k)with
  |none=>
   rw [hp]at X
   obtain⟨y,r2,o2,d,h4⟩:=(K x).no r1 o1 X
   exact⟨y,r2,o2,d,h4⟩
  |some v=>
   rw [hp]at X
   obtain⟨rfl,k1,d,h4⟩:=X
   obtain⟨y,r2,o2,h5,h6⟩:=(K v.1).ok k1 r1 o1 d
   rw [h4]at h6
   exact⟨y,r2,o2,h5,h6⟩
 ·obtain⟨x,r1,o1,Y,X⟩:=hf.no r o hn
  rw [Y,bf]
  exact(K x).no r1 o1 X
def Jo{b:List Int}{α:Type}(x:α):Rd b (fun(r:ρ) o=>some (x,r,o)) (fun l=>some (x,l)):=
 ⟨fun k r o hk=>⟨x,r,o,rfl,rfl,k,hk,rfl⟩,fun r o hn=>⟨x,r,o,rfl,hn⟩⟩
def Rd.map{b:List Int}{α β:Type}{f:ρ->af->Option (α×ρ×af)}{p:Pr α}(h:α->β)(hf:Rd b f p):
  Rd b (fun r o=>(f r o).bind fun u=>some (h u.1,u.2.1,u.2.2)) (kW h p):=by
 have:=hf.bind (g:=fun x r o=>some (h x,r,o)) (q:=fun x l=>some (h x,l)) fun x=>Jo (h x)
 have e:kW h p=cZ p (fun x l=>some (h x,l)):=by
  funext l;unfold kW cZ;cases p l<;>rfl
 rw [e];exact this
def He{b:List Int}{k:Nat}{r:aK}{o:af}(h:Ok b k r o):dd r o=some true:=by
 obtain⟨_,X,rfl,_⟩:=h
 have X:r.bad=false:=X
 unfold dd
 rw [X,bh (show(!false)=true from rfl),vh];rfl
def Hf{b:List Int}{r:aK}{o:af}(h:No b r o):dd r o=some false:=by
 obtain⟨_,k,y,rfl,_,X⟩:=h
 have X:r.bad=true\/y≠0:=X
 unfold dd
 cases H:r.bad with
 |true=>simp
 |false=>
  have hy:y≠0:=by rcases X with h|h;rw [H]at h;cases h;exact h
  rw [bh (show(!false)=true from rfl),vh]
  simp [hy]
def ML{b:List Int}{k:Nat}{r:cE}{o:af}(h:Ok b k r o):ef r o=some true:=by
 obtain⟨_,X,rfl,_⟩:=h
 have X:r.bad=false:=X
 unfold ef
 rw [X,bh (show(!false)=true from rfl),vh];rfl
def MM{b:List Int}{r:cE}{o:af}(h:No b r o):ef r o=some false:=by
 obtain⟨_,k,y,rfl,_,X⟩:=h
 have X:r.bad=true\/y≠0:=X
 unfold ef
 cases H:r.bad with
 |true=>simp
 |false=>
  have hy:y≠0:=by rcases X with h|h;rw [H]at h;cases h;exact h
  rw [bh (show(!false)=true from rfl),vh]
  simp [hy]
structure vV(b:List Int){α E:Type}(I:Nat->E->Prop)(f:E->ρ->af->Option (α×ρ×af×E))(p:E->Pr (α×E)):Prop where
 ok: ∀j e k r o,j<=70000->I j e->Ok b k r o-> ∃x r' o' e',f e r o=some (x,r',o',e')/\I (j+1) e' /\LV b (p e (b.drop k)) (x,e') r' o'
 no: ∀j e r o,j<=70000->I j e->No b r o-> ∃x r' o' e',f e r o=some (x,r',o',e')/\I (j+1) e' /\No b r' o'
def m1{α E:Type}(p:E->Pr (α×E)):Nat->E->Pr (List α×E)
 |0,e,l=>some (([],e),l)
 |n+1,e,l=>(p e l).bind fun u=>(m1 p n u.1.2 u.2).bind fun v=>some ((u.1.1::v.1.1,v.1.2),v.2)
def QB{b:List Int}{α E:Type}{I:Nat->E->Prop}{f:E->ρ->af->Option (α×ρ×af×E)}{p:E->Pr (α×E)}(hf:vV b I f p){okf:ρ->af->Option Bool}(ok1: ∀k r o,Ok b k r o->okf r o=some true)(ok0: ∀r o,No b r o->okf r o=some false)(N:Int)(hN:N<=65535)
  {L:Nat->List α->Int->ρ->af->E->Option (List α×ρ×af×E)}
  (hL: ∀fu out x r o e,L (fu+1) out x r o e=if decide (x<N)=true then(okf r o).bind fun c=>if(!c)=true then some (out,r,o,e)else(f e r o).bind fun u=>(app out [u.1]).bind fun out2=>L fu out2 (IntKind.i64.wrap (x+1)) u.2.1 u.2.2.1 u.2.2.2 else some (out,r,o,e)):
  ∀(m i fu:Nat) (out:List α) (k:Nat) (r:ρ) (o:af) (e:E),(i:Int)+m=N->m<fu->out.length<=i->I i e->Ok b k r o->
   ∃ys r' o' e',L fu out i r o e=some (ys,r',o',e')/\LV b ((m1 p m e (b.drop k)).map fun u=>((out++u.1.1,u.1.2),u.2)) (ys,e') r' o' :=by
 intro m
 induction m with
 |zero=>
  intro i fu out k r o e Y X d h4 h5
  cases fu with
  |zero=>omega
  |succ fu=>
   refine⟨out,r,o,e,?_,by simp [m1],k,h5,rfl⟩
   rw [hL,aQ (by rw [ig];omega)]
 |succ m ih=>
  intro i fu out k r o e Y X d h4 h5
  cases fu with
  |zero=>omega
  |succ fu=>
   obtain⟨x,r1,o1,e1,g1,g2,g3⟩:=hf.ok i e k r o (by omega) h4 h5
   rw [hL,bh (by rw [ig];omega),ok1 k r o h5,bf,aQ (by simp),g1,bf,cD (by simp;omega),bf,El (by omega)]
   unfold m1
   unfold LV at g3
   cases hp:p e (b.drop k)with
   |none=>
    rw [hp]at g3
    cases fu with
    |zero=>omega
    |succ fu=>
     refine⟨out++[x],r1,o1,e1,?_,g3⟩
     rw [hL,ok0 r1 o1 g3]
     split<;>simp
   |some v=>
    obtain⟨⟨v1,v2⟩,v3⟩:=v
    rw [hp]at g3
    obtain⟨hv,k1,g4,g5⟩:=g3
    cases hv
    obtain⟨ys,r2,o2,e2,q1,q2⟩:=ih (i+1) fu (out++[x]) k1 r1 o1 e1 (by omega) (by omega) (by simp;omega) g2 g4
    refine⟨ys,r2,o2,e2,q1,?_⟩
    rw [g5]at q2
    simp only [bf]
    cases hq:m1 p m e1 v3 with
    |none=>rw [hq]at q2;exact q2
    |some w=>rw [hq]at q2;simpa using q2
def Vh{b:List Int}{α E:Type}{okf:ρ->af->Option Bool}(ok0: ∀r o,No b r o->okf r o=some false)(N:Int){L:Nat->List α->Int->ρ->af->E->Option (List α×ρ×af×E)}{g:E->ρ->af->List α->Int->Nat->Option (List α×ρ×af×E)}
  (hL: ∀fu out x r o e,L (fu+1) out x r o e=if decide (x<N)=true then(okf r o).bind fun c=>if(!c)=true then some (out,r,o,e)else g e r o out x fu else some (out,r,o,e))(fu:Nat)(out:List α)(x:Int)(r:ρ)(o:af)(e:E)(h:No b r o):
  L (fu+1) out x r o e=some (out,r,o,e):=by
 rw [hL,ok0 r o h]
 split<;>simp
end Go.Proofs.YtdohlidddcgfjaaGreat


/- bS of this claim: H3. -/
set_option linter.all false
namespace Go.Proofs.YtdohlidddcgfjaaGreat
open Go

def K8: ∃n,fq=n+1:=⟨fq-1,by have:=Bp (n:=0) (by omega);omega⟩
def Bj{ρ:Type} [Jm ρ]{b:List Int}{α E:Type}{I:Nat->E->Prop}{f:E->ρ->af->Option (α×ρ×af×E)}{p:E->Pr (α×E)}(hf:vV b I f p){okf:ρ->af->Option Bool}(ok1: ∀k r o,Ok b k r o->okf r o=some true)(ok0: ∀r o,No b r o->okf r o=some false)(N:Int)(hN:N<=65535)(e0:E)(h0:I 0 e0)
  {L:Nat->List α->Int->ρ->af->E->Option (List α×ρ×af×E)}
  (hL: ∀fu out x r o e,L (fu+1) out x r o e=if decide (x<N)=true then(okf r o).bind fun c=>if(!c)=true then some (out,r,o,e)else(f e r o).bind fun u=>(app out [u.1]).bind fun out2=>L fu out2 (IntKind.i64.wrap (x+1)) u.2.1 u.2.2.1 u.2.2.2 else some (out,r,o,e)):
  Rd b (fun r o=>(L fq [] 0 r o e0).bind fun q=>some (q.1,q.2.1,q.2.2.1)) (fun l=>(m1 p N.toNat e0 l).map fun u=>(u.1.1,u.2)):=by
 refine⟨fun k r o hk=>?_,fun r o hn=>?_⟩
 ·rcases Int.lt_or_le N 0 with hneg|hpos
  ·obtain⟨n,hn⟩:=K8
   rw [hn,hL,aQ (by rw [ig];omega),show N.toNat=0 from by omega]
   exact⟨[],r,o,rfl,rfl,k,hk,rfl⟩
  ·obtain⟨ys,r',o',e',Y,X⟩:=QB hf ok1 ok0 N hN hL N.toNat 0 fq [] k r o e0 (by omega) (Bp (by omega)) (by simp) h0 hk
   rw [show((0:Nat):Int)=(0:Int)from rfl]at Y
   rw [Y]
   refine⟨ys,r',o',rfl,?_⟩
   cases hq:m1 p N.toNat e0 (b.drop k)with
   |none=>rw [hq]at X;exact X
   |some w=>
    rw [hq]at X
    obtain⟨d,h4⟩:=X
    exact⟨by have:=congrArg Prod.fst d;simpa using this,h4⟩
 ·obtain⟨n,hn'⟩:=K8
  rw [hn',Vh ok0 N (g:=fun e r o out x fu=>(f e r o).bind fun u=>(app out [u.1]).bind fun out2=>L fu out2 (IntKind.i64.wrap (x+1)) u.2.1 u.2.2.1 u.2.2.2) hL n [] 0 r o e0 hn]
  exact⟨[],r,o,rfl,hn⟩
def pw(n:Nat):Pr Int:=fun l=>if l.length<n then none else some (bn (l.take n),l.drop n)
def wR{ρ:Type}(n:Nat)(r:ρ)(o:af):Option (Int×ρ×af):=(ck o (n:Int)).map fun q=>(q.1,r,q.2)
section
variable{b:List Int}(H:b.length<=900000000)(hby:nj b)
include H hby
def JS{ρ:Type} [Jm ρ](n:Nat)(hn:n<=8):Rd b (wR (ρ:=ρ) n) (pw n):=by
 refine⟨fun k r o ⟨Y,X,d,h4⟩=>?_,fun r o ⟨Y,k,y,d,h4,h5⟩=>?_⟩
 ·subst d
  unfold wR pw
  rw [GD 0 h4 H,aQ (by simp),Dd]
  by_cases h:b.length-k<n
  ·rw [bh h,bh h]
   exact⟨0,r,rd b k 7,rfl,Y,k,7,rfl,h4,.inr (by decide)⟩
  ·rw [aQ h,aQ h]
   refine⟨_,r,_,rfl,Vs (yx (vL hby k) n) (by simp;omega),k+n,⟨Y,X,rfl,by omega⟩,by rw [sJ]⟩
 ·subst d
  unfold wR
  rw [GD y h4 H]
  split
  ·exact⟨_,_,_,rfl,Y,k,y,rfl,h4,h5⟩
  ·rename_i hy
   have hbad:Jm.bad r=true:=h5.resolve_right hy
   split
   ·exact⟨_,_,_,rfl,Y,k,7,rfl,h4,.inl hbad⟩
   ·exact⟨_,_,_,rfl,Y,k+n,0,rfl,by omega,.inl hbad⟩
end
def h8(x:Int):Int:=IntKind.u8.wrap x
def p8:Pr Int:=kW (fun x=>IntKind.i64.wrap (IntKind.u8.wrap x)) (pw 1)
def lW(r:aK)(o:af):Option (Int×aK×af):=(aP r o).map fun q=>(q.1,r,q.2)
section
variable{b:List Int}(H:b.length<=900000000)(hby:nj b)
include H hby
def oo:Rd b lW p8:=((JS H hby 1 (by omega)).map _).congr fun r o=>by
 unfold lW wR aP cj
 rw [show((1:Nat):Int)=1 from rfl]
 cases ck o 1<;>rfl
def PL{ρ:Type}(r:ρ)(o:af):Option (Int×ρ×af):=(iy o).map fun q=>(IntKind.i64.wrap q.1,r,q.2)
def p16:Pr Int:=kW (fun x=>IntKind.i64.wrap (IntKind.u16.wrap x)) (pw 2)
def RO{ρ:Type} [Jm ρ]:Rd b (PL (ρ:=ρ)) p16:=((JS H hby 2 (by omega)).map _).congr fun r o=>by
 unfold PL wR iy
 rw [show((2:Nat):Int)=2 from rfl]
 cases ck o 2<;>rfl
def RN{ρ:Type}(r:ρ)(o:af):Option (Int×ρ×af):=(kX o).map fun q=>(q.1,r,q.2)
def X7:Pr Int:=kW IntKind.u32.wrap (pw 4)
def RM{ρ:Type} [Jm ρ]:Rd b (RN (ρ:=ρ)) X7:=((JS H hby 4 (by omega)).map _).congr fun r o=>by
 unfold RN wR kX
 rw [show((4:Nat):Int)=4 from rfl]
 cases ck o 4<;>rfl
def Id{ρ:Type}(r:ρ)(o:af):Option (Int×ρ×af):=(dC o).map fun q=>(q.1,r,q.2)
def Ic{ρ:Type} [Jm ρ]:Rd b (Id (ρ:=ρ)) (pw 8):=(JS H hby 8 (by omega)).congr fun r o=>by
 unfold Id wR dC
 rw [show((8:Nat):Int)=8 from rfl]
 cases ck o 8<;>rfl
def tR:Pr Bool:=fun l=>(p8 l).bind fun u=>if 1<u.1 then none else some (u.1==1,u.2)
def DG:Rd b fj tR:=by
 have hs:=oo H hby
 have e: ∀r o,fj r o=(cj o).bind fun r1=>some ((r1.1==(1:Int)),({r with bad:=(r.bad||(decide ((1:Int)<r1.1)))}:aK),r1.2):=fun _ _=>rfl
 have u8: ∀r o x r' o',lW r o=some (x,r',o')-> ∃c,cj o=some (c,o')/\r' =r/\x=IntKind.i64.wrap c/\IntKind.u8.wrap c=c:=by
  intro r o x r' o' h
  unfold lW aP cj at h
  unfold cj
  cases hq:ck o 1 with
  |none=>rw [hq]at h;cases h
  |some q=>
   rw [hq]at h
   cases h
   exact⟨_,rfl,rfl,rfl,by rw [BW,BW];omega⟩
 have wc: ∀c,IntKind.u8.wrap c=c->IntKind.i64.wrap c=c:=fun c h=>by rw [BW]at h;rw [rl];omega
 refine⟨fun k r o hk=>?_,fun r o hn=>?_⟩
 ·obtain⟨x,r1,o1,Y,X⟩:=hs.ok k r o hk
  obtain⟨c,d,rfl,rfl,h4⟩:=u8 r o x r1 o1 Y
  rw [e,d,bf]
  rw [wc c h4]at X
  refine⟨_,_,_,rfl,?_⟩
  unfold tR
  unfold LV at X
  cases hp:p8 (b.drop k)with
  |none=>
   rw [hp]at X
   obtain⟨g1,k',y,g2,g3,g4⟩:=X
   exact⟨g1,k',y,g2,g3,g4.imp (fun(h:r1.bad=true)=>show(r1.bad||_)=true by rw [h];rfl) id⟩
  |some v=>
   rw [hp]at X
   obtain⟨rfl,k',⟨g1,g2,g3,g4⟩,g5⟩:=X
   by_cases h1c:1<v.1
   ·simp only [bf,bh h1c]
    exact⟨g1,k',0,g3,g4,.inl (show(r1.bad||decide (1<v.1))=true by simp [h1c])⟩
   ·simp only [bf,aQ h1c]
    exact⟨rfl,k',⟨g1,(show(r1.bad||decide (1<v.1))=false by rw [show r1.bad=false from g2];simp [h1c]),g3,g4⟩,g5⟩
 ·obtain⟨x,r1,o1,Y,X⟩:=hs.no r o hn
  obtain⟨c,d,rfl,rfl,h4⟩:=u8 r o x r1 o1 Y
  rw [e,d,bf]
  obtain⟨g1,k',y,g2,g3,g4⟩:=X
  exact⟨_,_,_,rfl,g1,k',y,g2,g3,g4.imp (fun(h:r1.bad=true)=>show(r1.bad||_)=true by rw [h];rfl) id⟩
end
def Rd.toE{ρ:Type} [Jm ρ]{b:List Int}{α:Type}{f:ρ->af->Option (α×ρ×af)}{p:Pr α}(h:Rd b f p):vV b (fun _ _=>True) (fun(_:Unit) r o=>(f r o).map fun q=>(q.1,q.2.1,q.2.2,())) (fun _ l=>(p l).map fun u=>((u.1,()),u.2)):=by
 refine⟨fun j e k r o _ _ hk=>?_,fun j e r o _ _ hn=>?_⟩
 ·obtain⟨x,r1,o1,Y,X⟩:=h.ok k r o hk
  refine⟨x,r1,o1,(),by rw [Y];rfl,trivial,?_⟩
  unfold LV at X ⊢
  cases hp:p (b.drop k)with
  |none=>rw [hp]at X;exact X
  |some v=>rw [hp]at X;exact⟨by rw [X.1],X.2⟩
 ·obtain⟨x,r1,o1,Y,X⟩:=h.no r o hn
  exact⟨x,r1,o1,(),by rw [Y];rfl,trivial,X⟩
def pl{α:Type}(p:Pr α):Nat->Pr (List α)
 |0,l=>some ([],l)
 |n+1,l=>(p l).bind fun u=>(pl p n u.2).bind fun v=>some (u.1::v.1,v.2)
def DA{α:Type}(p:Pr α): ∀(n:Nat) (l:List Int),(m1 (fun(_:Unit) l=>(p l).map fun u=>((u.1,()),u.2)) n () l).map (fun u=>(u.1.1,u.2))=pl p n l
 |0,_=>rfl
 |n+1,l=>by
  unfold m1 pl
  cases p l with
  |none=>rfl
  |some u=>
   simp only [pM,bf]
   rw [<-DA p n u.2]
   cases m1 (fun(_:Unit) l=>(p l).map fun u=>((u.1,()),u.2)) n () u.2<;>rfl
end Go.Proofs.YtdohlidddcgfjaaGreat


/- bS of this claim: H4. -/
set_option linter.all false
namespace Go.Proofs.YtdohlidddcgfjaaGreat
open Go

variable{ρ:Type} [Jm ρ]
def RL(r:ρ)(o:af):Option (Int×ρ×af):=(cj o).map fun q=>(IntKind.i64.wrap q.1,r,q.2)
def Sg(n:Nat)(r:ρ)(o:af):Option (List Int×ρ×af):=(jw o (n:Int)).map fun q=>(q.1,r,q.2)
def MC(n:Nat):Pr (List Int):=fun l=>if l.length<n then none else some (l.take n,l.drop n)
def vC(c:Bool)(t:cE)(o:af):Option (Unit×cE×af):=(cH t o c).map fun t' =>((),t',o)
def sE(c:Bool):Pr Unit:=fun l=>if c then some ((),l)else none
def CQ{α:Type}(okf:ρ->af->Option Bool)(x0:α)(f:ρ->af->Option (α×ρ×af))(r:ρ)(o:af):Option (α×ρ×af):=(okf r o).bind fun c=>if c then f r o else some (x0,r,o)
section
variable{b:List Int}(H:b.length<=900000000)(hby:nj b)
include H hby
def N8:Rd b (RL (ρ:=ρ)) p8:=((JS H hby 1 (by omega)).map _).congr fun r o=>by
 unfold RL wR cj
 rw [show((1:Nat):Int)=1 from rfl]
 cases ck o 1<;>rfl
omit hby in
def X6(n:Nat):Rd b (Sg (ρ:=ρ) n) (MC n):=by
 refine⟨fun k r o ⟨Y,X,d,h4⟩=>?_,fun r o ⟨Y,k,y,d,h4,h5⟩=>?_⟩
 ·subst d
  unfold Sg MC
  rw [Jp 0 h4 H,aQ (by simp),Dd]
  by_cases h:b.length-k<n
  ·rw [bh h,bh h]
   exact⟨[],r,rd b k 7,rfl,Y,k,7,rfl,h4,.inr (by decide)⟩
  ·rw [aQ h,aQ h]
   exact⟨_,r,_,rfl,rfl,k+n,⟨Y,X,rfl,by omega⟩,by rw [sJ]⟩
 ·subst d
  unfold Sg
  rw [Jp y h4 H]
  split
  ·exact⟨_,_,_,rfl,Y,k,y,rfl,h4,h5⟩
  ·rename_i hy
   have hbad:Jm.bad r=true:=h5.resolve_right hy
   split
   ·exact⟨_,_,_,rfl,Y,k,7,rfl,h4,.inl hbad⟩
   ·exact⟨_,_,_,rfl,Y,k+n,0,rfl,by omega,.inl hbad⟩
end
def Bf{b:List Int}(c:Bool):Rd b (vC c) (sE c):=by
 refine⟨fun k r o ⟨Y,X,d,h4⟩=>?_,fun r o ⟨Y,k,y,d,h4,h5⟩=>?_⟩
 ·subst d
  have X:r.bad=false:=X
  unfold vC cH sE
  rw [X,aQ (by simp),vh]
  cases c with
  |true=>exact⟨(),_,_,rfl,rfl,k,⟨Y,rfl,rfl,h4⟩,rfl⟩
  |false=>exact⟨(),_,_,rfl,Y,k,0,rfl,h4,.inl rfl⟩
 ·subst d
  have h5:r.bad=true\/y≠0:=h5
  unfold vC cH
  cases H:r.bad with
  |true=>exact⟨(),_,_,rfl,Y,k,y,rfl,h4,.inl rfl⟩
  |false=>
   have hy:y≠0:=by rcases h5 with h|h;rw [H]at h;cases h;exact h
   rw [aQ (by simp),vh]
   exact⟨(),_,_,rfl,Y,k,y,rfl,h4,.inr hy⟩
def Jn{b:List Int}{α:Type}{okf:ρ->af->Option Bool}(ok1: ∀k r o,Ok b k r o->okf r o=some true)(ok0: ∀r o,No b r o->okf r o=some false)(x0:α){f:ρ->af->Option (α×ρ×af)}{p:Pr α}(hf:Rd b f p):Rd b (CQ okf x0 f) p:=by
 refine⟨fun k r o hk=>?_,fun r o hn=>?_⟩
 ·unfold CQ
  rw [ok1 k r o hk]
  exact hf.ok k r o hk
 ·unfold CQ
  rw [ok0 r o hn]
  exact⟨x0,r,o,rfl,hn⟩
def Fs(v:am):cE->af->Option (am×cE×af):=fun t o=>(vC (gu v) t o).bind fun u=>some (v,u.2.1,u.2.2)
def sF(v:am):Pr am:=cZ (sE (gu v)) fun _ l=>some (v,l)
def BE{b:List Int}(v:am):Rd b (Fs v) (sF v):=(Bf _).bind (g:=fun _ t o=>some (v,t,o)) fun _=>Jo v
def v0:am:=⟨0,0,0,[]⟩
def i64(x:Int):Int:=IntKind.i64.wrap x
def dN(c x:Int):cE->af->Option (am×cE×af):=Fs ⟨c,x,0,[]⟩
def Yd(c:Int)(t:cE)(o:af):Option (am×cE×af):=(RL t o).bind fun u=>dN c u.1 u.2.1 u.2.2
def Yt(c:Int)(t:cE)(o:af):Option (am×cE×af):=(Id t o).bind fun u=>dN c (i64 u.1) u.2.1 u.2.2
def dS(c:Int)(ae:List Int):cE->af->Option (am×cE×af):=Fs ⟨c,0,0,pC ae⟩
def UN(c u:Int)(t:cE)(o:af):Option (am×cE×af):=(CQ ef [] (Sg u.toNat) t o).bind fun ae=>dS c ae.1 ae.2.1 ae.2.2
def UM(c u:Int)(t:cE)(o:af):Option (am×cE×af):=(vC (decide (u<=40)) t o).bind fun w=>UN c u w.2.1 w.2.2
def XU(c:Int)(t:cE)(o:af):Option (am×cE×af):=(RL t o).bind fun u=>UM c u.1 u.2.1 u.2.2
def dU(c u w:Int):cE->af->Option (am×cE×af):=Fs ⟨c,i64 u,w,[]⟩
def UK(c u:Int)(t:cE)(o:af):Option (am×cE×af):=(Id t o).bind fun w=>dU c u w.1 w.2.1 w.2.2
def X1(c:Int)(t:cE)(o:af):Option (am×cE×af):=(Id t o).bind fun u=>UK c u.1 u.2.1 u.2.2
def Pk(c:Int):cE->af->Option (am×cE×af):=if c==1 then Yd c else if c==2 then Yt c else if c==3 then XU c else if c==4 then X1 c else Fs ⟨c,0,0,[]⟩
def aaG(c:Int):Pr am:=cZ p8 fun u=>sF ⟨c,u,0,[]⟩
def aaI(c:Int):Pr am:=cZ (pw 8) fun u=>sF ⟨c,i64 u,0,[]⟩
def Si(c u:Int):Pr am:=cZ (MC u.toNat) fun ae=>sF ⟨c,0,0,pC ae⟩
def Sh(c u:Int):Pr am:=cZ (sE (decide (u<=40))) fun _=>Si c u
def aaF(c:Int):Pr am:=cZ p8 (Sh c)
def Oj(c u:Int):Pr am:=cZ (pw 8) fun w=>sF ⟨c,i64 u,w,[]⟩
def aaE(c:Int):Pr am:=cZ (pw 8) (Oj c)
def ES(c:Int):Pr am:=if c==1 then aaG c else if c==2 then aaI c else if c==3 then aaF c else if c==4 then aaE c else sF ⟨c,0,0,[]⟩
section
variable{b:List Int}(H:b.length<=900000000)(hby:nj b)
include H hby
def Ww(c:Int):Rd b (Pk c) (ES c):=by
 have a1:Rd b (Yd c) (aaG c):=Rd.bind (g:=fun u=>dN c u) (N8 H hby) fun u=>BE _
 have a2:Rd b (Yt c) (aaI c):=Rd.bind (g:=fun u=>dN c (i64 u)) (Ic H hby) fun u=>BE _
 have a3: ∀u,Rd b (UN c u) (Si c u):=fun u=>Rd.bind (g:=fun ae=>dS c ae) (Jn (fun _ _ _=>ML) (fun _ _=>MM) [] (X6 H _)) fun ae=>BE _
 have a4: ∀u,Rd b (UM c u) (Sh c u):=fun u=>Rd.bind (g:=fun _=>UN c u) (Bf _) fun _=>a3 u
 have a5:Rd b (XU c) (aaF c):=Rd.bind (g:=UM c) (N8 H hby) a4
 have a6: ∀u,Rd b (UK c u) (Oj c u):=fun u=>Rd.bind (g:=fun w=>dU c u w) (Ic H hby) fun w=>BE _
 have a7:Rd b (X1 c) (aaE c):=Rd.bind (g:=UK c) (Ic H hby) a6
 unfold Pk ES
 split
 ·exact a1
 split
 ·exact a2
 split
 ·exact a5
 split
 ·exact a7
 ·exact BE _
end
def pv:Pr am:=cZ p8 fun c=>cZ (sE (decide (c<=4))) fun _=>ES c
def N7(c:Int):cE->af->Option (am×cE×af):=CQ ef ⟨c,0,0,[]⟩ (Pk c)
def N6(c:Int)(t:cE)(o:af):Option (am×cE×af):=(vC (decide (c<=4)) t o).bind fun u=>N7 c u.2.1 u.2.2
def XT(t:cE)(o:af):Option (am×cE×af):=(RL t o).bind fun u=>N6 u.1 u.2.1 u.2.2
def adb(x:Bool):((if x then(0:Int)else 120)==0)=x:=by cases x<;>rfl
def yW(v:am)(t:cE)(o:af):((ir v).bind fun r=>(cH t o (r==(0:Int))).bind fun t' =>some (v,t',o))=Fs v t o:=by
 rw [qK,bf,adb]
 unfold Fs vC
 cases cH t o (gu v)<;>rfl
def aae{o:af}{q:Int×af}(h:cj o=some q):0<=IntKind.i64.wrap q.1:=by
 unfold cj at h
 cases hw:ck o 1 with
 |none=>rw [hw]at h;cases h
 |some w=>
  rw [hw]at h
  cases h
  rw [BW,rl]
  omega
def RH(t:cE)(o:af):kg t o=XT t o:=by
 unfold kg XT RL
 cases Y:cj o with
 |none=>rfl
 |some r=>
  simp only [pM,bf]
  unfold N6 vC
  cases X:cH t r.2 (decide (IntKind.i64.wrap r.1<=4))with
  |none=>rfl
  |some t1=>
   simp only [pM,bf]
   unfold N7 CQ
   cases d:ef t1 r.2 with
   |none=>rfl
   |some c=>
    cases c with
    |false=>rfl
    |true=>
     simp only [bf,sI,oj,lI,jR]
     unfold Pk
     generalize IntKind.i64.wrap r.1=k
     by_cases e1:(k==1)=true
     ·rw [bh e1,bh e1]
      unfold Yd RL
      cases cj r.2 with
      |none=>rfl
      |some q=>exact yW _ _ _
     rw [aQ e1,aQ e1]
     by_cases e2:(k==2)=true
     ·rw [bh e2,bh e2]
      unfold Yt Id
      cases dC r.2 with
      |none=>rfl
      |some q=>exact yW _ _ _
     rw [aQ e2,aQ e2]
     by_cases e3:(k==3)=true
     ·rw [bh e3,bh e3]
      unfold XU RL
      cases hq:cj r.2 with
      |none=>rfl
      |some q=>
       simp only [pM,bf]
       unfold UM vC
       cases cH t1 q.2 (decide (IntKind.i64.wrap q.1<=40))with
       |none=>rfl
       |some t2=>
        simp only [pM,bf]
        unfold UN CQ
        cases ef t2 q.2 with
        |none=>rfl
        |some c=>
         cases c with
         |false=>exact yW _ _ _
         |true=>
          simp only [bf,jR]
          unfold Sg
          rw [Int.toNat_of_nonneg (aae hq)]
          cases jw q.2 (IntKind.i64.wrap q.1)with
          |none=>rfl
          |some ae=>exact yW _ _ _
     rw [aQ e3,aQ e3]
     by_cases e4:(k==4)=true
     ·rw [bh e4,bh e4]
      unfold X1 Id
      cases dC r.2 with
      |none=>rfl
      |some q=>
       simp only [pM,bf]
       unfold UK Id
       cases dC q.2 with
       |none=>rfl
       |some q2=>exact yW _ _ _
     rw [aQ e4,aQ e4]
     exact yW _ _ _
def JT{b:List Int}(H:b.length<=900000000)(hby:nj b):Rd b kg pv:=by
 have a1: ∀c,Rd b (N7 c) (ES c):=fun c=>Jn (fun _ _ _=>ML) (fun _ _=>MM) _ (Ww H hby c)
 have a2: ∀c,Rd b (N6 c) (cZ (sE (decide (c<=4))) fun _=>ES c):=fun c=>Rd.bind (g:=fun _=>N7 c) (Bf _) fun _=>a1 c
 have a3:Rd b XT pv:=Rd.bind (g:=N6) (N8 H hby) a2
 exact a3.congr RH
end Go.Proofs.YtdohlidddcgfjaaGreat


/- bS of this claim: H5. -/
set_option linter.all false
namespace Go.Proofs.YtdohlidddcgfjaaGreat
open Go

def Nx{α:Type}{xs ys:List α}(h:xs.length=ys.length):pD xs ys=ys:=by
 unfold pD
 rw [h,ul (eo _),Nat.min_self,<-h,HR (eo _),p6]
def Pp{b:List Int}(H:b.length<=900000000):tU b=some (rd b 0 0):=by
 unfold tU
 have h:vY (b.length:Int) (0:Int)=some (List.replicate b.length 0):=by
  unfold vY
  rw [bh (by omega)];simp
 rw [h,bf,bf,Nx (by simp)]
 rfl
def rj:af:=⟨⟨0,0⟩,[]⟩
def zA{b:List Int}(H:b.length<=900000000):uc b=some (⟨rj,(b.length:Int),false⟩,rd b 0 0):=by
 unfold uc
 rw [Pp H];rfl
def Gl{b:List Int}(H:b.length<=900000000):wr b=some (⟨rj,b,false⟩,rd b 0 0):=by
 unfold wr
 rw [Pp H];rfl
def LB{α:Type}(l:List Int)(p:Pr α)(q:α×Int×Int):Prop:=
 match p l with
 |some (v,rest)=> ∃k:Nat,k<=l.length/\q=(v,(k:Int),0)/\rest=l.drop k
 |none=>q.2.2≠0
def PQ{l:List Int}(hl:l.length<=900000000){v:am}{t:cE}{o:af}(h:LV l (pv l) v t o): ∃q,lw t o v=some q/\LB l pv q:=by
 unfold LV at h
 unfold LB lw
 cases hp:pv l with
 |none=>
  rw [hp]at h
  obtain⟨_,k,y,rfl,X,d⟩:=h
  have d:t.bad=true\/y≠0:=d
  cases H:t.bad with
  |true=>exact⟨_,rfl,show(160:Int)≠0 by decide⟩
  |false=>
   have hy:y≠0:=by rcases d with h|h;rw [H]at h;cases h;exact h
   rw [aQ (by simp),vh,bf,bh (by simpa using hy),bf]
   exact⟨_,rfl,hy⟩
 |some w=>
  rw [hp]at h
  obtain⟨rfl,k,⟨g1,g2,rfl,g4⟩,g5⟩:=h
  have g1:t.all=(l.length:Int):=g1
  have g2:t.bad=false:=g2
  rw [g2,aQ (by simp),vh,bf,aQ (by simp),y4 0 g4 (by omega),bf]
  refine⟨_,rfl,k,g4,?_,g5.symm⟩
  rw [g1,rl]
  have:(l.length:Int)-((l.length-k:Nat):Int)=(k:Int):=by omega
  rw [this]
  have:((k:Int)+9223372036854775808)%18446744073709551616-9223372036854775808=(k:Int):=by omega
  simp [this]
def yz{l:List Int}(hl:l.length<=900000000)(hby:nj l): ∃q,pY l=some q/\LB l pv q:=by
 unfold pY
 rw [zA hl,bf]
 obtain⟨v,t,o,Y,X⟩:=(JT hl hby).ok 0 ⟨rj,(l.length:Int),false⟩ (rd l 0 0) ⟨rfl,rfl,rfl,by omega⟩
 rw [Y,bf]
 obtain⟨q,d,h4⟩:=PQ hl X
 rw [d]
 exact⟨q,rfl,h4⟩
def Dx{b:List Int}(H:b.length<=900000000){r:aK}(h:r.all=b){k:Nat}(y:Int)(hk:k<=b.length):iQ r (rd b k y)=some (b.drop k):=by
 unfold iQ
 rw [y4 y hk (by omega),bf,h]
 have e:IntKind.i64.wrap ((b.length:Int)-((b.length-k:Nat):Int))=(k:Int):=by rw [rl];omega
 rw [e]
 have:dQ b (k:Int) (b.length:Int)=some (b.drop k):=by
  rw [te hk (eo _),D0]
 rw [this];rfl
def Du{b:List Int}(H:b.length<=900000000){α:Type}{p:Pr α}{q:α×Int×Int}{k:Nat}(hq:LB (b.drop k) p q):
  (∀r:aK,Ok b k r (rd b k 0)-> ∃r' o',ge r (rd b k 0) q.2.1 q.2.2=some (r',o')/\LV b (p (b.drop k)) q.1 r' o')/\
  (∀(r:aK) (y:Int),k<=b.length->No b r (rd b k y)->(r.bad=true\/y≠0)-> ∃r' o',ge r (rd b k y) q.2.1 q.2.2=some (r',o')/\No b r' o'):=by
 unfold LB at hq
 constructor
 ·intro r ⟨Y,X,_,h4⟩
  unfold ge LV
  cases hp:p (b.drop k)with
  |none=>
   rw [hp]at hq
   rw [bh (by simpa using hq)]
   exact⟨_,_,rfl,Y,k,0,rfl,h4,.inl rfl⟩
  |some w=>
   rw [hp]at hq
   obtain⟨j,hj,rfl,hr⟩:=hq
   rw [Dd]at hj
   rw [aQ (by simp),Jp 0 h4 H,aQ (by simp),aQ (by omega)]
   exact⟨_,_,rfl,rfl,k+j,⟨Y,X,rfl,by omega⟩,by rw [hr,sJ]⟩
 ·intro r y hk hn hy
  unfold ge
  split
  ·exact⟨_,_,rfl,hn.1,k,y,rfl,hk,.inl rfl⟩
  ·rename_i he
   cases hp:p (b.drop k)with
   |none=>rw [hp]at hq;exact absurd hq (by simpa using he)
   |some w=>
    rw [hp]at hq
    obtain⟨j,hj,rfl,hr⟩:=hq
    rw [Dd]at hj
    rw [Jp y hk H]
    split
    ·exact⟨_,_,rfl,hn.1,k,y,rfl,hk,hy⟩
    ·rename_i h0
     have hbad:r.bad=true:=hy.resolve_right h0
     split
     ·exact⟨_,_,rfl,hn.1,k,7,rfl,hk,.inl hbad⟩
     ·exact⟨_,_,rfl,hn.1,k+j,0,rfl,by omega,.inl hbad⟩
def QM{b:List Int}(H:b.length<=900000000)(hby:nj b):Rd b jy pv:=by
 refine⟨fun k r o hk=>?_,fun r o hn=>?_⟩
 ·obtain⟨Y,X,rfl,h4⟩:=hk
  obtain⟨q,g1,g2⟩:=yz (l:=b.drop k) (by simp;omega) (vL hby k)
  obtain⟨r',o',g3,g4⟩:=(Du H g2).1 r ⟨Y,X,rfl,h4⟩
  unfold jy
  rw [Dx H Y 0 h4,bf,g1,bf,g3]
  exact⟨_,_,_,rfl,g4⟩
 ·have hn' :=hn
  obtain⟨Y,k,y,rfl,h4,h5⟩:=hn
  obtain⟨q,g1,g2⟩:=yz (l:=b.drop k) (by simp;omega) (vL hby k)
  obtain⟨r',o',g3,g4⟩:=(Du H g2).2 r y h4 hn' h5
  unfold jy
  rw [Dx H Y y h4,bf,g1,bf,g3]
  exact⟨_,_,_,rfl,g4⟩
end Go.Proofs.YtdohlidddcgfjaaGreat


/- bS of this claim: H6. -/
set_option linter.all false
namespace Go.Proofs.YtdohlidddcgfjaaGreat
open Go

def vP{ρ:Type} [Jm ρ]{b:List Int}{α β:Type}{f:ρ->af->Option (α×ρ×af)}{p:Pr α}{g:α->ρ->af->Option (β×ρ×af)}{q:α->Pr β}(P:α->Prop)(hP: ∀r o x r' o',f r o=some (x,r',o')->P x)(hf:Rd b f p)(K: ∀x,P x->Rd b (g x) (q x)):
  Rd b (fun r o=>(f r o).bind fun u=>g u.1 u.2.1 u.2.2) (cZ p q):=by
 refine⟨fun k r o hk=>?_,fun r o hn=>?_⟩
 ·obtain⟨x,r1,o1,Y,X⟩:=hf.ok k r o hk
  have V:=hP _ _ _ _ _ Y
  rw [Y,bf]
  unfold LV at X
  unfold cZ
  cases hp:p (b.drop k)with
  |none=>
   rw [hp]at X
   obtain⟨y,r2,o2,d,h4⟩:=(K x V).no r1 o1 X
   exact⟨y,r2,o2,d,h4⟩
  |some v=>
   rw [hp]at X
   obtain⟨rfl,k1,d,h4⟩:=X
   obtain⟨y,r2,o2,h5,h6⟩:=(K v.1 V).ok k1 r1 o1 d
   rw [h4]at h6
   exact⟨y,r2,o2,h5,h6⟩
 ·obtain⟨x,r1,o1,Y,X⟩:=hf.no r o hn
  rw [Y,bf]
  exact(K x (hP _ _ _ _ _ Y)).no r1 o1 X
def fO(x:Int):Prop:=0<=x/\x<=255
def zR{r r' :aK}{o o' :af}{x:Int}(h:lW r o=some (x,r',o')):fO x:=by
 unfold lW aP at h
 cases hq:cj o with
 |none=>rw [hq]at h;cases h
 |some q=>
  rw [hq]at h
  cases h
  unfold cj at hq
  cases hw:ck o 1 with
  |none=>rw [hw]at hq;cases hq
  |some w=>
   rw [hw]at hq
   cases hq
   unfold fO
   rw [BW,rl]
   omega
def OA(N:Int)(r:aK)(o:af):Option (List Int×aK×af):=(lR r o N).map fun q=>(q.1,r,q.2)
def Qx(r:aK)(o:af):Option (List Int×aK×af):=(iz r o).map fun q=>(q.1,r,q.2)
def Oo(N:Int):Pr (List Int):=pl p8 N.toNat
def Kj:Pr (List Int):=cZ p8 Oo
section
variable{b:List Int}(H:b.length<=900000000)(hby:nj b)
include H hby
def Vf(N:Int)(hN:N<=65535):Rd b (OA N) (Oo N):=by
 have h:=Bj (oo H hby).toE (fun _ _ _=>He) (fun _ _=>Hf) N hN () trivial (L:=fun fu out x r o _=>(iA r N fu out x o).map fun q=>(q.1,r,q.2,())) (by
  intro fu out x r o e
  cases e
  simp only [iA]
  by_cases V:decide (x<N)=true
  ·simp only [V,jR]
   cases dd r o with
   |none=>rfl
   |some c=>
    cases c with
    |false=>rfl
    |true=>
     unfold lW
     simp only [bf,sI,oj,lI]
     cases aP r o with
     |none=>rfl
     |some q=>
      simp only [bf,pM]
      cases app out [q.1]<;>rfl
  ·simp only [V];rfl)
 have e:(fun l=>(m1 (fun(_:Unit) l=>(p8 l).map fun u=>((u.1,()),u.2)) N.toNat () l).map fun u=>(u.1.1,u.2))=Oo N:=funext fun l=>DA p8 N.toNat l
 rw [e]at h
 refine h.congr fun r o=>?_
 unfold OA lR
 cases iA r N fq [] 0 o<;>rfl
def SN:Rd b Qx Kj:=by
 have:=vP (g:=OA) (q:=Oo) fO (fun _ _ _ _ _=>zR) (oo H hby) fun x V=>Vf H hby x (by unfold fO at V;omega)
 refine this.congr fun r o=>?_
 unfold Qx iz lW OA
 cases aP r o with
 |none=>rfl
 |some q=>
  simp only [bf,pM]
  cases lR r q.2 q.1<;>rfl
end
def Dt(t:List Int)(D:t.length<=900000000):nr t=some (match t.getLast? with|none=>(-1,t)|some x=>(x,t.dropLast)):=by
 unfold nr
 rcases List.eq_nil_or_concat t with rfl|⟨l,x,rfl⟩
 ·rfl
 ·simp only [List.concat_eq_append]at*
  rw [aQ (by simp;omega)]
  have e:IntKind.i64.wrap ((((l++[x]).length:Nat):Int)-1)=(l.length:Int):=by
   rw [rl];simp at D ⊢;omega
  rw [e,eU,xf (eo _)]
  simp only [wY,Gz,bf]
  rw [show(0:Int)=((0:Nat):Int)from rfl,te (pL _) (by simp),bf]
  simp
def u9:Nat->List Int->Option (Int×Int×List Int)
 |0,t=>some (-1,-1,t)
 |1,t=>match t.getLast? with|none=>none|some x=>some (x,-1,t.dropLast)
 |_+2,t=>match t.getLast? with|none=>none|some y=>match t.dropLast.getLast? with|none=>none|some x=>some (x,y,t.dropLast.dropLast)
end Go.Proofs.YtdohlidddcgfjaaGreat


/- bS of this claim: H7. -/
set_option linter.all false
namespace Go.Proofs.YtdohlidddcgfjaaGreat
open Go

section
variable{ρ:Type} [Jm ρ]{b:List Int}{α β E:Type}{I:Nat->E->Prop}
def vV.congr{f g:E->ρ->af->Option (α×ρ×af×E)}{p:E->Pr (α×E)}(h:vV b I f p)(e: ∀j e r o,I j e->g e r o=f e r o):vV b I g p:=
 ⟨fun j x k r o hj hi hk=>by rw [e j x r o hi];exact h.ok j x k r o hj hi hk,fun j x r o hj hi hn=>by rw [e j x r o hi];exact h.no j x r o hj hi hn⟩
def oa{f:ρ->af->Option (α×ρ×af)}{p:Pr α}{g:α->E->ρ->af->Option (β×ρ×af×E)}{q:α->E->Pr (β×E)}(hf:Rd b f p)(K: ∀x,vV b I (g x) (q x)):
  vV b I (fun e r o=>(f r o).bind fun u=>g u.1 e u.2.1 u.2.2) (fun e=>cZ p (fun x=>q x e)):=by
 refine⟨fun j e k r o hj hi hk=>?_,fun j e r o hj hi hn=>?_⟩
 ·obtain⟨x,r1,o1,Y,X⟩:=hf.ok k r o hk
  rw [Y,bf]
  unfold LV at X
  unfold cZ
  cases hp:p (b.drop k)with
  |none=>
   rw [hp]at X
   obtain⟨y,r2,o2,e2,d,h3',h4⟩:=(K x).no j e r1 o1 hj hi X
   exact⟨y,r2,o2,e2,d,h3',h4⟩
  |some v=>
   rw [hp]at X
   obtain⟨rfl,k1,d,h4⟩:=X
   obtain⟨y,r2,o2,e2,h5,h5',h6⟩:=(K v.1).ok j e k1 r1 o1 hj hi d
   rw [h4]at h6
   exact⟨y,r2,o2,e2,h5,h5',h6⟩
 ·obtain⟨x,r1,o1,Y,X⟩:=hf.no r o hn
  rw [Y,bf]
  exact(K x).no j e r1 o1 hj hi X
def s9{f g:E->ρ->af->Option (α×ρ×af×E)}{p q:E->Pr (α×E)}(c:Bool)(hf:vV b I f p)(K:vV b I g q):
  vV b I (fun e r o=>if c=true then f e r o else g e r o) (fun e=>if c=true then p e else q e):=by
 cases c with
 |true=>exact hf
 |false=>exact K
end
def Tp(j:Nat)(e:List Int×Int):Prop:=e.2=(j:Int)/\e.1.length<=j/\ ∀x∈e.1,0<=x
def Fz{B:Bool}{x:Int}(h:0<=x):(B||(decide (x<(0:Int))))=B:=by
 rw [CJ (by omega),CI]
def Fy{B:Bool}:(B||(decide ((-1:Int)<(0:Int))))=true:=by
 rw [decide_eq_true (by omega),CH]
def Ku(r:aK)(o:af){j:Nat}(hj:j<=70000){t:List Int}{a:Int}(hi:Tp j (t,a))(n:Nat)(hn:n<=2):
  ∃L R r' t',cL r o t n a=some (L,R,r',t')/\t'.length<=j+1/\(∀x∈t',0<=x)/\
   (match u9 n t with|some u=>L=u.1/\R=u.2.1/\r' =r/\t' =u.2.2++[a]|none=>r' ={r with bad:=true}):=by
 obtain⟨Y,X,d⟩:=hi
 simp only at Y X d
 subst Y
 have push: ∀l:List Int,l.length<=j->(∀x∈l,0<=x)->app l [(j:Int)]=some (l++[(j:Int)])/\(l++[(j:Int)]).length<=j+1/\ ∀x∈l++[(j:Int)],0<=x:=by
  intro l hl hp
  refine⟨cD (by simp;omega),by simp;omega,fun x V=>?_⟩
  rcases ui.1 V with V|V
  ·exact hp x V
  ·rw [uk.1 V];omega
 have k2: ∀(L R:Int) (l:List Int) (r:aK),l.length<=j->(∀x∈l,0<=x)->jo (j:Int) R L l r=some (L,R,r,l++[(j:Int)]):=by
  intro L R l r hl hp
  unfold jo
  rw [(push l hl hp).1];rfl
 have nn: ∀l:List Int,(∀x∈l,0<=x)-> ∀x,l.getLast? =some x->0<=x:=fun l hp x V=>hp x (List.mem_of_getLast? V)
 have dn: ∀l:List Int,(∀x∈l,0<=x)-> ∀x∈l.dropLast,0<=x:=fun l hp x V=>hp x ((List.dropLast_sublist l).subset V)
 unfold cL lv
 match n,hn with
 |0,_=>
  rw [aQ (by decide),aQ (by decide),k2 _ _ _ _ X d]
  exact⟨_,_,_,_,rfl,(push t X d).2.1,(push t X d).2.2,rfl,rfl,rfl,rfl⟩
 |1,_=>
  rw [aQ (by decide),bh (by decide),Dt t (by omega),bf]
  cases K:t.getLast? with
  |none=>
   simp only
   rw [k2 _ _ _ _ X d,Fy]
   refine⟨_,_,_,_,rfl,(push t X d).2.1,(push t X d).2.2,?_⟩
   simp only [u9,K]
  |some x=>
   simp only
   rw [k2 _ _ _ _ (by simp;omega) (dn t d),Fz (nn t d x K)]
   refine⟨_,_,_,_,rfl,(push t.dropLast (by simp;omega) (dn t d)).2.1,(push t.dropLast (by simp;omega) (dn t d)).2.2,?_⟩
   simp only [u9,K]
   exact⟨trivial,trivial,trivial,trivial⟩
 |2,_=>
  rw [bh (by decide),Dt t (by omega),bf]
  cases K:t.getLast? with
  |none=>
   simp only
   rw [bh (by decide),Dt t (by omega),bf,K]
   simp only
   rw [k2 _ _ _ _ X d,Fy]
   refine⟨_,_,_,_,rfl,(push t X d).2.1,(push t X d).2.2,?_⟩
   simp only [u9,K]
  |some y=>
   simp only
   rw [bh (by decide),Dt t.dropLast (by simp;omega),bf,Fz (nn t d y K)]
   cases hg2:t.dropLast.getLast? with
   |none=>
    simp only
    rw [k2 _ _ _ _ (by simp;omega) (dn t d),Fy]
    refine⟨_,_,_,_,rfl,(push t.dropLast (by simp;omega) (dn t d)).2.1,(push t.dropLast (by simp;omega) (dn t d)).2.2,?_⟩
    simp only [u9,K,hg2]
   |some x=>
    simp only
    rw [k2 _ _ _ _ (by simp;omega) (dn _ (dn t d)),Fz (nn _ (dn t d) x hg2)]
    refine⟨_,_,_,_,rfl,(push t.dropLast.dropLast (by simp;omega) (dn _ (dn t d))).2.1,(push t.dropLast.dropLast (by simp;omega) (dn _ (dn t d))).2.2,?_⟩
    simp only [u9,K,hg2]
    exact⟨trivial,trivial,trivial,trivial⟩
def pI{α:Type}(n:Nat)(h:Int->Int->α)(e:List Int×Int)(r:aK)(o:af):Option (α×aK×af×List Int×Int):=
 (cL r o e.1 n e.2).bind fun u=>some (h u.1 u.2.1,u.2.2.1,o,u.2.2.2,IntKind.i64.wrap (e.2+1))
def kq{α:Type}(n:Nat)(h:Int->Int->α)(e:List Int×Int):Pr (α×List Int×Int):=fun l=>(u9 n e.1).map fun u=>((h u.1 u.2.1,u.2.2++[e.2],e.2+1),l)
def oB{b:List Int}{α:Type}(n:Nat)(hn:n<=2)(h:Int->Int->α):vV b Tp (pI n h) (kq n h):=by
 refine⟨fun j e k r o hj hi hk=>?_,fun j e r o hj hi hN=>?_⟩
 ·obtain⟨t,a⟩:=e
  obtain⟨L,R,r',t',Y,X,d,h4⟩:=Ku r o hj hi n hn
  have ha:a=(j:Int):=hi.1
  have hw:IntKind.i64.wrap (a+1)=a+1:=by rw [rl];omega
  unfold pI kq
  simp only
  rw [Y,bf]
  refine⟨_,_,_,_,rfl,⟨by simp only;rw [hw,ha];omega,X,d⟩,?_⟩
  cases hq:u9 n t with
  |none=>
   rw [hq]at h4
   simp only at h4
   subst h4
   obtain⟨g1,g2,g3,g4⟩:=hk
   exact⟨g1,k,0,g3,g4,.inl rfl⟩
  |some u=>
   rw [hq]at h4
   obtain⟨rfl,rfl,rfl,rfl⟩:=h4
   exact⟨by simp only;rw [hw],k,hk,rfl⟩
 ·obtain⟨t,a⟩:=e
  obtain⟨L,R,r',t',Y,X,d,h4⟩:=Ku r o hj hi n hn
  have ha:a=(j:Int):=hi.1
  have hw:IntKind.i64.wrap (a+1)=a+1:=by rw [rl];omega
  unfold pI
  simp only
  rw [Y,bf]
  refine⟨_,_,_,_,rfl,⟨by simp only;rw [hw,ha];omega,X,d⟩,?_⟩
  have hr:r' =r\/r' ={r with bad:=true}:=by
   cases hq:u9 n t with
   |none=>rw [hq]at h4;exact .inr h4
   |some u=>rw [hq]at h4;exact .inl h4.2.2.1
  obtain⟨g1,k,y,g2,g3,g4⟩:=hN
  rcases hr with rfl|rfl
  ·exact⟨g1,k,y,g2,g3,g4⟩
  ·exact⟨g1,k,y,g2,g3,.inl rfl⟩
end Go.Proofs.YtdohlidddcgfjaaGreat


/- bS of this claim: H8. -/
set_option linter.all false
namespace Go.Proofs.YtdohlidddcgfjaaGreat
open Go

def ar(tag:Int):Nat:=if tag==1||tag==2 then 0 else if 12<=tag then 2 else 1
def T6(x:Int):ar x<=2:=by
 unfold ar;repeat' split
 all_goals omega
def T5(x:Int):qy x=some (ar x:Int):=by
 unfold qy ar
 by_cases h:(x==1||x==2)=true
 ·rw [bh h,bh h];rfl
 ·rw [aQ h,aQ h]
  by_cases X:(12:Int)<=x
  ·rw [bh (by simpa using X),bh X];rfl
  ·rw [aQ (by simpa using X),aQ X];rfl
def vZ:am:=⟨0,0,0,[]⟩
def TK(e:List Int×Int)(r:aK)(o:af):Option (ap×aK×af×List Int×Int):=
 (lW r o).bind fun u=>if(u.1==2)=true then(lW u.2.1 u.2.2).bind fun w=>pI (ar u.1) (fun L R=>⟨u.1,L,R,w.1,vZ⟩) e w.2.1 w.2.2
  else if(u.1==1)=true then(jy u.2.1 u.2.2).bind fun w=>pI (ar u.1) (fun L R=>⟨u.1,L,R,0,w.1⟩) e w.2.1 w.2.2
  else pI (ar u.1) (fun L R=>⟨u.1,L,R,0,vZ⟩) e u.2.1 u.2.2
def pE(e:List Int×Int):Pr (ap×List Int×Int):=
 cZ p8 fun x=>if(x==2)=true then cZ p8 fun c=>kq (ar x) (fun L R=>⟨x,L,R,c,vZ⟩) e
  else if(x==1)=true then cZ pv fun v=>kq (ar x) (fun L R=>⟨x,L,R,0,v⟩) e
  else kq (ar x) (fun L R=>⟨x,L,R,0,vZ⟩) e
def EQ(N:Int):Pr (List ap):=fun l=>(m1 pE N.toNat ([],0) l).map fun u=>(u.1.1,u.2)
def zr:Pr aO:=cZ p16 fun n=>kW aO.mk (EQ n)
def RD(x:Int):Prop:=0<=x/\x<=65535
def JW{ρ:Type}{r r' :ρ}{o o' :af}{x:Int}(h:PL r o=some (x,r',o')):RD x:=by
 unfold PL iy at h
 cases hw:ck o 2 with
 |none=>rw [hw]at h;cases h
 |some w=>
  rw [hw]at h
  cases h
  unfold RD
  rw [IntKind.wrap_u16,rl]
  omega
section
variable{b:List Int}(H:b.length<=900000000)(hby:nj b)
include H hby
def TJ:vV b Tp TK pE:=by
  have hs:=oo H hby
  have Y:=oa (I:=Tp) hs fun x=>s9 (b:=b) (x==2)
    (oa hs fun c=>oB (b:=b) (ar x) (T6 x) (fun L R=>(⟨x,L,R,c,vZ⟩:ap)))
    (s9 (x==1) (oa (QM H hby) fun v=>oB (b:=b) (ar x) (T6 x) (fun L R=>(⟨x,L,R,0,v⟩:ap)))
      (oB (b:=b) (ar x) (T6 x) (fun L R=>(⟨x,L,R,0,vZ⟩:ap))))
  refine Y.congr fun j e r o _=>?_
  rfl
omit H hby in
def TL(e:List Int×Int)(r:aK)(o:af):mu r o e.1 e.2=TK e r o:=by
 unfold mu TK lW pI
 cases aP r o with
 |none=>rfl
 |some u=>
  simp only [bf,pM,T5]
  by_cases h:(u.1==2)=true
  ·rw [bh h,bh h]
   cases aP r u.2 with
   |none=>rfl
   |some w=>
    simp only [bf,pM]
    cases cL r w.2 e.1 (ar u.1) e.2<;>rfl
  ·rw [aQ h,aQ h]
   by_cases h:(u.1==1)=true
   ·rw [bh h,bh h]
   ·rw [aQ h,aQ h]
    cases cL r u.2 e.1 (ar u.1) e.2<;>rfl
def MR(N:Int)(r:aK)(o:af):Option (List ap×aK×af):=(jM r o N [] 0).bind fun q=>some (q.1,q.2.1,q.2.2.1)
def SO(N:Int)(hN:N<=65535):Rd b (MR N) (EQ N):=
 Bj (TJ H hby) (fun _ _ _=>He) (fun _ _=>Hf) N hN ([],0) ⟨rfl,eo 0,by simp⟩ (L:=fun fu out x r o e=>gi N fu out x e.2 e.1 r o) (by
  intro fu out x r o e
  simp only [gi,TL]
  rfl)
def I7:Rd b gg zr:=by
 have:=vP (g:=fun n r o=>(MR n r o).bind fun u=>some (aO.mk u.1,u.2.1,u.2.2)) RD (fun _ _ _ _ _=>JW) (RO H hby) fun n hn=>(SO H hby n hn.2).map aO.mk
 refine this.congr fun r o=>?_
 unfold gg PL MR
 cases iy o with
 |none=>rfl
 |some q=>
  simp only [bf,pM]
  cases jM r q.2 (IntKind.i64.wrap q.1) [] 0<;>rfl
def Qr:Pr eY:=cZ p8 fun f=>kW (eY.mk f) zr
def Sm:Pr ku:=cZ p8 fun c=>kW (ku.mk c) tR
def ZM:Rd b pq Qr:=by
 refine((oo H hby).bind fun f=>(I7 H hby).map (eY.mk f)).congr fun r o=>?_
 unfold pq lW
 cases aP r o<;>rfl
def Ya:Rd b pp Sm:=by
 refine((oo H hby).bind fun f=>(DG H hby).map (ku.mk f)).congr fun r o=>?_
 unfold pp lW
 cases aP r o<;>rfl
omit H hby in
def wl{α:Type}{f:aK->af->Option (α×aK×af)}{p:Pr α}(hf:Rd b f p)(N:Int)(hN:N<=65535){L:Nat->List α->Int->aK->af->Option (List α×aK×af)}
  (hL: ∀fu out x r o,L (fu+1) out x r o=if decide (x<N)=true then(dd r o).bind fun c=>if(!c)=true then some (out,r,o)else(f r o).bind fun u=>(app out [u.1]).bind fun out2=>L fu out2 (IntKind.i64.wrap (x+1)) u.2.1 u.2.2 else some (out,r,o)):
  Rd b (fun r o=>L fq [] 0 r o) (pl p N.toNat):=by
 have h:=Bj hf.toE (fun _ _ _=>He) (fun _ _=>Hf) N hN () trivial (L:=fun fu out x r o _=>(L fu out x r o).map fun q=>(q.1,q.2.1,q.2.2,())) (by
  intro fu out x r o e
  cases e
  simp only [hL]
  by_cases V:decide (x<N)=true
  ·simp only [V,jR]
   cases dd r o with
   |none=>rfl
   |some c=>
    cases c with
    |false=>rfl
    |true=>
     simp only [bf,sI,oj,lI]
     cases f r o with
     |none=>rfl
     |some q=>
      simp only [bf,pM]
      cases app out [q.1]<;>rfl
  ·simp only [V];rfl)
 have e:(fun l=>(m1 (fun(_:Unit) l=>(p l).map fun u=>((u.1,()),u.2)) N.toNat () l).map fun u=>(u.1.1,u.2))=pl p N.toNat:=funext fun l=>DA p N.toNat l
 rw [e]at h
 refine h.congr fun r o=>?_
 cases L fq [] 0 r o<;>rfl
def Wz(N:Int)(hN:N<=65535):Rd b (fun r o=>kP r o N) (pl Qr N.toNat):=
 wl (ZM H hby) N hN (L:=jj N) fun _ _ _ _ _=>rfl
def TH(N:Int)(hN:N<=65535):Rd b (fun r o=>kf r o N) (pl zr N.toNat):=
 wl (I7 H hby) N hN (L:=iS N) fun _ _ _ _ _=>rfl
def U9(N:Int)(hN:N<=65535):Rd b (fun r o=>kM r o N) (pl Sm N.toNat):=
 wl (Ya H hby) N hN (L:=ji N) fun _ _ _ _ _=>rfl
end
end Go.Proofs.YtdohlidddcgfjaaGreat


/- bS of this claim: H9. -/
set_option linter.all false
namespace Go.Proofs.YtdohlidddcgfjaaGreat
open Go

def Kt{α:Type}(p:Pr α):Pr (List α):=cZ p8 fun n=>pl p n.toNat
def QX{α:Type}(f:aK->af->Int->Option (List α×aK×af))(r:aK)(o:af):Option (List α×aK×af):=(lW r o).bind fun n=>f n.2.1 n.2.2 n.1
section
variable{b:List Int}(H:b.length<=900000000)(hby:nj b)
include H hby
def Jd{α:Type}{p:Pr α}{f:aK->af->Int->Option (List α×aK×af)}(h: ∀N:Int,N<=65535->Rd b (fun r o=>f r o N) (pl p N.toNat)):Rd b (QX f) (Kt p):=
 vP (g:=fun n r o=>f r o n) (q:=fun n=>pl p n.toNat) fO (fun _ _ _ _ _=>zR) (oo H hby) fun x V=>h x (by unfold fO at V;omega)
end
def IM(x:Int):Int:=IntKind.i64.wrap (IntKind.i64.wrap x-1)
def L6(x:Int)(e:List Int×Int)(r:aK)(o:af):Option (aa×aK×af×List Int×Int):=
 if(x==1||x==9)=true then(lW r o).bind fun t=>(Qx t.2.1 t.2.2).bind fun ks=>pI 0 (fun L R=>⟨x,L,R,t.1,ks.1,false,⟨[]⟩,[],[],[],[],0⟩) e ks.2.1 ks.2.2
 else if(x==2)=true then(fj r o).bind fun f=>(gg f.2.1 f.2.2).bind fun c=>pI 2 (fun L R=>⟨x,L,R,0,[],f.1,c.1,[],[],[],[],0⟩) e c.2.1 c.2.2
 else if(x==3)=true then(gg r o).bind fun c=>pI 1 (fun L R=>⟨x,L,R,0,[],false,c.1,[],[],[],[],0⟩) e c.2.1 c.2.2
 else if(x==4||x==10||x==11)=true then(Qx r o).bind fun ks=>(QX kP ks.2.1 ks.2.2).bind fun a=>pI 1 (fun L R=>⟨x,L,R,0,[],false,⟨[]⟩,ks.1,a.1,[],[],0⟩) e a.2.1 a.2.2
 else if(x==5)=true then(QX kf r o).bind fun a=>pI 1 (fun L R=>⟨x,L,R,0,[],false,⟨[]⟩,[],[],a.1,[],0⟩) e a.2.1 a.2.2
 else if(x==8)=true then(QX kM r o).bind fun a=>(RN a.2.1 a.2.2).bind fun l=>pI 1 (fun L R=>⟨x,L,R,0,[],false,⟨[]⟩,[],[],[],a.1,IM l.1⟩) e l.2.1 l.2.2
 else if(x==7)=true then pI 2 (fun L R=>⟨x,L,R,0,[],false,⟨[]⟩,[],[],[],[],0⟩) e r o
 else pI 1 (fun L R=>⟨x,L,R,0,[],false,⟨[]⟩,[],[],[],[],0⟩) e r o
def z1(x:Int)(e:List Int×Int):Pr (aa×List Int×Int):=
 if(x==1||x==9)=true then cZ p8 fun t=>cZ Kj fun ks=>kq 0 (fun L R=>⟨x,L,R,t,ks,false,⟨[]⟩,[],[],[],[],0⟩) e
 else if(x==2)=true then cZ tR fun f=>cZ zr fun c=>kq 2 (fun L R=>⟨x,L,R,0,[],f,c,[],[],[],[],0⟩) e
 else if(x==3)=true then cZ zr fun c=>kq 1 (fun L R=>⟨x,L,R,0,[],false,c,[],[],[],[],0⟩) e
 else if(x==4||x==10||x==11)=true then cZ Kj fun ks=>cZ (Kt Qr) fun a=>kq 1 (fun L R=>⟨x,L,R,0,[],false,⟨[]⟩,ks,a,[],[],0⟩) e
 else if(x==5)=true then cZ (Kt zr) fun a=>kq 1 (fun L R=>⟨x,L,R,0,[],false,⟨[]⟩,[],[],a,[],0⟩) e
 else if(x==8)=true then cZ (Kt Sm) fun a=>cZ X7 fun l=>kq 1 (fun L R=>⟨x,L,R,0,[],false,⟨[]⟩,[],[],[],a,IM l⟩) e
 else if(x==7)=true then kq 2 (fun L R=>⟨x,L,R,0,[],false,⟨[]⟩,[],[],[],[],0⟩) e
 else kq 1 (fun L R=>⟨x,L,R,0,[],false,⟨[]⟩,[],[],[],[],0⟩) e
def L0(e:List Int×Int)(r:aK)(o:af):Option (aa×aK×af×List Int×Int):=(lW r o).bind fun u=>L6 u.1 e u.2.1 u.2.2
def Kk(e:List Int×Int):Pr (aa×List Int×Int):=cZ p8 fun x=>z1 x e
def Tf(e:List Int×Int)(r:aK)(o:af):mt r o e.1 e.2=L0 e r o:=by
 unfold mt qY L0 lW
 cases aP r o with
 |none=>rfl
 |some u=>
  simp only [bf,pM]
  obtain⟨x,o1⟩:=u
  simp only
  unfold L6 lP j0 QX lW Qx RN pI IM
  cases Y:(x==1)<;>cases h9:(x==9)<;>simp only [CH,CI,D2,uX,jR,oj,lI,AM,bf,AK,AL,Int.ofNat_zero,Int.natCast_zero]<;>try rfl
  cases X:(x==2)<;>simp only [CH,CI,D2,uX,jR,oj,lI,AM,bf,AK,AL]<;>try rfl
  cases d:(x==3)<;>simp only [CH,CI,D2,uX,jR,oj,lI,AM,bf,AK,AL]<;>try rfl
  cases h4:(x==4)<;>cases h10:(x==10)<;>cases h11:(x==11)<;>simp only [CH,CI,D2,uX,jR,oj,lI,AM,bf,AK,AL]<;>try rfl
  cases h5:(x==5)<;>simp only [CH,CI,D2,uX,jR,oj,lI,AM,bf,AK,AL]<;>try rfl
  cases h8:(x==8)<;>simp only [CH,CI,D2,uX,jR,oj,lI,AM,bf,AK,AL]<;>try rfl
  cases h7:(x==7)<;>simp only [CH,CI,D2,uX,jR,oj,lI,AM,bf,AK,AL]<;>try rfl
section
variable{b:List Int}(H:b.length<=900000000)(hby:nj b)
include H hby
def PG(x:Int):vV b Tp (L6 x) (z1 x):=by
  have hs:=oo H hby
  have hn:=SN H hby
  have he:=I7 H hby
  have:=s9 (b:=b) (I:=Tp) (x==1||x==9) (oa hs fun t=>oa hn fun ks=>oB 0 (by omega) (fun L R=>(⟨x,L,R,t,ks,false,⟨[]⟩,[],[],[],[],0⟩:aa)))
    (s9 (x==2) (oa (DG H hby) fun f=>oa he fun c=>oB 2 (by omega) (fun L R=>(⟨x,L,R,0,[],f,c,[],[],[],[],0⟩:aa)))
    (s9 (x==3) (oa he fun c=>oB 1 (by omega) (fun L R=>(⟨x,L,R,0,[],false,c,[],[],[],[],0⟩:aa)))
    (s9 (x==4||x==10||x==11) (oa hn fun ks=>oa (Jd H hby (Wz H hby)) fun a=>oB 1 (by omega) (fun L R=>(⟨x,L,R,0,[],false,⟨[]⟩,ks,a,[],[],0⟩:aa)))
    (s9 (x==5) (oa (Jd H hby (TH H hby)) fun a=>oB 1 (by omega) (fun L R=>(⟨x,L,R,0,[],false,⟨[]⟩,[],[],a,[],0⟩:aa)))
    (s9 (x==8) (oa (Jd H hby (U9 H hby)) fun a=>oa (RM H hby) fun l=>oB 1 (by omega) (fun L R=>(⟨x,L,R,0,[],false,⟨[]⟩,[],[],[],a,IM l⟩:aa)))
    (s9 (x==7) (oB 2 (by omega) (fun L R=>(⟨x,L,R,0,[],false,⟨[]⟩,[],[],[],[],0⟩:aa)))
      (oB 1 (by omega) (fun L R=>(⟨x,L,R,0,[],false,⟨[]⟩,[],[],[],[],0⟩:aa)))))))))
  exact this
def PF:vV b Tp L0 Kk:=oa (oo H hby) fun x=>PG H hby x
def A3(N:Int):Pr (List aa):=fun l=>(m1 Kk N.toNat ([],0) l).map fun u=>(u.1.1,u.2)
def IK(r:aK)(o:af)(N:Int):Option (List aa×aK×af):=(ma r o N [] 0).bind fun q=>some (q.1,q.2.1,q.2.2.1)
def QE(N:Int)(hN:N<=65535):Rd b (fun r o=>IK r o N) (A3 N):=
 Bj (PF H hby) (fun _ _ _=>He) (fun _ _=>Hf) N hN ([],0) ⟨rfl,eo 0,by simp⟩ (L:=fun fu out x r o e=>gh N fu out x e.2 e.1 r o) (by
  intro fu out x r o e
  simp only [gh,Tf]
  rfl)
def Kr:Pr dp:=cZ p8 fun a=>cZ p8 fun w=>cZ Kj fun cs=>cZ p8 fun n=>kW (fun ns=>dp.mk ns a w cs) (A3 n)
def Vr:Rd b n7 Kr:=by
 have hs:=oo H hby
 have:=hs.bind fun a=>hs.bind fun w=>(SN H hby).bind fun cs=>vP (g:=fun n r o=>(IK r o n).bind fun u=>some (dp.mk u.1 a w cs,u.2.1,u.2.2)) fO (fun _ _ _ _ _=>zR) hs fun n hn=>(QE H hby n (by unfold fO at hn;omega)).map fun ns=>dp.mk ns a w cs
 refine this.congr fun r o=>?_
 unfold n7 lW Qx IK
 simp only [AM,bf,AK,AL]
def Te(N:Int)(hN:N<=65535):Rd b (fun r o=>mQ r o N) (pl Kr N.toNat):=
 wl (Vr H hby) N hN (L:=iR N) fun _ _ _ _ _=>rfl
def Ki:Pr cV:=kW cV.mk (Kt Kr)
def U4:Rd b n6 Ki:=by
 refine((Jd H hby (Te H hby)).map cV.mk).congr fun r o=>?_
 unfold n6 QX lW
 simp only [AM,bf,AK,AL]
end
end Go.Proofs.YtdohlidddcgfjaaGreat


/- bS of this claim: H10. -/
set_option linter.all false
namespace Go.Proofs.YtdohlidddcgfjaaGreat
open Go

def TQ{b:List Int}(H:b.length<=900000000){k:Nat}{r:aK}{o:af}(h:Ok b k r o):jz r o=some (b.drop k==[]):=by
 unfold jz
 rw [He h,bf,bh rfl]
 obtain⟨_,_,rfl,h4⟩:=h
 rw [y4 0 h4 (by omega),bf]
 congr 1
 by_cases hk:k=b.length
 ·subst hk;simp
 ·have Y:b.drop k≠[]:=by
   intro hc
   have:=congrArg List.length hc
   rw [Dd]at this
   simp at this
   omega
  have X:((b.length-k:Nat):Int)≠0:=by omega
  rw [show(b.drop k==[])=false from by simpa using Y]
  simpa using X
def TR{b:List Int}{r:aK}{o:af}(h:No b r o):jz r o=some false:=by
 unfold jz
 rw [Hf h,bf,aQ (by simp)]
end Go.Proofs.YtdohlidddcgfjaaGreat


/- bS of this claim: H11. -/
set_option linter.all false
namespace Go.Proofs.YtdohlidddcgfjaaGreat
open Go

def bys(l:List Int):Prop:=nj l/\l.length<=5000
def Q3{α:Type}(p:Pr α)(enc:α->List Int)(good:α->Prop):Prop:= ∀l x r,bys l->p l=some (x,r)->l=enc x++r/\good x/\bys r
def Q3.size{α:Type}{p:Pr α}{enc:α->List Int}{good:α->Prop}(h:Q3 p enc good):Q3 p enc (fun x=>good x/\(enc x).length<=5000):=by
 intro l x r hl V
 obtain⟨g1,g2,g3⟩:=h l x r hl V
 refine⟨g1,⟨g2,?_⟩,g3⟩
 have:=hl.2
 rw [g1,kj]at this
 omega
def Q3.bind{α β:Type}{p:Pr α}{q:α->Pr β}{e1:α->List Int}{P1:α->Prop}{e2:α->β->List Int}{P2:α->β->Prop}{enc:β->List Int}{good:β->Prop}(Y:Q3 p e1 P1)(X: ∀x,P1 x->Q3 (q x) (e2 x) (P2 x))(d: ∀x y,P1 x->P2 x y->enc y=e1 x++e2 x y/\good y):Q3 (cZ p q) enc good:=by
 intro l y r hl h
 unfold cZ at h
 cases hp:p l with
 |none=>rw [hp]at h;cases h
 |some u=>
  rw [hp,bf]at h
  obtain⟨g1,g2,g3⟩:=Y l u.1 u.2 hl hp
  obtain⟨g4,g5,g6⟩:=X u.1 g2 u.2 y r g3 h
  obtain⟨g7,g8⟩:=d u.1 y g2 g5
  exact⟨by rw [g1,g4,g7,hZ],g8,g6⟩
def Q3.map{α β:Type}{p:Pr α}{f:α->β}{e1:α->List Int}{P1:α->Prop}{enc:β->List Int}{good:β->Prop}(Y:Q3 p e1 P1)(d: ∀x,P1 x->enc (f x)=e1 x/\good (f x)):Q3 (kW f p) enc good:=by
 intro l y r hl h
 unfold kW at h
 cases hp:p l with
 |none=>rw [hp]at h;cases h
 |some u=>
  rw [hp]at h
  cases h
  obtain⟨g1,g2,g3⟩:=Y l u.1 u.2 hl hp
  obtain⟨g7,g8⟩:=d u.1 g2
  exact⟨by rw [g7];exact g1,g8,g3⟩
def Le{f:Int->Int}: ∀l:List Int,l.flatMap (fun x=>[f x])=l.map f
 |[]=>rfl
 |x::l=>by rw [Az,Le l];rfl
def xA: ∀{ae:List Int},nj ae->kh (pC ae)=ae/\(pC ae).length=ae.length
 |[],_=>⟨rfl,rfl⟩
 |c::ae,h=>by
  obtain⟨⟨n,Y,rfl⟩,X⟩:=BI h
  obtain⟨g1,g2⟩:=xA X
  refine⟨?_,by simp [pC]⟩
  show((UInt8.ofNat (n:Int).toNat).toNat:Int)::kh (pC ae)=_
  rw [g1,uY,UInt8.toNat_ofNat',Nat.mod_eq_of_lt (by omega)]
end Go.Proofs.YtdohlidddcgfjaaGreat


/- bS of this claim: H12. -/
set_option linter.all false
namespace Go.Proofs.YtdohlidddcgfjaaGreat
open Go

def gS(n:ap):Prop:=n.Value.S.length<=40
def gX(e:aO):Prop:=e.Nodes.length<=5000/\ ∀n∈e.Nodes,gS n
structure gD(n:aa):Prop where
 kinds:n.Kinds.length<=255
 keys:n.Keys.length<=255
 order:n.Order.length<=255
 items:n.Items.length<=255
 aggs:n.Aggs.length<=255
 cond:gX n.Cond
 item: ∀e∈n.Items,gX e
 arg: ∀a∈n.Aggs,gX a.Arg
structure gF(f:dp):Prop where
 cols:f.Cols.length<=255
 len:f.Nodes.length<=255
 n: ∀n∈f.Nodes,gD n
structure gP(p:cV):Prop where
 len:p.Frags.length<=255
 f: ∀f∈p.Frags,gF f
end Go.Proofs.YtdohlidddcgfjaaGreat


/- bS of this claim: H13. -/
set_option linter.all false
namespace Go.Proofs.YtdohlidddcgfjaaGreat
open Go

structure ZE(e:aO):Prop where
 len:e.Nodes.length<=60000
 str: ∀n∈e.Nodes,n.Value.S.length<=100
structure ZD(n:aa):Prop where
 cond:ZE n.Cond
 item: ∀e∈n.Items,ZE e
 arg: ∀a∈n.Aggs,ZE a.Arg
end Go.Proofs.YtdohlidddcgfjaaGreat


/- bS of this claim: H14. -/
set_option linter.all false
namespace Go.Proofs.YtdohlidddcgfjaaGreat
open Go

end Go.Proofs.YtdohlidddcgfjaaGreat


/- bS of this claim: H16. -/
set_option linter.all false
namespace Go.Proofs.YtdohlidddcgfjaaGreat
open Go

def Cm{α:Type}(p:Pr α)(l:List Int)(x:α):Prop:= ∀r,p (l++r)=some (x,r)
def Cm.bind{α β:Type}{p:Pr α}{q:α->Pr β}{l m:List Int}{x:α}{y:β}(Y:Cm p l x)(X:Cm (q x) m y):Cm (cZ p q) (l++m) y:=fun r=>by
 unfold cZ
 rw [hZ,Y,bf]
 exact X r
def Cm.map{α β:Type}{p:Pr α}{l:List Int}{x:α}(f:α->β)(Y:Cm p l x):Cm (kW f p) l (f x):=fun r=>by
 unfold kW
 rw [Y];rfl
def PA{α:Type}(x:α):Cm (fun l=>some (x,l)) [] x:=fun _=>rfl
def Cm.need{c:Bool}(h:c=true):Cm (sE c) [] ():=fun r=>by
 unfold sE
 rw [bh h];rfl
def Cm.eq{α:Type}{p:Pr α}{l m:List Int}{x:α}(h:Cm p l x)(e:m=l):Cm p m x:=e▸h
def HD(v:Int): ∀k,bn (eX v k)=v%2^(8*k)
 |0=>by
  show(0:Int)=v%2^(8*0)
  rw [Nat.mul_zero,Int.pow_zero];omega
 |k+1=>by
  unfold eX bn
  rw [eS,HD v k]
  have hp:(0:Int)<2^(8*k):=Int.pow_pos (by omega)
  rw [N0 _ (by omega),BW,show(256:Int)^k=2^(8*k)from by rw [show(256:Int)=2^8 from rfl,<-Int.pow_mul],show 8*(k+1)=8*k+8 from by omega,Int.pow_add,show(2:Int)^8=256 from rfl]
  generalize (2:Int)^(8*k)=m at hp
  rw [Int.mul_comm (v/m%256) m]
  have e1:m*(v/m)+v%m=v:=Int.mul_ediv_add_emod v m
  have e2:256*(v/m/256)+v/m%256=v/m:=Int.mul_ediv_add_emod (v/m) 256
  have Y:=Int.emod_nonneg v (show m≠0 by omega)
  have X:=Int.emod_lt_of_pos v hp
  have d:=Int.emod_nonneg (v/m) (show(256:Int)≠0 by omega)
  have h4:=Int.emod_lt_of_pos (v/m) (show(0:Int)<256 by omega)
  have e3:v=(m*(v/m%256)+v%m)+(m*256)*(v/m/256):=by
   have e4:m*(v/m)=m*(256*(v/m/256))+m*(v/m%256):=by rw [<-Int.mul_add,e2]
   rw [Int.mul_assoc];omega
  have h5:m*(v/m%256)<=m*255:=Int.mul_le_mul_of_nonneg_left (by omega) (by omega)
  have h6:0<=m*(v/m%256):=Int.mul_nonneg (by omega) d
  generalize v/m%256=q at*
  generalize v%m=w at*
  have e5:(m*q+w+m*256*(v/m/256))%(m*256)=m*q+w:=by
   rw [Int.add_mul_emod_self_left,Int.emod_eq_of_lt (by omega) (by omega)]
  rw [<-e3]at e5
  exact e5.symm
def zp(n:Nat){v:Int}(h0:0<=v)(Y:v<2^(8*n)):Cm (pw n) (eX v n) v:=fun r=>by
 unfold pw
 rw [aQ (by rw [kj,eS];omega),List.take_left' (eS v n),List.drop_left' (eS v n),HD,Int.emod_eq_of_lt h0 Y]
def oC{x:Int}(h:fO x):Cm p8 [IntKind.u8.wrap x] x:=fun r=>by
 obtain⟨Y,X⟩:=h
 have d:Cm (pw 1) (eX x 1) x:=zp 1 Y (show x<256 by omega)
 have h4:=(d.map fun x=>IntKind.i64.wrap (IntKind.u8.wrap x)) r
 have e:IntKind.i64.wrap (IntKind.u8.wrap x)=x:=by rw [BW,rl];omega
 simp only [e]at h4
 have e2:eX x 1=[IntKind.u8.wrap x]:=by simp [eX]
 rw [e2]at h4
 exact h4
def SA{x:Int}(h:RD x):Cm p16 (eX x 2) x:=fun r=>by
 obtain⟨Y,X⟩:=h
 have h4:=((zp 2 Y (show x<65536 by omega)).map fun x=>IntKind.i64.wrap (IntKind.u16.wrap x)) r
 have e:IntKind.i64.wrap (IntKind.u16.wrap x)=x:=by rw [IntKind.wrap_u16,rl];omega
 simp only [e]at h4
 exact h4
def Sx{x:Int}(Y:0<=x)(X:x<4294967296):Cm X7 (eX x 4) x:=fun r=>by
 have h4:=((zp 4 Y (show x<4294967296 by omega)).map IntKind.u32.wrap) r
 have e:IntKind.u32.wrap x=x:=by rw [IntKind.wrap_u32];omega
 rw [e]at h4
 exact h4
def A6(b:Bool):Cm tR [fB b] b:=fun r=>by
 unfold tR
 have e:[fB b]=[IntKind.u8.wrap (fB b)]:=by cases b<;>rfl
 have:Cm p8 [IntKind.u8.wrap (fB b)] (fB b):=oC (by unfold fO;cases b<;>decide)
 rw [e,this,bf]
 cases b<;>rfl
def UZ(ae:List Int):Cm (MC ae.length) ae ae:=fun r=>by
 unfold MC
 rw [aQ (by rw [kj];omega),List.take_left' rfl,List.drop_left' rfl]
def Oq{α:Type}{p:Pr α}{enc:α->List Int}: ∀xs:List α,(∀x∈xs,Cm p (enc x) x)->Cm (pl p xs.length) (xs.flatMap enc) xs
 |[],_=>fun r=>rfl
 |x::xs,h=>fun r=>by
  have Y:=h x (nM ..)
  have X:=Oq xs fun y hy=>h y (pK _ hy)
  show pl p (xs.length+1) _=_
  unfold pl
  rw [Az,hZ,Y,bf,X,bf]
def A9{α:Type}{p:Pr α}{enc:α->List Int}(xs:List α)(hl:xs.length<=255)(h: ∀x∈xs,Cm p (enc x) x):Cm (Kt p) (IntKind.u8.wrap (xs.length:Int)::xs.flatMap enc) xs:=
 Cm.bind (l:=[IntKind.u8.wrap (xs.length:Int)]) (oC ⟨by omega,by omega⟩) (by rw [uY];exact Oq xs h)
def IC(xs:List Int)(hl:xs.length<=255)(h: ∀x∈xs,fO x):Cm Kj (S6 xs) xs:=by
 have:=A9 (p:=p8) (enc:=fun x=>[IntKind.u8.wrap x]) xs hl fun x V=>oC (h x V)
 rw [Le]at this
 exact this
def ac1(x:Int):Prop:= -9223372036854775808<=x/\x<=9223372036854775807
def ac0(x:Int):Prop:=0<=x/\x<=18446744073709551615
structure US(v:am):Prop where
 n:ac1 v.N
 u:ac0 v.U
def FZ(ae:Po):pC (kh ae)=ae:=by
 unfold pC kh
 rw [List.map_map]
 conv=>rhs;rw [<-List.map_id ae]
 refine Gy fun x _=>?_
 show UInt8.ofNat ((x.toNat:Int).toNat)=x
 rw [uY,UInt8.ofNat_toNat]
def xO{v:am}(h:gu v=true):Cm (sF v) [] v:=Cm.bind (l:=[]) (Cm.need h) (PA v)
def Sc{v:am}(h:gu v=true)(hk:v.Kind=1):v.U=0/\v.S=[]/\(v.N=0\/v.N=1):=by
 obtain⟨k,n,u,ae⟩:=v
 subst hk
 simp only [gu,jV]at h
 grind
def Sb{v:am}(h:gu v=true)(hk:v.Kind=2):v.U=0/\v.S=[]:=by
 obtain⟨k,n,u,ae⟩:=v
 subst hk
 simp only [gu,jV]at h
 grind
def Sa{v:am}(h:gu v=true)(hk:v.Kind=3):v.N=0/\v.U=0/\v.S.length<=40:=by
 obtain⟨k,n,u,ae⟩:=v
 subst hk
 simp only [gu,jV]at h
 grind
def R9{v:am}(h:gu v=true)(Y:v.Kind≠1)(X:v.Kind≠2)(d:v.Kind≠3):(v.Kind=0/\v.N=0/\v.U=0/\v.S=[])\/(v.Kind=4/\v.S=[]):=by
 obtain⟨k,n,u,ae⟩:=v
 simp only at Y X d
 by_cases h0:k=0
 ·subst h0
  simp [gu,jV]at h
  grind
 ·simp [gu,jV,h0,Y,X,d]at h
  grind
def WS{v:am}(h:gu v=true)(hr:US v):Cm pv (vB v) v:=by
 obtain⟨⟨n1,n2⟩,u1,u2⟩:=hr
 have go: ∀c l,v.Kind=c->0<=c->c<=4->Cm (ES c) l v->Cm pv (IntKind.u8.wrap c::l) v:=fun c l _ h0 h4 H=>
  Cm.bind (l:=[IntKind.u8.wrap c]) (oC ⟨h0,by omega⟩) (Cm.bind (l:=[]) (Cm.need (by simpa using h4)) H)
 unfold vB
 by_cases Y:v.Kind=1
 ·obtain⟨e1,e2,e3⟩:=Sc h Y
  have ev:v=⟨1,v.N,0,[]⟩:=by obtain⟨k,n,u,ae⟩:=v;simp only at Y e1 e2;rw [Y,e1,e2]
  rw [bh Y,Y]
  refine go 1 _ Y (by omega) (by omega) ?_
  have H:fO v.N:=by unfold fO;omega
  have hd:Cm (sF ⟨1,v.N,0,[]⟩) [] v:=by rw [<-ev];exact xO h
  exact Cm.bind (l:=[IntKind.u8.wrap v.N]) (q:=fun u=>sF ⟨1,u,0,[]⟩) (oC H) hd
 rw [aQ Y]
 by_cases X:v.Kind=2
 ·obtain⟨e1,e2⟩:=Sb h X
  rw [bh X,X]
  refine go 2 _ X (by omega) (by omega) ?_
  have e:i64 (IntKind.u64.wrap v.N)=v.N:=by unfold i64;rw [xd,rl];omega
  have ev:v=⟨2,i64 (IntKind.u64.wrap v.N),0,[]⟩:=by rw [e];obtain⟨k,n,u,ae⟩:=v;simp only at X e1 e2;rw [X,e1,e2]
  have hd:Cm (sF ⟨2,i64 (IntKind.u64.wrap v.N),0,[]⟩) [] v:=by rw [<-ev];exact xO h
  have hw:IntKind.u64.wrap v.N<2^(8*8):=by rw [xd];show _<(18446744073709551616:Int);omega
  have:=Cm.bind (q:=fun u=>sF ⟨2,i64 u,0,[]⟩) (zp 8 (v:=IntKind.u64.wrap v.N) (by rw [xd];omega) hw) hd
  rw [p6]at this
  exact this
 rw [aQ X]
 by_cases d:v.Kind=3
 ·obtain⟨e1,e2,e3⟩:=Sa h d
  rw [bh d,d]
  refine go 3 _ d (by omega) (by omega) ?_
  have hl:=yw v.S
  have ev:v=⟨3,0,0,pC (kh v.S)⟩:=by rw [FZ];obtain⟨k,n,u,ae⟩:=v;simp only at d e1 e2;rw [d,e1,e2]
  have hd:Cm (sF ⟨3,0,0,pC (kh v.S)⟩) [] v:=by rw [<-ev];exact xO h
  have a1:Cm (Si 3 (v.S.length:Int)) (kh v.S++[]) v:=Cm.bind (by rw [uY,<-hl];exact UZ _) hd
  rw [p6]at a1
  have a2:Cm (Sh 3 (v.S.length:Int)) ([]++kh v.S) v:=Cm.bind (Cm.need (by rw [ig];omega)) a1
  exact Cm.bind (l:=[IntKind.u8.wrap (v.S.length:Int)]) (oC ⟨by omega,by omega⟩) a2
 rw [aQ d]
 rcases R9 h Y X d with⟨k0,e1,e2,e3⟩|⟨k4,e1⟩
 ·rw [aQ (by omega),k0]
  refine go 0 _ k0 (by omega) (by omega) ?_
  have ev:v=⟨0,0,0,[]⟩:=by obtain⟨k,n,u,ae⟩:=v;simp only at k0 e1 e2 e3;rw [k0,e1,e2,e3]
  have hd:Cm (sF ⟨0,0,0,[]⟩) [] v:=by rw [<-ev];exact xO h
  exact hd
 ·rw [bh k4,k4]
  refine go 4 _ k4 (by omega) (by omega) ?_
  have e:i64 (IntKind.u64.wrap v.N)=v.N:=by unfold i64;rw [xd,rl];omega
  have ev:v=⟨4,i64 (IntKind.u64.wrap v.N),v.U,[]⟩:=by rw [e];obtain⟨k,n,u,ae⟩:=v;simp only at k4 e1;rw [k4,e1]
  have hd:Cm (sF ⟨4,i64 (IntKind.u64.wrap v.N),v.U,[]⟩) [] v:=by rw [<-ev];exact xO h
  have hw:IntKind.u64.wrap v.N<2^(8*8):=by rw [xd];show _<(18446744073709551616:Int);omega
  have a1:Cm (Oj 4 (IntKind.u64.wrap v.N)) (eX v.U 8++[]) v:=Cm.bind (q:=fun w=>sF ⟨4,i64 (IntKind.u64.wrap v.N),w,[]⟩) (zp 8 u1 (show v.U<(18446744073709551616:Int) by omega)) hd
  rw [p6]at a1
  exact Cm.bind (q:=Oj 4) (zp 8 (v:=IntKind.u64.wrap v.N) (by rw [xd];omega) hw) a1
def CmE{α E:Type}(p:E->Pr (α×E))(e:E)(l:List Int)(x:α)(e' :E):Prop:=Cm (p e) l (x,e')
def NR{α E:Type}(p:E->Pr (α×E))(n:Nat)(e:E)(l:List Int)(xs:List α)(e' :E):Prop:=Cm (m1 p n e) l (xs,e')
def NR.one{α E:Type}{p:E->Pr (α×E)}{e e' :E}{l:List Int}{x:α}(h:CmE p e l x e'):NR p 1 e l [x] e' :=fun r=>by
 unfold m1
 rw [h,bf]
 rfl
def NR.nil{α E:Type}{p:E->Pr (α×E)}{e:E}:NR p 0 e [] [] e:=fun r=>rfl
def NR.app{α E:Type}{p:E->Pr (α×E)}: ∀{m:Nat} {e e1:E} {l:List Int} {xs:List α} {n:Nat} {e2:E} {k:List Int} {ys:List α},NR p m e l xs e1->NR p n e1 k ys e2->xs.length=m->NR p (m+n) e (l++k) (xs++ys) e2:=by
 intro m e e1 l xs n e2 k ys Y X V r
 rw [hZ]
 have h1' :=Y (k++r)
 clear Y
 generalize l++(k++r)=z at h1' ⊢
 induction m generalizing e z xs with
 |zero=>
  cases h1'
  rw [vj]
  exact X r
 |succ m ih=>
  rw [show m+1+n=(m+n)+1 from by omega]
  unfold m1 at h1' ⊢
  cases hp:p e z with
  |none=>rw [hp]at h1';cases h1'
  |some u=>
   rw [hp,bf]at h1'
   rw [bf]
   cases hq:m1 p m u.1.2 u.2 with
   |none=>rw [hq]at h1';cases h1'
   |some v=>
    rw [hq,bf]at h1'
    obtain⟨⟨v1,v2⟩,v3⟩:=v
    cases h1'
    rw [ih (xs:=v1) (by simpa using V) u.2 hq]
    rfl
def Wk{n:ap}(h:C9 n=true):(n.Tag=1/\va n.Value=true/\n.Col=0)\/(n.Tag=2/\n.Value=vZ/\0<=n.Col/\n.Col<16)\/(n.Tag≠1/\n.Tag≠2/\n.Value=vZ/\n.Col=0):=by
 unfold C9 kH at h
 rw [oz]at h
 by_cases Y:n.Tag=1
 ·rw [bh (by simp [Y])]at h
  simp at h
  exact .inl ⟨Y,by grind,by grind⟩
 ·rw [aQ (by simpa using Y)]at h
  by_cases X:n.Tag=2
  ·rw [bh (by simp [X])]at h
   simp at h
   exact .inr (.inl ⟨X,by unfold vZ;grind,by grind,by grind⟩)
  ·rw [aQ (by simpa using X)]at h
   simp at h
   exact .inr (.inr ⟨Y,X,by unfold vZ;grind,by grind⟩)
def mM{α:Type}{n:Nat}(h:Int->Int->α){e:List Int×Int}{L R:Int}{t:List Int}(hp:u9 n e.1=some (L,R,t)):Cm (kq n h e) [] (h L R,t++[e.2],e.2+1):=fun r=>by
 unfold kq
 rw [hp];rfl
def aaH{tag:Int}{k:Nat}(h:pk tag=some k):ar tag=k/\fO tag:=by
 unfold pk at h
 unfold ar fO
 split at h
 ·rename_i Y
  cases h
  rw [bh (by simpa using Y)]
  exact⟨rfl,by omega⟩
 ·rename_i Y
  rw [aQ (by simpa using Y)]
  split at h
  ·cases h
   rw [aQ (by omega)]
   exact⟨rfl,by omega⟩
  ·split at h
   ·cases h
    rw [bh (by omega)]
    exact⟨rfl,by omega⟩
   ·cases h
def Sv{n:ap}{k:Nat}(hk:pk n.Tag=some k)(hc:C9 n=true)(hr:US n.Value){e:List Int×Int}{t:List Int}(hp:u9 k e.1=some (n.L,n.R,t)):CmE pE e (nB n) n (t++[e.2],e.2+1):=by
 obtain⟨ha,H⟩:=aaH hk
 rw [<-ha]at hp
 unfold CmE pE nB
 generalize hm:(if n.Tag=2 then [IntKind.u8.wrap n.Col]else if n.Tag=1 then vB n.Value else [])=m
 refine Cm.bind (l:=[IntKind.u8.wrap n.Tag]) (m:=m) (oC H) ?_
 subst hm
 rcases Wk hc with⟨Y,X,d⟩|⟨Y,X,d,h4⟩|⟨Y,h1',X,d⟩
 ·rw [aQ (by simp [Y]),bh (by simp [Y]),aQ (by omega),bh Y]
  have hv:gu n.Value=true:=by unfold va at X;simp only [ly]at X;exact X.1
  have en:n=⟨n.Tag,n.L,n.R,0,n.Value⟩:=by obtain⟨a,b,c,h3,f⟩:=n;simp only at d;rw [d]
  have:=Cm.bind (q:=fun v=>kq (ar n.Tag) (fun L R=>(⟨n.Tag,L,R,0,v⟩:ap)) e) (WS hv hr) (mM (fun L R=>(⟨n.Tag,L,R,0,n.Value⟩:ap)) hp)
  rw [p6]at this
  rw [<-en]at this
  exact this
 ·rw [bh (by simp [Y]),bh Y]
  have en:n=⟨n.Tag,n.L,n.R,n.Col,vZ⟩:=by obtain⟨a,b,c,h3,f⟩:=n;simp only at X;rw [X]
  have:=Cm.bind (l:=[IntKind.u8.wrap n.Col]) (q:=fun c=>kq (ar n.Tag) (fun L R=>(⟨n.Tag,L,R,c,vZ⟩:ap)) e) (oC ⟨d,by omega⟩) (mM (fun L R=>(⟨n.Tag,L,R,n.Col,vZ⟩:ap)) hp)
  rw [<-en]at this
  exact this
 ·rw [aQ (by simpa using h1'),aQ (by simpa using Y),aQ h1',aQ Y]
  have en:n=⟨n.Tag,n.L,n.R,0,vZ⟩:=by obtain⟨a,b,c,h3,f⟩:=n;simp only at X d;rw [X,d]
  have:=mM (fun L R=>(⟨n.Tag,L,R,0,vZ⟩:ap)) hp
  rw [<-en]at this
  exact this
def Tr.rg:Tr->Prop
 | .lf n=>US n.Value
 | .un n a=>US n.Value/\a.rg
 | .bi n a b=>US n.Value/\a.rg/\b.rg
def aaD(t:Tr): ∀ae,(∀n∈t.flat ae,US n.Value)->t.rg:=by
 induction t with
 |lf n=>intro ae h;exact h (jv n (-1) (-1)) (uk.2 rfl)
 |un n a ih=>intro ae h;exact⟨h (jv n ((ae+a.size:Nat)-1) (-1)) (ui.2 (.inr (uk.2 rfl))),ih ae fun m hm=>h m (ui.2 (.inl hm))⟩
 |bi n a b iha ihb=>intro ae h;exact⟨h (jv n ((ae+a.size:Nat)-1) ((ae+a.size+b.size:Nat)-1)) (ui.2 (.inr (uk.2 rfl))),iha ae fun m hm=>h m (ui.2 (.inl (ui.2 (.inl hm)))),ihb _ fun m hm=>h m (ui.2 (.inl (ui.2 (.inr hm))))⟩
def Vu(t:Tr):t.wf->t.rg-> ∀(ae:Nat) (tops:List Int),NR pE t.size (tops,(ae:Int)) ((t.flat ae).flatMap nB) (t.flat ae) (tops++[((ae+t.size:Nat):Int)-1],((ae+t.size:Nat):Int)):=by
 induction t with
 |lf n=>
  intro⟨Y,X,_,_⟩ hr ae tops
  have:=NR.one (Sv (n:=jv n (-1) (-1)) Y X hr (e:=(tops,(ae:Int))) (t:=tops) rfl)
  simp only [Tr.flat,Tr.size,Az,List.flatMap_nil,p6]
  rw [show((ae+1:Nat):Int)-1=(ae:Int)from by omega,show((ae+1:Nat):Int)=(ae:Int)+1 from by omega]
  exact this
 |un n a ih=>
  intro⟨⟨Y,X,_,_⟩,hw⟩ ⟨hr,hra⟩ ae tops
  have q1:=ih hw hra ae tops
  have q2:=NR.one (Sv (n:=jv n (((ae+a.size:Nat):Int)-1) (-1)) Y X hr (e:=(tops++[((ae+a.size:Nat):Int)-1],((ae+a.size:Nat):Int))) (t:=tops) (by simp [u9,jv]))
  have:=q1.app q2 (a.flat_len ae)
  simp only [Tr.flat,Tr.size,List.flatMap_append,Az,List.flatMap_nil,p6]
  rw [show((ae+(a.size+1):Nat):Int)-1=((ae+a.size:Nat):Int)from by omega,show((ae+(a.size+1):Nat):Int)=((ae+a.size:Nat):Int)+1 from by omega]
  exact this
 |bi n a b iha ihb=>
  intro⟨⟨Y,X,_,_⟩,hwa,hwb⟩ ⟨hr,hra,hrb⟩ ae tops
  have q1:=iha hwa hra ae tops
  have q2:=ihb hwb hrb (ae+a.size) (tops++[((ae+a.size:Nat):Int)-1])
  have q3:=NR.one (Sv (n:=jv n (((ae+a.size:Nat):Int)-1) (((ae+a.size+b.size:Nat):Int)-1)) Y X hr (e:=(tops++[((ae+a.size:Nat):Int)-1]++[((ae+a.size+b.size:Nat):Int)-1],((ae+a.size+b.size:Nat):Int))) (t:=tops) (by simp [u9,jv,List.dropLast_append_of_ne_nil]))
  have:=(q1.app q2 (a.flat_len ae)).app q3 (by rw [kj,a.flat_len,b.flat_len])
  simp only [Tr.flat,Tr.size,List.flatMap_append,Az,List.flatMap_nil,p6]
  rw [show((ae+(a.size+b.size+1):Nat):Int)-1=((ae+a.size+b.size:Nat):Int)from by omega,show((ae+(a.size+b.size+1):Nat):Int)=((ae+a.size+b.size:Nat):Int)+1 from by omega]
  exact this
def ZU(e:aO):Prop:= ∀n∈e.Nodes,US n.Value
def A8{e:aO}(h:mE e.Nodes=true\/e.Nodes.length=0)(hr:ZU e):Cm zr (eB e) e:=by
 have key:e.Nodes.length<=1000/\Cm (EQ (e.Nodes.length:Int)) (e.Nodes.flatMap nB) e.Nodes:=by
  rcases h with h|h
  ·unfold mE at h
   obtain⟨t,D⟩:=NY.1 h
   obtain⟨Y,X,d⟩:=mZ D
   have hl:e.Nodes.length=t.size:=by rw [X,t.flat_len]
   refine⟨by omega,fun r=>?_⟩
   have h4:=Vu t Y (aaD t 0 (by rw [<-X];exact hr)) 0 [] r
   unfold EQ
   rw [uY,hl,X]
   rw [show((0:Nat):Int)=(0:Int)from rfl]at h4
   rw [h4];rfl
  ·rw [sd h]
   exact⟨by simp,fun r=>rfl⟩
 have:=Cm.bind (q:=fun n=>kW aO.mk (EQ n)) (SA (x:=(e.Nodes.length:Int)) ⟨by omega,by omega⟩) (key.2.map aO.mk)
 exact this
end Go.Proofs.YtdohlidddcgfjaaGreat


/- bS of this claim: H17. -/
set_option linter.all false
namespace Go.Proofs.YtdohlidddcgfjaaGreat
open Go

def Bo(e:aO):Prop:=mE e.Nodes=true\/e.Nodes.length=0
structure GN(n:aa):Prop where
 prt:0<=prt n.Op
 own:qV n=true
 scan:n.Op=1\/n.Op=9->fO n.Table/\n.Kinds.length<=255/\ ∀k∈n.Kinds,fO k
 cond:n.Op=2\/n.Op=3->Bo n.Cond
 grp:n.Op=4\/n.Op=10\/n.Op=11->n.Keys.length<=255/\(∀k∈n.Keys,fO k)/\n.Aggs.length<=255/\ ∀a∈n.Aggs,fO a.Tag/\Bo a.Arg
 prj:n.Op=5->n.Items.length<=255/\ ∀e∈n.Items,Bo e
 srt:n.Op=8->n.Order.length<=255/\(∀o∈n.Order,fO o.Col)/\ -1<=n.Limit/\n.Limit<=2147483647
def T8{g:eY}{a:List Int}(h:(BN g a).2=true):fO g.Tag/\Bo g.Arg:=by
 unfold BN at h
 unfold fO
 by_cases Y:g.Tag=1
 ·rw [bh Y]at h
  exact⟨by omega,.inr (by simpa using h)⟩
 rw [aQ Y]at h
 by_cases d:g.Tag=3
 ·rw [bh d]at h
  simp only [ly,oY,ig]at h
  exact⟨by omega,.inl (qw h.1.1.1)⟩
 rw [aQ d]at h
 split at h
 ·simp only [ly,oY,ig]at h
  exact⟨by omega,.inl (qw h.1.1)⟩
 ·simp only [ly,oY,ig]at h
  exact⟨by omega,.inl (qw h.1.1)⟩
def GF{e:aO}{ks:List Int}(h:Ie e ks=true):Bo e:=by
 unfold Ie at h
 simp only [ly,oY]at h
 exact .inl (qw h.1)
def Qu{a:List Int}{e:Int}(ha:a.length<=16)(h:vy a e=false):fO e:=by
 simp [vy]at h
 unfold fO
 omega
def KY{n:aa}(hn:je n)(h4:n.Op=4){a b k:List Int}(ha:a.length<=16)(h:cF n a b=some (k,true)):n.Keys.length<=255/\(∀k∈n.Keys,fO k)/\n.Aggs.length<=255/\ ∀a∈n.Aggs,fO a.Tag/\Bo a.Arg:=by
 rw [ZR hn h4]at h
 cases hany:n.Keys.any (vy a)with
 |true=>rw [hany,bh rfl]at h;cases h
 |false=>
  rw [hany,aQ (by simp)]at h
  injection h with h
  injection h with X d
  simp only [ly,kU,ig]at d
  refine⟨by omega,fun e he=>?_,by omega,fun g K=>?_⟩
  ·exact Qu ha (by have:=JC.1 hany e he;simpa using this)
  ·have:=d.1.1.1 g K
   rw [<-(BM g a).1]at this
   exact T8 this
def Hl{a:List Int}: ∀(ks:List Int) (i:Nat),xi a ks i=true->i+ks.length<=255-> ∀k∈ks,fO k
 |[],_,_,_=>fun k hk=>by cases hk
 |k::tl,i,h,hl=>fun x V=>by
  unfold xi at h
  simp only [ly,oY]at h
  simp only [iG]at hl
  rcases jl.1 V with rfl|V
  ·unfold fO;omega
  ·exact Hl tl (i+1) h.2 (by omega) x V
def Vw{g:eY}{k:Int}(h:(fk g k).2=true):fO g.Tag/\Bo g.Arg:=by
 unfold fk at h
 unfold fO
 repeat' split at h
 all_goals simp at h
 all_goals exact⟨by omega,.inr (by rw [h.1];rfl)⟩
def M6{l:al}(h:Lb l){e:aa}(hA:gV l.nodes l.n.A=some e){r:Bool×al}(hr:dF l=some r)(D:r.1=true):l.n.Keys.length<=255/\(∀k∈l.n.Keys,fO k)/\l.n.Aggs.length<=255/\ ∀a∈l.n.Aggs,fO a.Tag/\Bo a.Arg:=by
 have hk:=h.n.keys
 have K:=h.n.aggs
 have ha:=h.a
 have hw:IntKind.i64.wrap ((l.n.Keys.length:Int)+(l.n.Aggs.length:Int))=((l.n.Keys.length+l.n.Aggs.length:Nat):Int):=by rw [eM (by omega) (by omega)];omega
 unfold dF at hr
 rw [hA,bf]at hr
 by_cases hc:((((e.Op==(9:Int))&&(decide ((l.n.Keys.length:Int)<=(3:Int))))&&(decide ((l.n.Aggs.length:Int)<=(12:Int))))&&((IntKind.i64.wrap ((l.n.Keys.length:Int)+(l.n.Aggs.length:Int)))==(l.a_.length:Int)))=true
 ·have hc' :(l.n.Keys.length<=3/\l.n.Aggs.length<=12)/\l.n.Keys.length+l.n.Aggs.length=l.a_.length:=by
   rw [hw]at hc
   simp only [ly,oY,ig]at hc
   omega
  rw [hc,aQ (by simp),td _ (by omega),bf,Ci (by omega) l.a_ l.n.Keys 0 true (vj _),nN]at hr
  have:=Fe (l:=l) hk l.n.Aggs 0 (xi l.a_ l.n.Keys 0) (l.a_.take l.n.Keys.length) (l.a_.drop l.n.Keys.length) (by simp;omega) (by simp;omega) rfl (by simp;omega)
  rw [sL]at this
  rw [this]at hr
  cases hr
  simp only [ly,kU]at D
  refine⟨by omega,Hl _ _ D.1 (by omega),by omega,fun g hg' =>?_⟩
  obtain⟨j,hj,hjx⟩:=List.getElem_of_mem hg'
  have hlen:(l.a_.drop l.n.Keys.length).length=l.n.Aggs.length:=by simp;omega
  have hm:(l.n.Aggs[j],(l.a_.drop l.n.Keys.length)[j]'(by omega))∈l.n.Aggs.zip (l.a_.drop l.n.Keys.length):=by
   rw [List.mem_iff_getElem]
   exact⟨j,by simp;omega,by simp⟩
  have:=D.2 _ hm
  rw [hjx]at this
  exact Vw this
 ·rw [Ay]at hc
  rw [hc,bh (show(!false)=true from rfl)]at hr
  cases hr
  cases D
def ZL{l:al}(h:Lb l)(hp:0<=prt l.n.Op)(ho:qV l.n=true)(hA:prt l.n.Op≠0-> ∃e,gV l.nodes l.n.A=some e){R:List Int}(hR:R.length<=16)(hk:oe l.n.Op l ()=some (true,{l with result:=R})):GN l.n:=by
 have m13:F9 l.n.Op=true-> ∃k,cF l.n l.a_ l.b=some (k,true)/\k.length<=16:=fun h8=>by
  obtain⟨ok,R',o,k,g1,g2,g3,_⟩:=SV h h8
  have g1' :oe l.n.Op l ()=some (ok,{l with result:=R' }):=g1
  rw [hk]at g1'
  injection g1' with g1'
  injection g1' with q1 q2
  have q3:R=R' :=congrArg al.result q2
  subst q3
  subst q1
  have:decide (R.length<=16)=true:=by simpa using hR
  rw [this,nN]at g3
  have g4:=g3.symm
  simp only [ly,ig]at g4
  rw [g4.1]at g2
  exact⟨k,g2,g4.2⟩
 refine⟨hp,ho,fun Y=>?_,fun Y=>?_,fun Y=>?_,fun Y=>?_,fun Y=>?_⟩
 ·rcases Y with Y|Y
  ·obtain⟨k,g1,g2⟩:=m13 (by rw [Y];rfl)
   rw [WQ h.n Y]at g1
   injection g1 with g1
   injection g1 with g3 g4
   simp only [ly,kU,ig]at g4
   unfold fO
   refine⟨by omega,by omega,fun x V=>?_⟩
   have:=g4.1.1.1.1 x V
   omega
  ·rw [Y]at hk
   have hk' :ic l=some (true,{l with result:=R}):=hk
   rw [E3]at hk'
   injection hk' with hk'
   injection hk' with q1 q2
   unfold IP at q1
   simp only [ly,kU,ig]at q1
   unfold fO
   refine⟨by omega,by omega,fun x V=>?_⟩
   have:=q1.2 x V
   omega
 ·rcases Y with Y|Y
  ·obtain⟨k,g1,g2⟩:=m13 (by rw [Y];rfl)
   rw [ZT Y h.a h.b]at g1
   injection g1 with g1
   injection g1 with g3 g4
   exact GF g4
  ·obtain⟨k,g1,g2⟩:=m13 (by rw [Y];rfl)
   rw [ZS Y]at g1
   injection g1 with g1
   injection g1 with g3 g4
   exact GF g4
 ·rcases Y with Y|Y|Y
  ·obtain⟨k,g1,g2⟩:=m13 (by rw [Y];rfl)
   exact KY h.n Y h.a g1
  ·rw [Y]at hk
   have hk' :d8 l=some (true,{l with result:=R}):=hk
   unfold d8 at hk'
   obtain⟨q,q1,q2⟩:=bs hk'
   by_cases hq:q.1=true
   ·have hn4:je {l.n with Op:=4}:=⟨h.n.cond,h.n.kinds,h.n.keys,h.n.aggs,h.n.items,h.n.order,h.n.args,h.n.exprs⟩
    obtain⟨ok,R',o,k,g1,g2,g3,_⟩:=Ab h (n:={l.n with Op:=4}) rfl hn4 rfl rfl []
    rw [g1]at q1
    cases q1
    have hq:ok=true:=hq
    rw [hq]at g3
    rw [<-g3]at g2
    exact KY (n:={l.n with Op:=4}) hn4 rfl h.a g2
   ·rw [bh (by simpa using hq)]at q2
    cases q2
  ·rw [Y]at hk
   have hk' :dF l=some (true,{l with result:=R}):=hk
   obtain⟨e,he⟩:=hA (by rw [Y];decide)
   exact M6 h he hk' rfl
 ·obtain⟨k,g1,g2⟩:=m13 (by rw [Y];rfl)
  rw [X4 h.n Y]at g1
  injection g1 with g1
  injection g1 with g3 g4
  simp only [ly,kU,ig,oY]at g4
  exact⟨by omega,fun e he=> .inl (qw (g4.1.1 e he))⟩
 ·obtain⟨k,g1,g2⟩:=m13 (by rw [Y];rfl)
  have ha:=h.a
  rw [ZQ h.n Y]at g1
  injection g1 with g1
  injection g1 with g3 g4
  simp only [ly,kU,ig]at g4
  refine⟨by omega,fun o ho=>?_,by omega,by omega⟩
  have:=g4.1.1.1 o ho
  unfold fO
  omega
def Z5:List aa->Nat->List Int->Prop
 |[],_,_=>True
 |e::tl,i,st=>Ur e st/\GN e/\Z5 tl (i+1) ((i:Int)::st.drop (prt e.Op).toNat)
section
variable{ns:List aa}{l:al}{i:Nat}
def PO(h:Q4 ns l i)(hs:mz ns){e:aa}(he:ns[i]? =some e){l' :al}(D:dm l (i:Int) (oe e.Op)=some (true,l')):Ur e l.open_.reverse/\GN e/\l'.open_.reverse=(i:Int)::l.open_.reverse.drop (prt e.Op).toNat:=by
 have hi:=(sy.1 he).1
 have h90:=hs.len
 have hse:=hs.n e (tu he)
 have hkl:=h.k.len
 have hopen:=h.k.open_
 by_cases K:Ur e l.open_.reverse/\qV e=true
 ·obtain⟨hp,ho⟩:=K
  have hprt:0<=prt e.Op:=by rcases hp with h|h|h<;>omega
  have hA1:prt e.Op≠0->0<=e.A/\e.A<(i:Int):=fun hne=>by
   rcases hp with h|⟨_,_,r,hr⟩|⟨_,r,hr⟩
   ·exact absurd h.1 hne
   ·exact hopen e.A (JA.1 (by rw [hr];simp))
   ·exact hopen e.A (JA.1 (by rw [hr];simp))
  have hlb:Lb (wp l e (kA l.kinds e.A) (kA l.kinds e.B)):=⟨hse,Ck h.k.kinds _,Ck h.k.kinds _⟩
  have hA2:prt (wp l e (kA l.kinds e.A) (kA l.kinds e.B)).n.Op≠0-> ∃x,gV (wp l e (kA l.kinds e.A) (kA l.kinds e.B)).nodes (wp l e (kA l.kinds e.A) (kA l.kinds e.B)).n.A=some x:=fun hne=>by
   have:=hA1 hne
   refine⟨ns[e.A.toNat]'(by omega),?_⟩
   show gV l.nodes e.A=_
   rw [h.k.nodes,lZ e.A.toNat (by omega),sH (by omega)]
  obtain⟨ok0,R0,g1,_⟩:=Ly hlb hA2 hprt
  have g1' :oe e.Op (wp l e (kA l.kinds e.A) (kA l.kinds e.B)) ()=some (ok0,{wp l e (kA l.kinds e.A) (kA l.kinds e.B)with result:=R0}):=g1
  obtain⟨l2,t1,t2⟩:=Ei h.k (by omega) (by omega) he hse hp ho g1'
  rw [D]at t1
  injection t1 with t1
  injection t1 with t3 t4
  subst t4
  have t5:=t2 t3.symm
  have t6:=t3.symm
  simp only [ly,ig]at t6
  have hok:ok0=true:=t6.2.2.1
  subst hok
  exact⟨hp,ZL hlb hprt ho hA2 t6.2.2.2 g1',t5.2⟩
 ·obtain⟨l2,t1⟩:=GI h.k (by omega) (by omega) he hse K
  rw [D]at t1
  cases t1
def KO(hs:mz ns): ∀(tl:List aa) (i:Nat) (l:al),ns.drop i=tl->Q4 ns l i-> ∀{out:List (List Int)} {w:Int},fh ns ((lE).getD []) tl i (-1) l=some (out,w,0)->Z5 tl i l.open_.reverse
 |[],_,_,_,_,_,_,_=>trivial
 |e::tl,i,l,hd,hS,out,w,h=>by
  obtain⟨hidx,hi,hd'⟩:=pz hd
  rw [eU]at hidx
  obtain⟨ok,l',g1,g2,g3⟩:=B6 hS hs hidx tl
  unfold fh at h
  have g1' :dm l (i:Int) ((uo ((lE).getD []) e.Op).getD (fun _ _=>none))=some (ok,l'):=g1
  rw [g1',bf]at h
  cases ok with
  |false=>
   rw [bh (by rfl)]at h
   unfold jJ at h
   rw [aQ (by simp;omega),pB l' (by omega)]at h
   cases h
  |true=>
   rw [aQ (by simp)]at h
   obtain⟨k1,k2,k3⟩:=PO hS hs hidx g1
   have:=KO hs tl (i+1) l' hd' (g2 rfl).1 h
   rw [k3]at this
   exact⟨k1,k2,this⟩
end
def Ra{ns:List aa}(hs:mz ns){out:List (List Int)}{w:Int}(h:iM ns=some (out,w,0)):1<=ns.length/\ns.length<=60/\Z5 ns 0 []:=by
 unfold iM at h
 split at h
 ·cases h
 ·rename_i hc
  simp only [y7,ig,not_or]at hc
  exact⟨by omega,by omega,KO hs ns 0 ⟨ns,[],[],⟨0,0,0,0,[],false,⟨[]⟩,[],[],[],[],0⟩,[],[],[]⟩ rfl ⟨⟨rfl,rfl,fun p hp=>(by cases hp),eo _,fun k hk=>(by cases hk),fun j hj=>by omega⟩,.nil,fun k hk=>by cases hk⟩ h⟩
end Go.Proofs.YtdohlidddcgfjaaGreat


/- bS of this claim: H18. -/
set_option linter.all false
namespace Go.Proofs.YtdohlidddcgfjaaGreat
open Go

structure ZX(n:aa):Prop where
 cond:ZU n.Cond
 item: ∀e∈n.Items,ZU e
 arg: ∀a∈n.Aggs,ZU a.Arg
def rgP(p:cV):Prop:= ∀f∈p.Frags,∀n∈f.Nodes,ZX n
def ET{n:aa}(h:Cf n=true):(n.Op≠1->n.Table=0/\n.Kinds=[])/\(n.Op≠2->n.Left=false)/\(n.Op≠2->n.Op≠3->n.Cond=⟨[]⟩)/\(n.Op≠4->n.Keys=[]/\n.Aggs=[])/\(n.Op≠5->n.Items=[])/\(n.Op≠8->n.Order=[]/\n.Limit=0):=by
 have z: ∀{α:Type} (l:List α),¬((0:Int)<(l.length:Int))->l=[]:=fun l hl=>sd (by omega)
 unfold Cf pf at h
 split at h
 ·simp at h
 rename_i c1
 split at h
 ·simp at h
 rename_i c2
 split at h
 ·simp at h
 rename_i c3
 simp only [y7,ly,xv,ne_eq,ig,Option.getD_some,oY]at c1 c2 c3 h
 refine⟨fun V=>?_,fun V=>?_,fun V hy=>?_,fun V=>?_,fun V=>?_,fun V=>?_⟩
 ·have Y: ¬(¬n.Table=0\/(0:Int)<(n.Kinds.length:Int)):=fun hh=>c1 ⟨V,hh⟩
  exact⟨Decidable.byContradiction fun hh=>Y (.inl hh),z _ fun hh=>Y (.inr hh)⟩
 ·cases hl:n.Left with
  |false=>rfl
  |true=>exact absurd (.inl ⟨V,hl⟩) c2
 ·have:=z _ fun hh=>c2 (.inr ⟨⟨V,hy⟩,hh⟩)
  generalize n.Cond=c at this
  obtain⟨l⟩:=c
  have:l=[]:=this
  rw [this]
 ·exact⟨z _ fun hh=>c3 (.inl ⟨V,.inl hh⟩),z _ fun hh=>c3 (.inl ⟨V,.inr hh⟩)⟩
 ·exact z _ fun hh=>c3 (.inr ⟨V,hh⟩)
 ·rcases h with h|⟨Y,X⟩
  ·exact absurd h V
  ·exact⟨sd (by omega),X⟩
def Qs{n:aa}(hp:0<=prt n.Op)(h:qV n=true):(n.Op≠1->n.Op≠9->n.Table=0/\n.Kinds=[])/\(n.Op≠2->n.Left=false)/\(n.Op≠2->n.Op≠3->n.Cond=⟨[]⟩)/\(n.Op≠4->n.Op≠10->n.Op≠11->n.Keys=[]/\n.Aggs=[])/\(n.Op≠5->n.Items=[])/\(n.Op≠8->n.Order=[]/\n.Limit=0):=by
 rcases yO hp with h8|h9|K
 ·rw [Ov h8]at h
  obtain⟨a1,a2,a3,a4,a5,a6⟩:=ET h
  have:=nA h8
  exact⟨fun Y _=>a1 Y,a2,a3,fun Y _ _=>a4 Y,a5,a6⟩
 ·rw [U8 h9]at h
  obtain⟨a1,a2,a3,a4,a5,a6⟩:=ET h
  have k2:(1:Int)≠2:=by decide
  have k3:(1:Int)≠3:=by decide
  have k4:(1:Int)≠4:=by decide
  have k5:(1:Int)≠5:=by decide
  have k8:(1:Int)≠8:=by decide
  exact⟨fun _ Y=>absurd h9 Y,fun _=>a2 k2,fun _ _=>a3 k2 k3,fun _ _ _=>a4 k4,fun _=>a5 k5,fun _=>a6 k8⟩
 ·rw [Ou K]at h
  obtain⟨a1,a2,a3,a4,a5,a6⟩:=ET h
  have k1:(4:Int)≠1:=by decide
  have k2:(4:Int)≠2:=by decide
  have k3:(4:Int)≠3:=by decide
  have k5:(4:Int)≠5:=by decide
  have k8:(4:Int)≠8:=by decide
  exact⟨fun _ _=>a1 k1,fun _=>a2 k2,fun _ _=>a3 k2 k3,fun Y X d=>by omega,fun _=>a5 k5,fun _=>a6 k8⟩
def ZN{a:eY}(h:fO a.Tag/\Bo a.Arg)(hr:ZU a.Arg):Cm Qr (WA a) a:=
 Cm.bind (l:=[IntKind.u8.wrap a.Tag]) (q:=fun f=>kW (eY.mk f) zr) (oC h.1) ((A8 h.2 hr).map (eY.mk a.Tag))
def Yb{o:ku}(h:fO o.Col):Cm Sm (ZY o) o:=
 Cm.bind (l:=[IntKind.u8.wrap o.Col]) (q:=fun f=>kW (ku.mk f) tR) (oC h) ((A6 o.Desc).map (ku.mk o.Col))
def Qq{n:aa}(h:GN n)(hr:ZX n){e:List Int×Int}{t:List Int}(hp:u9 (prt n.Op).toNat e.1=some (n.A,n.B,t)):Cm (z1 n.Op e) (DO n) (n,t++[e.2],e.2+1):=by
 obtain⟨o1,o2,o3,o4,o5,o6⟩:=Qs h.prt h.own
 have hop:=yO h.prt
 have hop:n.Op=1\/n.Op=2\/n.Op=3\/n.Op=4\/n.Op=5\/n.Op=6\/n.Op=7\/n.Op=8\/n.Op=9\/n.Op=10\/n.Op=11:=by
  rcases hop with h8|h9|h9|h9
  ·have:=nA h8;omega
  all_goals omega
 unfold z1
 by_cases Y:n.Op=1\/n.Op=9
 ·rw [bh (by simpa using Y)]
  obtain⟨b1,b2,b3⟩:=h.scan Y
  have e2:=o2 (by omega)
  have e3:=o3 (by omega) (by omega)
  obtain⟨e4,e5⟩:=o4 (by omega) (by omega) (by omega)
  have e6:=o5 (by omega)
  obtain⟨e7,e8⟩:=o6 (by omega)
  have en:n=⟨n.Op,n.A,n.B,n.Table,n.Kinds,false,⟨[]⟩,[],[],[],[],0⟩:=by
   obtain⟨x,A,B,T,hg,Lf,C,Ks,Ag,It,Or,Li⟩:=n;simp only at e2 e3 e4 e5 e6 e7 e8;rw [e2,e3,e4,e5,e6,e7,e8]
  have hp0:(prt n.Op).toNat=0:=by rcases Y with Y|Y<;>rw [Y]<;>rfl
  rw [hp0]at hp
  have q:=Cm.bind (l:=[IntKind.u8.wrap n.Table]) (q:=fun t=>cZ Kj fun ks=>kq 0 (fun L R=>(⟨n.Op,L,R,t,ks,false,⟨[]⟩,[],[],[],[],0⟩:aa)) e) (oC b1) (Cm.bind (IC n.Kinds b2 b3) (mM (fun L R=>(⟨n.Op,L,R,n.Table,n.Kinds,false,⟨[]⟩,[],[],[],[],0⟩:aa)) hp))
  rw [p6,<-en]at q
  exact q.eq (by simp [DO,Y])
 have t1:=o1 (by omega) (by omega)
 rw [aQ (by simpa using Y)]
 by_cases X:n.Op=2
 ·rw [bh (by simpa using X)]
  have e3:=h.cond (.inl X)
  obtain⟨e4,e5⟩:=o4 (by omega) (by omega) (by omega)
  have e6:=o5 (by omega)
  obtain⟨e7,e8⟩:=o6 (by omega)
  have en:n=⟨n.Op,n.A,n.B,0,[],n.Left,n.Cond,[],[],[],[],0⟩:=by
   obtain⟨x,A,B,T,hg,Lf,C,Ks,Ag,It,Or,Li⟩:=n;simp only at t1 e4 e5 e6 e7 e8;rw [t1.1,t1.2,e4,e5,e6,e7,e8]
  have hp0:(prt n.Op).toNat=2:=by rw [X];rfl
  rw [hp0]at hp
  have q:=Cm.bind (l:=[fB n.Left]) (q:=fun f=>cZ zr fun c=>kq 2 (fun L R=>(⟨n.Op,L,R,0,[],f,c,[],[],[],[],0⟩:aa)) e) (A6 n.Left) (Cm.bind (A8 e3 hr.cond) (mM (fun L R=>(⟨n.Op,L,R,0,[],n.Left,n.Cond,[],[],[],[],0⟩:aa)) hp))
  rw [p6,<-en]at q
  exact q.eq (by simp [DO,X])
 have t2:=o2 X
 rw [aQ (by simpa using X)]
 by_cases d:n.Op=3
 ·rw [bh (by simpa using d)]
  have e3:=h.cond (.inr d)
  obtain⟨e4,e5⟩:=o4 (by omega) (by omega) (by omega)
  have e6:=o5 (by omega)
  obtain⟨e7,e8⟩:=o6 (by omega)
  have en:n=⟨n.Op,n.A,n.B,0,[],false,n.Cond,[],[],[],[],0⟩:=by
   obtain⟨x,A,B,T,hg,Lf,C,Ks,Ag,It,Or,Li⟩:=n;simp only at t1 t2 e4 e5 e6 e7 e8;rw [t1.1,t1.2,t2,e4,e5,e6,e7,e8]
  have hp0:(prt n.Op).toNat=1:=by rw [d];rfl
  rw [hp0]at hp
  have q:=Cm.bind (q:=fun c=>kq 1 (fun L R=>(⟨n.Op,L,R,0,[],false,c,[],[],[],[],0⟩:aa)) e) (A8 e3 hr.cond) (mM (fun L R=>(⟨n.Op,L,R,0,[],false,n.Cond,[],[],[],[],0⟩:aa)) hp)
  rw [p6,<-en]at q
  exact q.eq (by simp [DO,d])
 have t3:=o3 X d
 rw [aQ (by simpa using d)]
 by_cases h4:n.Op=4\/n.Op=10\/n.Op=11
 ·rw [bh (by simpa [or_assoc] using h4)]
  obtain⟨b1,b2,b3,b4⟩:=h.grp h4
  have e6:=o5 (by omega)
  obtain⟨e7,e8⟩:=o6 (by omega)
  have en:n=⟨n.Op,n.A,n.B,0,[],false,⟨[]⟩,n.Keys,n.Aggs,[],[],0⟩:=by
   obtain⟨x,A,B,T,hg,Lf,C,Ks,Ag,It,Or,Li⟩:=n;simp only at t1 t2 t3 e6 e7 e8;rw [t1.1,t1.2,t2,t3,e6,e7,e8]
  have hp0:(prt n.Op).toNat=1:=by rcases h4 with Y|Y|Y<;>rw [Y]<;>rfl
  rw [hp0]at hp
  have q:=Cm.bind (q:=fun ks=>cZ (Kt Qr) fun a=>kq 1 (fun L R=>(⟨n.Op,L,R,0,[],false,⟨[]⟩,ks,a,[],[],0⟩:aa)) e) (IC n.Keys b1 b2) (Cm.bind (A9 n.Aggs b3 fun a ha=>ZN (b4 a ha) (hr.arg a ha)) (mM (fun L R=>(⟨n.Op,L,R,0,[],false,⟨[]⟩,n.Keys,n.Aggs,[],[],0⟩:aa)) hp))
  rw [p6,<-en]at q
  exact q.eq (by rcases h4 with h4|h4|h4<;>simp [DO,h4])
 have t4:=o4 (by omega) (by omega) (by omega)
 rw [aQ (by simpa [or_assoc] using h4)]
 by_cases h5:n.Op=5
 ·rw [bh (by simpa using h5)]
  obtain⟨b1,b2⟩:=h.prj h5
  obtain⟨e7,e8⟩:=o6 (by omega)
  have en:n=⟨n.Op,n.A,n.B,0,[],false,⟨[]⟩,[],[],n.Items,[],0⟩:=by
   obtain⟨x,A,B,T,hg,Lf,C,Ks,Ag,It,Or,Li⟩:=n;simp only at t1 t2 t3 t4 e7 e8;rw [t1.1,t1.2,t2,t3,t4.1,t4.2,e7,e8]
  have hp0:(prt n.Op).toNat=1:=by rw [h5];rfl
  rw [hp0]at hp
  have q:=Cm.bind (q:=fun a=>kq 1 (fun L R=>(⟨n.Op,L,R,0,[],false,⟨[]⟩,[],[],a,[],0⟩:aa)) e) (A9 n.Items b1 fun a ha=>A8 (b2 a ha) (hr.item a ha)) (mM (fun L R=>(⟨n.Op,L,R,0,[],false,⟨[]⟩,[],[],n.Items,[],0⟩:aa)) hp)
  rw [p6,<-en]at q
  exact q.eq (by simp [DO,h5])
 have t5:=o5 h5
 rw [aQ (by simpa using h5)]
 by_cases h8:n.Op=8
 ·rw [bh (by simpa using h8)]
  obtain⟨b1,b2,b3,b4⟩:=h.srt h8
  have el:IM (n.Limit+1)=n.Limit:=by unfold IM;rw [rl,rl];omega
  have en:n=⟨n.Op,n.A,n.B,0,[],false,⟨[]⟩,[],[],[],n.Order,IM (n.Limit+1)⟩:=by
   rw [el]
   obtain⟨x,A,B,T,hg,Lf,C,Ks,Ag,It,Or,Li⟩:=n;simp only at t1 t2 t3 t4 t5;rw [t1.1,t1.2,t2,t3,t4.1,t4.2,t5]
  have hp0:(prt n.Op).toNat=1:=by rw [h8];rfl
  rw [hp0]at hp
  have eb:KQ n=eX (n.Limit+1) 4:=by
   unfold KQ
   have:IntKind.u64.wrap (IntKind.i64.wrap (n.Limit+1))=n.Limit+1:=by rw [xd,rl];omega
   rw [this]
  have q:=Cm.bind (q:=fun a=>cZ X7 fun l=>kq 1 (fun L R=>(⟨n.Op,L,R,0,[],false,⟨[]⟩,[],[],[],a,IM l⟩:aa)) e) (A9 n.Order b1 fun o ho=>Yb (b2 o ho)) (Cm.bind (Sx (x:=n.Limit+1) (by omega) (by omega)) (mM (fun L R=>(⟨n.Op,L,R,0,[],false,⟨[]⟩,[],[],[],n.Order,IM (n.Limit+1)⟩:aa)) hp))
  rw [p6,<-en,<-eb]at q
  exact q.eq (by simp [DO,h8])
 obtain⟨e7,e8⟩:=o6 h8
 rw [aQ (by simpa using h8)]
 have en:n=⟨n.Op,n.A,n.B,0,[],false,⟨[]⟩,[],[],[],[],0⟩:=by
  obtain⟨x,A,B,T,hg,Lf,C,Ks,Ag,It,Or,Li⟩:=n;simp only at t1 t2 t3 t4 t5 e7 e8;rw [t1.1,t1.2,t2,t3,t4.1,t4.2,t5,e7,e8]
 have ec:DO n=[]:=by
  unfold DO
  rw [aQ Y,aQ X,aQ d,aQ h4,aQ h5,aQ h8]
 rw [ec]
 by_cases h7:n.Op=7
 ·rw [bh (by simpa using h7)]
  have hp0:(prt n.Op).toNat=2:=by rw [h7];rfl
  rw [hp0]at hp
  have q:=mM (fun L R=>(⟨n.Op,L,R,0,[],false,⟨[]⟩,[],[],[],[],0⟩:aa)) hp
  rw [<-en]at q
  exact q
 ·rw [aQ (by simpa using h7)]
  have hp0:(prt n.Op).toNat=1:=by rw [show n.Op=6 by omega];rfl
  rw [hp0]at hp
  have q:=mM (fun L R=>(⟨n.Op,L,R,0,[],false,⟨[]⟩,[],[],[],[],0⟩:aa)) hp
  rw [<-en]at q
  exact q
def Sj{op:Int}(h:0<=prt op):fO op:=by
 unfold fO
 rcases yO h with h8|h9|h9|h9
 ·have:=nA h8;omega
 all_goals omega
def So{n:aa}(h:GN n)(hr:ZX n){e:List Int×Int}{t:List Int}(hp:u9 (prt n.Op).toNat e.1=some (n.A,n.B,t)):CmE Kk e (Do n) n (t++[e.2],e.2+1):=
 Cm.bind (l:=[IntKind.u8.wrap n.Op]) (q:=fun x=>z1 x e) (oC (Sj h.prt)) (Qq h hr hp)
def U1{n:aa}{st:List Int}(h:Ur n st):u9 (prt n.Op).toNat st.reverse=some (n.A,n.B,(st.drop (prt n.Op).toNat).reverse):=by
 rcases h with⟨Y,X,d⟩|⟨Y,X,r,rfl⟩|⟨Y,r,rfl⟩
 ·rw [Y,X,d];rfl
 ·rw [Y,X]
  show u9 1 _=some (n.A,-1,r.reverse)
  simp [u9]
 ·rw [Y]
  show u9 2 _=some (n.A,n.B,r.reverse)
  simp [u9,List.dropLast_append_of_ne_nil]
def ER: ∀(ns:List aa) (i:Nat) (st:List Int),Z5 ns i st->(∀n∈ns,ZX n)-> ∃e',NR Kk ns.length (st.reverse,(i:Int)) (ns.flatMap Do) ns e'
 |[],_,_,_,_=>⟨_,NR.nil⟩
 |n::ns,i,st,⟨Y,X,d⟩,hr=>by
  obtain⟨e',q⟩:=ER ns (i+1) _ d fun m hm=>hr m (pK _ hm)
  have q1:=NR.one (So X (hr n (nM ..)) (e:=(st.reverse,(i:Int))) (U1 Y))
  refine⟨e',?_⟩
  rw [List.reverse_cons]at q
  have:=q1.app q rfl
  rw [Nat.add_comm 1]at this
  rw [Az]
  exact this
structure Xc(f:dp):Prop where
 at_:fO f.At
 way:fO f.Way
 cols:f.Cols.length<=255/\ ∀c∈f.Cols,fO c
 len:f.Nodes.length<=255
 ns:Z5 f.Nodes 0 []
def Su{f:dp}(h:Xc f)(hr: ∀n∈f.Nodes,ZX n):Cm Kr (Un f) f:=by
 obtain⟨e',q⟩:=ER f.Nodes 0 [] h.ns hr
 have q1:Cm (A3 (f.Nodes.length:Int)) (f.Nodes.flatMap Do) f.Nodes:=fun r=>by
  unfold A3
  have:=q r
  rw [uY]
  rw [show(([]:List Int).reverse,((0:Nat):Int))=(([]:List Int),(0:Int))from rfl]at this
  rw [this];rfl
 have hl:=h.len
 have:=Cm.bind (l:=[IntKind.u8.wrap f.At]) (q:=fun a=>cZ p8 fun w=>cZ Kj fun cs=>cZ p8 fun n=>kW (fun ns=>dp.mk ns a w cs) (A3 n)) (oC h.at_)
  (Cm.bind (l:=[IntKind.u8.wrap f.Way]) (oC h.way) (Cm.bind (IC f.Cols h.cols.1 h.cols.2) (Cm.bind (l:=[IntKind.u8.wrap (f.Nodes.length:Int)]) (oC (x:=(f.Nodes.length:Int)) ⟨by omega,by omega⟩) (q1.map fun ns=>dp.mk ns f.At f.Way f.Cols))))
 exact this.eq (by simp [Un])
def Vm{ns:List aa}(hs:mz ns)(h:Vn ns=true):ns.length<=60/\Z5 ns 0 []:=by
 unfold Vn at h
 cases hk:iM ns with
 |none=>rw [hk]at h;cases h
 |some r=>
  obtain⟨out,w,e⟩:=r
  rw [hk]at h
  have he:e=0:=by simpa using h
  subst he
  exact(Ra hs hk).2
def M5{f:dp}(hs:mz f.Nodes)(h:C1 f=true):Xc f:=by
 unfold C1 at h
 simp only [ly,y7,oY,ig,Df]at h
 obtain⟨⟨Y,X⟩,⟨d,h4⟩,h5⟩:=h
 obtain⟨g1,g2⟩:=Vm hs Y
 refine⟨by unfold fO;omega,by unfold fO;omega,⟨by omega,fun c hc=>?_⟩,by omega,g2⟩
 have:=JC.1 h5 c hc
 simp [QW]at this
 unfold fO
 omega
def Sl{p:cV}(hs: ∀f∈p.Frags,mz f.Nodes)(h:zu p=true)(hr:rgP p):Cm Ki (WT p) p:=by
 unfold zu at h
 simp only [ly,ig,kU]at h
 obtain⟨⟨Y,X⟩,d⟩:=h
 exact(A9 p.Frags (by omega) fun f hf=>Su (M5 (hs f hf) (d f hf)) (hr f hf)).map cV.mk
end Go.Proofs.YtdohlidddcgfjaaGreat


/- bS of this claim: H21. -/
set_option linter.all false
namespace Go.Proofs.YtdohlidddcgfjaaGreat
open Go

section
variable{b:List Int}
def OF{α:Type}{f:cE->af->Option (α×cE×af)}{p:Pr α}(hf:Rd b f p)(N:Int)(hN:N<=65535){L:Nat->List α->Int->cE->af->Option (List α×cE×af)}
  (hL: ∀fu out x r o,L (fu+1) out x r o=if decide (x<N)=true then(ef r o).bind fun c=>if c=true then(f r o).bind fun u=>(app out [u.1]).bind fun out2=>L fu out2 (IntKind.i64.wrap (x+1)) u.2.1 u.2.2 else some (out,r,o)else some (out,r,o)):
  Rd b (fun r o=>L fq [] 0 r o) (pl p N.toNat):=by
 have h:=Bj hf.toE (fun _ _ _=>ML) (fun _ _=>MM) N hN () trivial (L:=fun fu out x r o _=>(L fu out x r o).map fun q=>(q.1,q.2.1,q.2.2,())) (by
  intro fu out x r o e
  cases e
  simp only [hL]
  by_cases V:decide (x<N)=true
  ·simp only [V,jR]
   cases ef r o with
   |none=>rfl
   |some c=>
    cases c with
    |false=>rfl
    |true=>
     simp only [bf,sI,oj,lI,jR]
     cases f r o with
     |none=>rfl
     |some q=>
      simp only [bf,pM]
      cases app out [q.1]<;>rfl
  ·simp only [V];rfl)
 have e:(fun l=>(m1 (fun(_:Unit) l=>(p l).map fun u=>((u.1,()),u.2)) N.toNat () l).map fun u=>(u.1.1,u.2))=pl p N.toNat:=funext fun l=>DA p N.toNat l
 rw [e]at h
 refine h.congr fun r o=>?_
 cases L fq [] 0 r o<;>rfl
end
def Kh:Pr (List am):=cZ p8 fun n=>cZ (sE (decide (n<=16))) fun _=>pl pv n.toNat
def uB:Pr (List (List am)):=cZ p16 fun n=>cZ (sE (decide (n<=400))) fun _=>pl Kh n.toNat
def RK{ρ:Type}{r r' :ρ}{o o' :af}{x:Int}(h:RL r o=some (x,r',o')):fO x:=by
 unfold RL at h
 cases hq:cj o with
 |none=>rw [hq]at h;cases h
 |some q=>
  rw [hq]at h
  cases h
  unfold cj at hq
  cases hw:ck o 1 with
  |none=>rw [hw]at hq;cases hq
  |some w=>
   rw [hw]at hq
   cases hq
   unfold fO
   rw [BW,rl]
   omega
section
variable{b:List Int}(H:b.length<=900000000)(hby:nj b)
include H hby
def UD(N:Int)(hN:N<=65535):Rd b (fun t o=>fU t o N) (pl pv N.toNat):=
 OF (JT H hby) N hN (L:=iD N) fun _ _ _ _ _=>rfl
def X3:Rd b pX Kh:=by
 have:=vP (g:=fun n t o=>(vC (decide (n<=16)) t o).bind fun u=>fU u.2.1 u.2.2 n) fO (fun _ _ _ _ _=>RK) (N8 (ρ:=cE) H hby) fun n hn=>Rd.bind (g:=fun _ t o=>fU t o n) (Bf _) fun _=>UD H hby n (by unfold fO at hn;omega)
 refine this.congr fun t o=>?_
 unfold pX RL vC
 cases cj o with
 |none=>rfl
 |some q=>
  simp only [bf,pM]
  cases cH t q.2 (decide (IntKind.i64.wrap q.1<=16))with
  |none=>rfl
  |some t1=>
   simp only [bf,pM]
   cases fU t1 q.2 (IntKind.i64.wrap q.1)<;>rfl
def UR(N:Int)(hN:N<=65535):Rd b (fun t o=>gL t o N) (pl Kh N.toNat):=
 OF (X3 H hby) N hN (L:=jk N) fun _ _ _ _ _=>rfl
def Vi:Rd b py uB:=by
 have:=vP (g:=fun n t o=>(vC (decide (n<=400)) t o).bind fun u=>gL u.2.1 u.2.2 n) RD (fun _ _ _ _ _=>JW) (RO (ρ:=cE) H hby) fun n hn=>Rd.bind (g:=fun _ t o=>gL t o n) (Bf _) fun _=>UR H hby n hn.2
 refine this.congr fun t o=>?_
 unfold py PL vC
 cases iy o with
 |none=>rfl
 |some q=>
  simp only [bf,pM]
  cases cH t q.2 (decide (IntKind.i64.wrap q.1<=400))with
  |none=>rfl
  |some t1=>
   simp only [bf,pM]
   cases gL t1 q.2 (IntKind.i64.wrap q.1)<;>rfl
end
def Mg{l:List Int}(hl:l.length<=900000000){v:List (List am)}{t:cE}{o:af}(h:LV l (uB l) v t o): ∃q,my t o v=some q/\LB l uB q:=by
 unfold LV at h
 unfold LB my
 cases hp:uB l with
 |none=>
  rw [hp]at h
  obtain⟨_,k,y,rfl,X,d⟩:=h
  have d:t.bad=true\/y≠0:=d
  cases H:t.bad with
  |true=>exact⟨_,rfl,show(160:Int)≠0 by decide⟩
  |false=>
   have hy:y≠0:=by rcases d with h|h;rw [H]at h;cases h;exact h
   rw [aQ (by simp),vh,bf,bh (by simpa using hy),bf]
   exact⟨_,rfl,hy⟩
 |some w=>
  rw [hp]at h
  obtain⟨rfl,k,⟨g1,g2,rfl,g4⟩,g5⟩:=h
  have g1:t.all=(l.length:Int):=g1
  have g2:t.bad=false:=g2
  rw [g2,aQ (by simp),vh,bf,aQ (by simp),y4 0 g4 (by omega),bf]
  refine⟨_,rfl,k,g4,?_,g5.symm⟩
  rw [g1,rl]
  have:(l.length:Int)-((l.length-k:Nat):Int)=(k:Int):=by omega
  rw [this]
  have:((k:Int)+9223372036854775808)%18446744073709551616-9223372036854775808=(k:Int):=by omega
  simp [this]
def zC{l:List Int}(hl:l.length<=900000000)(hby:nj l): ∃q,mV l=some q/\LB l uB q:=by
 unfold mV
 rw [zA hl,bf]
 obtain⟨v,t,o,Y,X⟩:=(Vi hl hby).ok 0 ⟨rj,(l.length:Int),false⟩ (rd l 0 0) ⟨rfl,rfl,rfl,by omega⟩
 rw [Y,bf]
 obtain⟨q,d,h4⟩:=Mg hl X
 rw [d]
 exact⟨q,rfl,h4⟩
def IS(r:aK)(o:af):Option (List (List am)×aK×af):=(iQ r o).bind fun l=>(mV l).bind fun q=>(ge r o q.2.1 q.2.2).bind fun ae=>some (q.1,ae.1,ae.2)
def Tg{b:List Int}(H:b.length<=900000000)(hby:nj b):Rd b IS uB:=by
 refine⟨fun k r o hk=>?_,fun r o hn=>?_⟩
 ·obtain⟨Y,X,rfl,h4⟩:=hk
  obtain⟨q,g1,g2⟩:=zC (l:=b.drop k) (by simp;omega) (vL hby k)
  obtain⟨r',o',g3,g4⟩:=(Du H g2).1 r ⟨Y,X,rfl,h4⟩
  unfold IS
  rw [Dx H Y 0 h4,bf,g1,bf,g3]
  exact⟨_,_,_,rfl,g4⟩
 ·have hn' :=hn
  obtain⟨Y,k,y,rfl,h4,h5⟩:=hn
  obtain⟨q,g1,g2⟩:=zC (l:=b.drop k) (by simp;omega) (vL hby k)
  obtain⟨r',o',g3,g4⟩:=(Du H g2).2 r y h4 hn' h5
  unfold IS
  rw [Dx H Y y h4,bf,g1,bf,g3]
  exact⟨_,_,_,rfl,g4⟩
def CA{ρ:Type} [Jm ρ]{b:List Int}{α:Type}{f g:ρ->af->Option (α×ρ×af)}{p q:Pr α}(c:Bool)(hf:Rd b f p)(K:Rd b g q):Rd b (fun r o=>if c=true then f r o else g r o) (if c=true then p else q):=by
 cases c with
 |true=>exact hf
 |false=>exact K
def MF(kind:Int):Pr aI:=cZ X7 fun ae=>cZ (pw 8) fun q=>
 if(kind==2)=true then kW (fun l=>(⟨kind,ae,q,l,⟨[],false,0⟩⟩:aI)) (pw 8)
 else cZ tR fun e=>if e=true then kW (fun c=>(⟨kind,ae,q,0,⟨[],e,c⟩⟩:aI)) (pw 8)else kW (fun l=>(⟨kind,ae,q,0,⟨l,e,0⟩⟩:aI)) uB
def G8{b:List Int}(H:b.length<=900000000)(hby:nj b)(kind:Int):Rd b (fun r o=>kD r o kind) (MF kind):=by
 have h64:=Ic (ρ:=aK) H hby
 have:=(RM (ρ:=aK) H hby).bind fun ae=>h64.bind fun q=>CA (kind==2) (h64.map fun l=>(⟨kind,ae,q,l,⟨[],false,0⟩⟩:aI))
  ((DG H hby).bind fun e=>CA e (h64.map fun c=>(⟨kind,ae,q,0,⟨[],e,c⟩⟩:aI)) ((Jn (fun _ _ _=>He) (fun _ _=>Hf) [] (Tg H hby)).map fun l=>(⟨kind,ae,q,0,⟨l,e,0⟩⟩:aI)))
 refine this.congr fun r o=>?_
 unfold kD RN Id CQ IS kL
 cases kX o with
 |none=>rfl
 |some x=>
  simp only [bf,pM]
  cases dC x.2 with
  |none=>rfl
  |some y=>
   simp only [bf,pM]
   by_cases hk:(kind==2)=true
   ·simp only [hk,jR]
    cases dC y.2<;>rfl
   ·simp only [hk,lI,oj]
    cases hf:fj r y.2 with
    |none=>rfl
    |some e=>
     obtain⟨e,r1,o1⟩:=e
     simp only [bf]
     cases e with
     |true=>
      simp only [jR]
      cases dC o1<;>rfl
     |false=>
      simp only [oj,lI]
      cases dd r1 o1 with
      |none=>rfl
      |some c=>
       cases c with
       |false=>rfl
       |true=>
        simp only [bf,jR]
        cases iQ r1 o1 with
        |none=>rfl
        |some l=>
         simp only [bf]
         cases mV l with
         |none=>rfl
         |some q=>
          simp only [bf]
          cases ge r1 o1 q.2.1 q.2.2<;>rfl
abbrev Rj:aI:=⟨0,0,0,0,⟨[],false,0⟩⟩
def wj(k f t e:Int):Pr bT:=
 if(k==1)=true then cZ p8 fun ae=>kW (fun p=>(⟨k,f,t,e,0,ae,p,Rj,0⟩:bT)) Ki
 else if(k==3)=true then cZ p8 fun g=>kW (fun p=>(⟨k,f,t,e,g,0,⟨[]⟩,p,0⟩:bT)) (MF 1)
 else if(k==4)=true then cZ p8 fun g=>kW (fun p=>(⟨k,f,t,e,g,0,⟨[]⟩,p,0⟩:bT)) (MF 2)
 else if(k==5)=true then kW (fun c:Bool=>(⟨k,f,t,e,0,0,⟨[]⟩,Rj,if c=true then 300 else 140⟩:bT)) tR
 else fun l=>some (⟨k,f,t,e,0,0,⟨[]⟩,Rj,0⟩,l)
def Kl:Pr bT:=cZ p8 fun k=>cZ p8 fun f=>cZ p8 fun t=>cZ p8 fun e=>wj k f t e
def MU{b:List Int}(H:b.length<=900000000)(hby:nj b):Rd b lQ Kl:=by
  have hs:=oo H hby
  have:=hs.bind fun k=>hs.bind fun f=>hs.bind fun t=>hs.bind fun e=>CA (k==1) (hs.bind fun ae=>(U4 H hby).map fun p=>(⟨k,f,t,e,0,ae,p,Rj,0⟩:bT))
    (CA (k==3) (hs.bind fun g=>(G8 H hby 1).map fun p=>(⟨k,f,t,e,g,0,⟨[]⟩,p,0⟩:bT))
    (CA (k==4) (hs.bind fun g=>(G8 H hby 2).map fun p=>(⟨k,f,t,e,g,0,⟨[]⟩,p,0⟩:bT))
    (CA (k==5) ((DG H hby).map fun c=>(⟨k,f,t,e,0,0,⟨[]⟩,Rj,if c=true then 300 else 140⟩:bT))
      (Jo (⟨k,f,t,e,0,0,⟨[]⟩,Rj,0⟩:bT)))))
  refine this.congr fun r o=>?_
  unfold lQ lW
  cases aP r o with
  |none=>rfl
  |some k=>
  simp only [bf,pM]
  cases aP r k.2 with
  |none=>rfl
  |some f=>
  simp only [bf,pM]
  cases aP r f.2 with
  |none=>rfl
  |some t=>
  simp only [bf,pM]
  cases aP r t.2 with
  |none=>rfl
  |some e=>
  simp only [bf,pM]
  by_cases Y:(k.1==1)=true
  · simp only [Y,jR]
    cases aP r e.2 with
    |none=>rfl
    |some ae=>
      simp only [bf,pM]
  simp only [Y,lI,oj]
  by_cases d:(k.1==3)=true
  · simp only [d,jR]
    cases aP r e.2 with
    |none=>rfl
    |some ae=>
      simp only [bf,pM]
  simp only [d,lI,oj]
  by_cases h4:(k.1==4)=true
  · simp only [h4,jR]
    cases aP r e.2 with
    |none=>rfl
    |some ae=>
      simp only [bf,pM]
  simp only [h4,lI,oj]
  by_cases h5:(k.1==5)=true
  · simp only [h5,jR]
    cases fj r e.2 with
    |none=>rfl
    |some c=>
      simp only [bf]
      cases c.1<;>rfl
  · simp only [h5,lI,oj]
end Go.Proofs.YtdohlidddcgfjaaGreat


/- bS of this claim: H22. -/
set_option linter.all false
namespace Go.Proofs.YtdohlidddcgfjaaGreat
open Go

def rgR(r:List am):Prop:= ∀v∈r,US v
def X5(l:List (List am)):Prop:= ∀r∈l,rgR r
def EH{r:List am}(h:qc r=true):r.length<=16/\ ∀v∈r,gu v=true:=by
 unfold qc at h
 simp only [ly,ig,kU]at h
 exact h
def UX{r:List am}(h:qc r=true)(hr:rgR r):Cm Kh (WO r) r:=by
 obtain⟨Y,X⟩:=EH h
 have q:=Oq (p:=pv) (enc:=vB) r fun v hv=>WS (X v hv) (hr v hv)
 have q2:Cm (cZ (sE (decide ((r.length:Int)<=16))) fun _=>pl pv ((r.length:Int)).toNat) ([]++r.flatMap vB) r:=Cm.bind (Cm.need (by rw [ig];omega)) (by rw [uY];exact q)
 exact Cm.bind (l:=[IntKind.u8.wrap (r.length:Int)]) (q:=fun n=>cZ (sE (decide (n<=16))) fun _=>pl pv n.toNat) (oC ⟨by omega,by omega⟩) q2
def Qh{r:List am}(h:qc r=true):Qi r=(WO r,0):=by
 obtain⟨Y,X⟩:=EH h
 unfold Qi
 rw [aQ (by omega),bh (kU.2 X)]
def Hj: ∀(l:List (List am)) (i:Nat) (b:List Int),(∀r∈l,qc r=true)->Rl l i b=(b++l.flatMap WO,0,0)
 |[],i,b,_=>by simp [Rl]
 |r::l,i,b,h=>by
  unfold Rl
  rw [Qh (h r (nM ..)),bh rfl,Hj l (i+1) _ fun x V=>h x (pK _ V),Az,hZ]
def QD{l:List (List am)}(h: ∀r∈l,qc r=true):Um l=(eX (l.length:Int) 2++l.flatMap WO,0,0):=Hj l 0 _ h
def Sq{l:List (List am)}(hl:l.length<=400)(h: ∀r∈l,qc r=true)(hr:X5 l):Cm uB (Um l).1 l:=by
 rw [QD h]
 have q:=Oq (p:=Kh) (enc:=WO) l fun r V=>UX (h r V) (hr r V)
 have q2:Cm (cZ (sE (decide ((l.length:Int)<=400))) fun _=>pl Kh ((l.length:Int)).toNat) ([]++l.flatMap WO) l:=Cm.bind (Cm.need (by rw [ig];omega)) (by rw [uY];exact q)
 exact Cm.bind (q:=fun n=>cZ (sE (decide (n<=400))) fun _=>pl Kh n.toNat) (SA ⟨by omega,by omega⟩) q2
def U7{p:aI}(h:uD p=true)(hr:X5 p.Batch.Rows):Cm (MF p.Kind) (if p.Kind=2 then Q0 p else Hv p) p:=by
 unfold uD at h
 rw [ly]at h
 obtain⟨Y,X⟩:=h
 simp only [ly,ig]at Y
 have hw:IntKind.u64.wrap p.Session=p.Session:=by rw [xd];omega
 have s1:Cm X7 (eX (IntKind.u64.wrap p.Session) 4) p.Session:=by rw [hw];exact Sx (by omega) (by omega)
 by_cases k1:p.Kind=1
 ·rw [bh k1]at X
  simp only [ly,oY]at X
  obtain⟨hlim,H⟩:=X
  unfold Jk at H
  split at H
  ·cases H
  rename_i hq
  simp only [y7,ig,not_or]at hq
  have s2:Cm (pw 8) (eX p.Seq 8) p.Seq:=zp 8 (by omega) (show p.Seq<(18446744073709551616:Int) by omega)
  rw [aQ (by omega)]
  have s3:Cm (if p.Batch.End=true then kW (fun c=>(⟨p.Kind,p.Session,p.Seq,0,⟨[],p.Batch.End,c⟩⟩:aI)) (pw 8)else kW (fun l=>(⟨p.Kind,p.Session,p.Seq,0,⟨l,p.Batch.End,0⟩⟩:aI)) uB) (if p.Batch.End then eX p.Batch.Count 8 else(Um p.Batch.Rows).1) p:=by
   cases he:p.Batch.End with
   |true=>
    rw [he,bh rfl]at H
    simp only [ly,oY]at H
    have hc:0<=p.Batch.Count/\p.Batch.Count<18446744073709551616:=by rw [H.2,xd];omega
    have hrows:p.Batch.Rows=[]:=sd (by omega)
    have ep:p=⟨p.Kind,p.Session,p.Seq,0,⟨[],true,p.Batch.Count⟩⟩:=by
     obtain⟨k,ae,q,l,⟨r,e,c⟩⟩:=p;simp only at hlim hrows he;rw [hlim,hrows,he]
    rw [bh rfl,bh rfl]
    have:=(zp 8 hc.1 (show p.Batch.Count<(18446744073709551616:Int) by omega)).map (fun c=>(⟨p.Kind,p.Session,p.Seq,0,⟨[],true,c⟩⟩:aI))
    rw [<-ep]at this
    exact this
   |false=>
    rw [he,aQ (by simp)]at H
    simp only [ly,oY]at H
    obtain⟨hc,hrows⟩:=H
    unfold Dv at hrows
    simp only [ly,ig,kU]at hrows
    have ep:p=⟨p.Kind,p.Session,p.Seq,0,⟨p.Batch.Rows,false,0⟩⟩:=by
     obtain⟨k,ae,q,l,⟨r,e,c⟩⟩:=p;simp only at hlim hc he;rw [hlim,hc,he]
    rw [aQ (by simp),aQ (by simp)]
    have:=(Sq (by omega) hrows.2 hr).map (fun l=>(⟨p.Kind,p.Session,p.Seq,0,⟨l,false,0⟩⟩:aI))
    rw [<-ep]at this
    exact this
  have s4:Cm (if(p.Kind==2)=true then kW (fun l=>(⟨p.Kind,p.Session,p.Seq,l,⟨[],false,0⟩⟩:aI)) (pw 8)else cZ tR fun e=>if e=true then kW (fun c=>(⟨p.Kind,p.Session,p.Seq,0,⟨[],e,c⟩⟩:aI)) (pw 8)else kW (fun l=>(⟨p.Kind,p.Session,p.Seq,0,⟨l,e,0⟩⟩:aI)) uB) ([fB p.Batch.End]++(if p.Batch.End then eX p.Batch.Count 8 else(Um p.Batch.Rows).1)) p:=by
   rw [aQ (by simp [k1])]
   exact Cm.bind (A6 p.Batch.End) s3
  have:=Cm.bind (q:=fun ae=>cZ (pw 8) fun q=>if(p.Kind==2)=true then kW (fun l=>(⟨p.Kind,ae,q,l,⟨[],false,0⟩⟩:aI)) (pw 8)else cZ tR fun e=>if e=true then kW (fun c=>(⟨p.Kind,ae,q,0,⟨[],e,c⟩⟩:aI)) (pw 8)else kW (fun l=>(⟨p.Kind,ae,q,0,⟨l,e,0⟩⟩:aI)) uB) s1 (Cm.bind s2 s4)
  exact this.eq (by simp [Hv])
 ·rw [aQ k1]at X
  by_cases k2:p.Kind=2
  ·rw [bh k2]at X
   simp only [ly,oY,ig,Df]at X
   obtain⟨⟨⟨⟨⟨⟨b1,b2⟩,b3⟩,b4⟩,b5⟩,b6⟩,b7⟩:=X
   have hl0:0<=p.Limit:=by rw [xd]at b6;omega
   have hrows:p.Batch.Rows=[]:=sd (by omega)
   have ep:p=⟨p.Kind,p.Session,p.Seq,p.Limit,⟨[],false,0⟩⟩:=by
    obtain⟨k,ae,q,l,⟨r,e,c⟩⟩:=p;simp only at hrows b2 b3;rw [hrows,b2,b3]
   rw [bh k2]
   have s2:Cm (pw 8) (eX p.Seq 8) p.Seq:=zp 8 (by omega) (show p.Seq<(18446744073709551616:Int) by omega)
   have s3:=(zp 8 hl0 (show p.Limit<(18446744073709551616:Int) by omega)).map (fun l=>(⟨p.Kind,p.Session,p.Seq,l,⟨[],false,0⟩⟩:aI))
   rw [<-ep]at s3
   have s4:Cm (if(p.Kind==2)=true then kW (fun l=>(⟨p.Kind,p.Session,p.Seq,l,⟨[],false,0⟩⟩:aI)) (pw 8)else cZ tR fun e=>if e=true then kW (fun c=>(⟨p.Kind,p.Session,p.Seq,0,⟨[],e,c⟩⟩:aI)) (pw 8)else kW (fun l=>(⟨p.Kind,p.Session,p.Seq,0,⟨l,e,0⟩⟩:aI)) uB) (eX p.Limit 8) p:=by
    rw [bh (by simp [k2])]
    exact s3
   have:=Cm.bind (q:=fun ae=>cZ (pw 8) fun q=>if(p.Kind==2)=true then kW (fun l=>(⟨p.Kind,ae,q,l,⟨[],false,0⟩⟩:aI)) (pw 8)else cZ tR fun e=>if e=true then kW (fun c=>(⟨p.Kind,ae,q,0,⟨[],e,c⟩⟩:aI)) (pw 8)else kW (fun l=>(⟨p.Kind,ae,q,0,⟨l,e,0⟩⟩:aI)) uB) s1 (Cm.bind s2 s4)
   exact this.eq (by simp [Q0])
  ·rw [aQ k2]at X;cases X
structure ZW(m:bT):Prop where
 p:rgP m.Plan
 r:X5 m.Packet.Batch.Rows
def U3{m:bT}(hs: ∀f∈m.Plan.Frags,mz f.Nodes)(h:qN m=true)(hr:ZW m):Cm Kl (vc m) m:=by
 unfold qN at h
 rw [ly]at h
 obtain⟨h0,h⟩:=h
 unfold Yu KM at h0
 simp only [ly,ig]at h0
 have wrapup: ∀l,fO m.Kind->Cm (wj m.Kind m.From m.To m.Epoch) l m->Cm Kl (Xa m++l) m:=fun l hk H=>by
  have:=Cm.bind (l:=[IntKind.u8.wrap m.Kind]) (q:=fun k=>cZ p8 fun f=>cZ p8 fun t=>cZ p8 fun e=>wj k f t e) (oC hk) (Cm.bind (l:=[IntKind.u8.wrap m.From]) (oC (x:=m.From) ⟨by omega,by omega⟩) (Cm.bind (l:=[IntKind.u8.wrap m.To]) (oC (x:=m.To) ⟨by omega,by omega⟩) (Cm.bind (l:=[IntKind.u8.wrap m.Epoch]) (oC (x:=m.Epoch) ⟨by omega,by omega⟩) H)))
  exact this.eq (by simp [Xa,tF])
 unfold vc
 unfold fO at wrapup
 by_cases k1:m.Kind=1
 ·rw [bh k1]at h ⊢
  simp only [ly,ig]at h
  obtain⟨⟨⟨Y,X⟩,hl⟩,d,h4,h5⟩:=h
  have em:m=⟨m.Kind,m.From,m.To,m.Epoch,0,m.Sites,m.Plan,Rj,0⟩:=by
   obtain⟨a,b,c,h3,e,f,g,i,j⟩:=m;simp only at d h4 h5;rw [d,h4,h5]
  refine wrapup _ (by omega) ?_
  unfold wj
  rw [bh (by simp [k1])]
  have:=Cm.bind (l:=[IntKind.u8.wrap m.Sites]) (q:=fun ae=>kW (fun p=>(⟨m.Kind,m.From,m.To,m.Epoch,0,ae,p,Rj,0⟩:bT)) Ki) (oC (x:=m.Sites) ⟨by omega,by omega⟩) ((Sl hs hl hr.p).map fun p=>(⟨m.Kind,m.From,m.To,m.Epoch,0,m.Sites,p,Rj,0⟩:bT))
  rw [<-em]at this
  exact this
 rw [aQ k1]at h ⊢
 by_cases k2:m.Kind=2\/m.Kind=6\/m.Kind=7
 ·rw [bh k2]at h
  simp only [ig]at h
  obtain⟨Y,X,d,h4,h5⟩:=h
  have em:m=⟨m.Kind,m.From,m.To,m.Epoch,0,0,⟨[]⟩,Rj,0⟩:=by
   obtain⟨a,b,c,h3,e,f,g,i,j⟩:=m;simp only at Y X d h4 h5;rw [Y,X,d,h4,h5]
  rw [aQ (by omega),aQ (by omega),aQ (by omega)]
  refine wrapup _ (by omega) ?_
  unfold wj
  rw [aQ (by simp [k1]),aQ (by simp;omega),aQ (by simp;omega),aQ (by simp;omega),<-em]
  exact PA m
 rw [aQ k2]at h
 by_cases k3:m.Kind=3\/m.Kind=4
 ·rw [bh k3]at h
  simp only [ly,ig,oY]at h
  obtain⟨⟨⟨⟨Y,X⟩,hk⟩,hp⟩,d,h4,h5⟩:=h
  have em:m=⟨m.Kind,m.From,m.To,m.Epoch,m.Frag,0,⟨[]⟩,m.Packet,0⟩:=by
   obtain⟨a,b,c,h3,e,f,g,i,j⟩:=m;simp only at d h4 h5;rw [d,h4,h5]
  have hq:=U7 hp hr.r
  by_cases k3' :m.Kind=3
  ·rw [bh k3']at hk ⊢
   refine wrapup _ (by omega) ?_
   rw [hk,aQ (by decide)]at hq
   unfold wj
   rw [aQ (by simp [k1]),bh (by simp [k3'])]
   have:=Cm.bind (l:=[IntKind.u8.wrap m.Frag]) (q:=fun g=>kW (fun p=>(⟨m.Kind,m.From,m.To,m.Epoch,g,0,⟨[]⟩,p,0⟩:bT)) (MF 1)) (oC (x:=m.Frag) ⟨by omega,by omega⟩) (hq.map fun p=>(⟨m.Kind,m.From,m.To,m.Epoch,m.Frag,0,⟨[]⟩,p,0⟩:bT))
   rw [<-em]at this
   exact this
  ·rw [aQ k3']at hk ⊢
   have k4:m.Kind=4:=by omega
   rw [bh k4]
   refine wrapup _ (by omega) ?_
   rw [hk,bh rfl]at hq
   unfold wj
   rw [aQ (by simp [k1]),aQ (by simp [k3']),bh (by simp [k4])]
   have:=Cm.bind (l:=[IntKind.u8.wrap m.Frag]) (q:=fun g=>kW (fun p=>(⟨m.Kind,m.From,m.To,m.Epoch,g,0,⟨[]⟩,p,0⟩:bT)) (MF 2)) (oC (x:=m.Frag) ⟨by omega,by omega⟩) (hq.map fun p=>(⟨m.Kind,m.From,m.To,m.Epoch,m.Frag,0,⟨[]⟩,p,0⟩:bT))
   rw [<-em]at this
   exact this
 rw [aQ k3]at h
 rw [aQ (by omega),aQ (by omega)]
 by_cases k5:m.Kind=5
 ·rw [bh k5]at h ⊢
  simp only [ly,y7,ig,oY]at h
  obtain⟨he,Y,X,d,h4⟩:=h
  have ee:(if(m.Err==300)=true then(300:Int)else 140)=m.Err:=by
   rcases he with he|he<;>rw [he]<;>rfl
  have em:m=⟨m.Kind,m.From,m.To,m.Epoch,0,0,⟨[]⟩,Rj,if(m.Err==300)=true then 300 else 140⟩:=by
   rw [ee]
   obtain⟨a,b,c,h3,e,f,g,i,j⟩:=m;simp only at Y X d h4;rw [Y,X,d,h4]
  refine wrapup _ (by omega) ?_
  unfold wj
  rw [aQ (by simp [k1]),aQ (by simp;omega),aQ (by simp;omega),bh (by simp [k5])]
  have:=(A6 (m.Err==300)).map fun c:Bool=>(⟨m.Kind,m.From,m.To,m.Epoch,0,0,⟨[]⟩,Rj,if c=true then 300 else 140⟩:bT)
  rw [<-em]at this
  exact this
 ·rw [aQ k5]at h;cases h
end Go.Proofs.YtdohlidddcgfjaaGreat


/- bS of this claim: H23. -/
set_option linter.all false
namespace Go.Proofs.YtdohlidddcgfjaaGreat
open Go

def Q3.imp{α:Type}{p:Pr α}{enc enc' :α->List Int}{good good' :α->Prop}(h:Q3 p enc good)(e: ∀x,good x->enc' x=enc x/\good' x):Q3 p enc' good' :=fun l x r hl V=>by
 obtain⟨a,b,c⟩:=h l x r hl V
 exact⟨by rw [(e x b).1];exact a,(e x b).2,c⟩
def gRs(l:List (List am)):Prop:=l.length<=400/\ ∀r∈l,qc r=true
structure gM(m:bT):Prop where
 p:gP m.Plan
 pl:(WT m.Plan).length<=5000
 r:gRs m.Packet.Batch.Rows
def Fw{a b:List Int}(ha:nj a)(H:nj b):ss a b=some (decide (a=b)):=by
 unfold ss
 congr 1
 rw [xp,oY,ig]
 refine⟨fun h=>?_,fun h=>by rw [h]⟩
 have:=congrArg kh h
 rwa [(xA ha).1,(xA H).1]at this
def sl(b:List Int):List Int:=(lV b).getD []
def HC: ∀k n,nj (w4 n k)
 |0,_=>fun x V=>by cases V
 |k+1,n=>fun x V=>by
  rcases jl.1 V with rfl|V
  ·exact⟨n%256,by omega,rfl⟩
  ·exact HC k _ x V
def sv(b:List Int):Nat:=4294967295-b.foldl (fun r x=>uR r x.toNat) 4294967295
def WN(b:List Int):sv b<4294967296:=by unfold sv;omega
def AQ{b:List Int}(H:nj b)(hl:b.length<=50000000000):lV b=some (sl b)/\nj (sl b)/\sl b=b++w4 (sv b) 4:=by
 have Y:lV b=some (b++w4 (sv b) 4):=by
  obtain⟨ae,_,X,d⟩:=GK b 4294967295 (by omega) H
  have h4:yG b=some ((sv b:Nat):Int):=by
   unfold yG sv
   rw [RX,bf,<-X]
   exact d
  unfold lV oU
  rw [h4,bf,cD (by simp;omega),bf,bf,mh,Od 4 _ b (by omega)]
 have e:sl b=b++w4 (sv b) 4:=by unfold sl;rw [Y];rfl
 exact⟨by rw [Y,e],by rw [e];exact gz H (HC 4 _),e⟩
def Mi{b:List Int}(H:nj b)(hl:b.length<=50000000000):(sl b).length=b.length+4/\(sl b).take b.length=b:=by
 obtain⟨_,_,h⟩:=AQ H hl
 rw [h]
 exact⟨by rw [kj,R6],List.take_left' rfl⟩
def Pt{b:List Int}(H:nj b)(hl:b.length<=900000000):om b=some (if b.length<4 then([],7)else if sl (b.take (b.length-4))=b then(b.take (b.length-4),0)else([],130)):=by
 unfold om
 rw [eM (by omega) (by omega)]
 by_cases h:b.length<4
 ·rw [bh (by rw [ig];omega),bh h]
 ·rw [aQ (by rw [ig];omega),aQ h,iZ 0 (b.length-4) (show(0:Int)=((0:Nat):Int)from rfl) (by omega) (by omega) (by omega),bf,zF]
  have hbt:=yx H (b.length-4)
  obtain⟨Y,X,_⟩:=AQ hbt (by simp;omega)
  have hc:oU (b.take (b.length-4))=some (b.take (b.length-4)):=by
   unfold oU
   rw [cD (by simp;omega)];rfl
  rw [hc,bf,Y,bf,Fw X H,bf]
  by_cases he:sl (b.take (b.length-4))=b
  ·rw [bh he,aQ (by simp [he])]
  ·rw [aQ he,bh (by simp [he])]
def zM:bT:=⟨0,0,0,0,0,0,⟨[]⟩,⟨0,0,0,0,⟨[],false,0⟩⟩,0⟩
def HI{b c:List Int}(H:nj b)(hl:b.length<=900000000)(ho:om c=some (b,0)):jN c=match Kl b with
  |some (m,[])=>(m3 m).bind fun q=>some (if q&&decide (c.length<=20000)then(m,0)else(zM,331))
  |_=>some (zM,331):=by
 unfold jN
 rw [ho,bf,aQ (by simp)]
 have h0:Ok b 0 (⟨rj,b,false⟩:aK) (rd b 0 0):=⟨rfl,rfl,rfl,pL _⟩
 obtain⟨x,r1,o1,Y,X⟩:=(MU hl H).ok 0 _ _ h0
 rw [Gl hl,bf,Y,bf]
 rw [zF]at X
 simp only
 unfold LV at X
 cases hp:Kl b with
 |none=>
  rw [hp]at X
  rw [TR X]
  rfl
 |some v=>
  obtain⟨v,rest⟩:=v
  rw [hp]at X
  obtain⟨rfl,k,d,h4⟩:=X
  rw [TQ hl d,h4]
  cases rest with
  |nil=>
   simp only [bf]
   cases m3 x with
   |none=>rfl
   |some q=>
    cases q with
    |false=>rfl
    |true=>
     show(if(false||decide ((20000:Int)<(c.length:Int)))=true then _ else _)=_
     by_cases hc:c.length<=20000
     ·rw [aQ (by simp;omega)]
      show _=some (if(true&&decide (c.length<=20000))=true then _ else _)
      rw [bh (by simpa using hc)]
     ·rw [bh (by simp;omega)]
      show _=some (if(true&&decide (c.length<=20000))=true then _ else _)
      rw [aQ (by simpa using hc)]
      rfl
  |cons c l=>rfl
def Ps{b:List Int}(H:nj b)(hl:b.length<=800000000):om (sl b)=some (b,0):=by
 obtain⟨Y,X⟩:=Mi H (by omega)
 rw [Pt (AQ H (by omega)).2.1 (by omega),Y,aQ (by omega),Nat.add_sub_cancel,X,bh rfl]
end Go.Proofs.YtdohlidddcgfjaaGreat


/- bS of this claim: H24. -/
set_option linter.all false
namespace Go.Proofs.YtdohlidddcgfjaaGreat
open Go

def Ex{α:Type}(p:Pr α):Prop:= ∀l x r ae,p l=some (x,r)->p (l++ae)=some (x,r++ae)
def Ex.bind{α β:Type}{p:Pr α}{q:α->Pr β}(Y:Ex p)(X: ∀x,Ex (q x)):Ex (cZ p q):=by
 intro l y r ae h
 unfold cZ at h ⊢
 cases hp:p l with
 |none=>rw [hp]at h;cases h
 |some u=>
  rw [hp,bf]at h
  rw [Y l u.1 u.2 ae hp,bf]
  exact X u.1 u.2 y r ae h
def Ex.map{α β:Type}{p:Pr α}(f:α->β)(Y:Ex p):Ex (kW f p):=by
 intro l y r ae h
 unfold kW at h ⊢
 cases hp:p l with
 |none=>rw [hp]at h;cases h
 |some u=>
  rw [hp]at h
  cases h
  rw [Y l u.1 u.2 ae hp];rfl
def DX{α:Type}(x:α):Ex (fun l=>some (x,l)):=by
 intro l y r ae h
 cases h;rfl
def Ex.need(c:Bool):Ex (sE c):=by
 intro l y r ae h
 unfold sE at h ⊢
 split at h
 ·cases h;rename_i hc;rw [bh hc]
 ·cases h
def nh{α:Type}{p q:Pr α}(c:Bool)(Y:Ex p)(X:Ex q):Ex (if c=true then p else q):=by
 cases c with
 |true=>exact Y
 |false=>exact X
def A2(n:Nat):Ex (pw n):=by
 intro l y r ae h
 unfold pw at h ⊢
 split at h
 ·cases h
 ·cases h
  rw [aQ (by rw [kj];omega),AD (by omega),PB (by omega)]
def UY(n:Nat):Ex (MC n):=by
 intro l y r ae h
 unfold MC at h ⊢
 split at h
 ·cases h
 ·cases h
  rw [aQ (by rw [kj];omega),AD (by omega),PB (by omega)]
def nY:Ex p8:=(A2 1).map _
def Sy:Ex p16:=(A2 2).map _
def Sw:Ex X7:=(A2 4).map _
def A5:Ex tR:=by
 intro l y r ae h
 unfold tR at h ⊢
 cases hp:p8 l with
 |none=>rw [hp]at h;cases h
 |some u=>
  rw [hp,bf]at h
  rw [nY l u.1 u.2 ae hp,bf]
  simp only
  split at h
  ·cases h
  ·rename_i hc
   cases h
   rw [aQ hc]
def Kp{α:Type}{p:Pr α}(h:Ex p): ∀n,Ex (pl p n)
 |0=>DX []
 |n+1=>by
  have e:pl p (n+1)=cZ p (fun x=>kW (fun xs=>x::xs) (pl p n)):=by
   funext l
   unfold pl cZ kW
   cases p l with
   |none=>rfl
   |some u=>simp only [bf];cases pl p n u.2<;>rfl
  rw [e]
  exact h.bind fun x=>(Kp h n).map _
def Km{α E:Type}{p:E->Pr (α×E)}(h: ∀e,Ex (p e)): ∀n e,Ex (m1 p n e)
 |0,e=>DX ([],e)
 |n+1,e=>by
  have e:m1 p (n+1) e=cZ (p e) (fun x=>kW (fun v:List α×E=>(x.1::v.1,v.2)) (m1 p n x.2)):=by
   funext l
   show((p e l).bind fun u=>(m1 p n u.1.2 u.2).bind fun v=>some ((u.1.1::v.1.1,v.1.2),v.2))=(p e l).bind fun u=>(m1 p n u.1.2 u.2).map fun v=>((u.1.1::v.1.1,v.1.2),v.2)
   cases p e l with
   |none=>rfl
   |some u=>simp only [bf];cases m1 p n u.1.2 u.2<;>rfl
  rw [e]
  exact(h _).bind fun x=>(Km h n x.2).map _
def DB{α:Type}{p:Pr α}(h:Ex p):Ex (Kt p):=nY.bind fun n=>Kp h n.toNat
def IB:Ex Kj:=nY.bind fun n=>Kp nY n.toNat
def xN(v:am):Ex (sF v):=(Ex.need _).bind fun _=>DX v
def WR:Ex pv:=by
 refine nY.bind fun c=>(Ex.need _).bind fun _=>?_
 unfold ES
 refine nh _ (nY.bind fun u=>xN _) (nh _ ((A2 8).bind fun u=>xN _) (nh _ (nY.bind fun u=>(Ex.need _).bind fun _=>(UY _).bind fun ae=>xN _) (nh _ ((A2 8).bind fun u=>(A2 8).bind fun w=>xN _) (xN _))))
def mL{α:Type}(n:Nat)(h:Int->Int->α)(e:List Int×Int):Ex (kq n h e):=by
 intro l y r ae V
 unfold kq at V ⊢
 cases hp:u9 n e.1 with
 |none=>rw [hp]at V;cases V
 |some u=>rw [hp]at V;cases V;rfl
def aaJ(e:List Int×Int):Ex (pE e):=nY.bind fun x=>nh _ (nY.bind fun c=>mL _ _ _) (nh _ (WR.bind fun v=>mL _ _ _) (mL _ _ _))
def TM{α E:Type}{p:E->Pr (α×E)}(h: ∀e,Ex (p e))(n:Nat)(e:E):Ex (fun l=>(m1 p n e l).map fun u=>(u.1.1,u.2)):=(Km h n e).map Prod.fst
def A7:Ex zr:=Sy.bind fun n=>(TM aaJ n.toNat ([],0)).map aO.mk
def U6:Ex Qr:=nY.bind fun f=>A7.map _
def U0:Ex Sm:=nY.bind fun f=>A5.map _
def Qp(x:Int)(e:List Int×Int):Ex (z1 x e):=by
 unfold z1
 exact nh _ (nY.bind fun t=>IB.bind fun ks=>mL _ _ _) (nh _ (A5.bind fun f=>A7.bind fun c=>mL _ _ _) (nh _ (A7.bind fun c=>mL _ _ _) (nh _ (IB.bind fun ks=>(DB U6).bind fun a=>mL _ _ _)
  (nh _ ((DB A7).bind fun a=>mL _ _ _) (nh _ ((DB U0).bind fun a=>Sw.bind fun l=>mL _ _ _) (nh _ (mL _ _ _) (mL _ _ _)))))))
def Sn(e:List Int×Int):Ex (Kk e):=nY.bind fun x=>Qp x e
def Sr:Ex Kr:=nY.bind fun a=>nY.bind fun w=>IB.bind fun cs=>nY.bind fun n=>(TM Sn n.toNat ([],0)).map _
def Sk:Ex Ki:=(DB Sr).map _
def UW:Ex Kh:=nY.bind fun n=>(Ex.need _).bind fun _=>Kp WR _
def Sp:Ex uB:=Sy.bind fun n=>(Ex.need _).bind fun _=>Kp UW _
def Ot(k:Int):Ex (MF k):=Sw.bind fun ae=>(A2 8).bind fun q=>nh _ ((A2 8).map _) (A5.bind fun e=>nh _ ((A2 8).map _) (Sp.map _))
def U2:Ex Kl:=by
 refine nY.bind fun k=>nY.bind fun f=>nY.bind fun t=>nY.bind fun e=>?_
 unfold wj
 exact nh _ (nY.bind fun ae=>Sk.map _) (nh _ (nY.bind fun ae=>(Ot 1).map _) (nh _ (nY.bind fun ae=>(Ot 2).map _) (nh _ (A5.map _) (DX _))))
def zL{a b c:Nat}(h:a^^^c=b^^^c):a=b:=by
 have:=congrArg (· ^^^c) h
 simpa [Nat.xor_assoc] using this
def JL{a b:Nat}(ha:a<2147483648)(H:b<2147483648):a^^^2197175160≠b:=by
 intro h
 have Y:(a^^^2197175160).testBit 31=b.testBit 31:=by rw [h]
 have X:a.testBit 31=false:=Nat.testBit_lt_two_pow (show a<2^31 from ha)
 have d:b.testBit 31=false:=Nat.testBit_lt_two_pow (show b<2^31 from H)
 rw [Nat.testBit_xor,X,d]at Y
 revert Y;decide
def xW{a b:Nat}(ha:a<4294967296)(H:b<4294967296)(h:nb a=nb b):a=b:=by
 unfold nb at h
 by_cases Y:a%2=1<;>by_cases X:b%2=1
 ·rw [bh Y,bh X]at h
  have:=zL h
  omega
 ·rw [bh Y,aQ X]at h
  exact absurd h (JL (by omega) (by omega))
 ·rw [aQ Y,bh X]at h
  exact absurd h.symm (JL (by omega) (by omega))
 ·rw [aQ Y,aQ X]at h
  omega
def OB{a b:Nat}(ha:a<4294967296)(H:b<4294967296)(h:Rk a=Rk b):a=b:=by
 unfold Rk at h
 have l1:=fun{x:Nat} (V:x<4294967296)=>Bg V
 exact xW ha H (xW (l1 ha) (l1 H) (xW (l1 (l1 ha)) (l1 (l1 H)) (xW (l1 (l1 (l1 ha))) (l1 (l1 (l1 H))) (xW (l1 (l1 (l1 (l1 ha)))) (l1 (l1 (l1 (l1 H)))) (xW (l1 (l1 (l1 (l1 (l1 ha))))) (l1 (l1 (l1 (l1 (l1 H))))) (xW (l1 (l1 (l1 (l1 (l1 (l1 ha)))))) (l1 (l1 (l1 (l1 (l1 (l1 H)))))) (xW (l1 (l1 (l1 (l1 (l1 (l1 (l1 ha))))))) (l1 (l1 (l1 (l1 (l1 (l1 (l1 H))))))) h)))))))
def DF: ∀(l:List Int) (r:Nat),r<4294967296->nj l->l.foldl (fun r x=>uR r x.toNat) r<4294967296
 |[],r,h,_=>h
 |x::l,r,h,H=>by
  obtain⟨⟨c,hc,rfl⟩,X⟩:=BI H
  exact DF l _ (vK h (by omega)) X
def Ld: ∀(l:List Int) (r ae:Nat),r<4294967296->ae<4294967296->nj l->l.foldl (fun r x=>uR r x.toNat) r=l.foldl (fun r x=>uR r x.toNat) ae->r=ae
 |[],r,ae,_,_,_,h=>h
 |x::l,r,ae,hr,hs,H,h=>by
  obtain⟨⟨c,hc,rfl⟩,X⟩:=BI H
  have hc' :((c:Nat):Int).toNat<256:=by omega
  have:=Ld l _ _ (vK hr hc') (vK hs hc') X h
  unfold uR at this
  exact zL (OB (tA hr (by omega)) (tA hs (by omega)) this)
def aaC{a b:List Int}{x y:Int}(ha:nj a)(H:nj b)(V:nj [x])(hy:nj [y])(h:x≠y):sv (a++x::b)≠sv (a++y::b):=by
 obtain⟨cx,hcx,rfl⟩:=V x (uk.2 rfl)
 obtain⟨cy,hcy,rfl⟩:=hy y (uk.2 rfl)
 have hr:=DF a 4294967295 (by omega) ha
 intro he
 unfold sv at he
 rw [List.foldl_append,List.foldl_append,List.foldl_cons,List.foldl_cons]at he
 generalize a.foldl (fun r x=>uR r x.toNat) 4294967295=r at hr he
 have Y:uR r ((cx:Nat):Int).toNat<4294967296:=vK hr (by omega)
 have X:uR r ((cy:Nat):Int).toNat<4294967296:=vK hr (by omega)
 have d:=DF b _ Y H
 have h4:=DF b _ X H
 have h5:=Ld b _ _ Y X H (by omega)
 unfold uR at h5
 have h6:=OB (tA hr (by omega)) (tA hr (by omega)) h5
 rw [Nat.xor_comm r,Nat.xor_comm r]at h6
 have h7:=zL h6
 apply h
 omega
def GX: ∀(k m n:Nat),m<256^k->n<256^k->w4 m k=w4 n k->m=n
 |0,m,n,hm,hn,_=>by rw [Nat.pow_zero]at hm hn;omega
 |k+1,m,n,hm,hn,h=>by
  unfold w4 at h
  injection h with Y X
  rw [Nat.pow_succ]at hm hn
  have:=GX k (m/256) (n/256) (Nat.div_lt_of_lt_mul (by omega)) (Nat.div_lt_of_lt_mul (by omega)) X
  omega
end Go.Proofs.YtdohlidddcgfjaaGreat


/- bS of this claim: H25. -/
set_option linter.all false
namespace Go.Proofs.YtdohlidddcgfjaaGreat
open Go

def Ug{m:bT}(hs:Xy m):(qN m=false/\pr m=some ([],330))\/(qN m=true/\pr m=some (if 20000<(sl (vc m)).length then([],330)else(sl (vc m),0))):=by
 unfold pr
 rw [Gk m hs,bf]
 cases hr:qN m with
 |false=>exact .inl ⟨rfl,rfl⟩
 |true=>
  refine .inr ⟨rfl,?_⟩
  rw [aQ (by simp),RE m hs hr,bf]
  show((lV (vc m)).bind _)=_
  rw [(AQ (DQ m) (by have:=OD m hs;omega)).1,bf]
  by_cases hl:20000<(sl (vc m)).length
  ·rw [bh (by rw [ig];omega),bh hl]
  ·rw [aQ (by rw [ig];omega),aQ hl]
def G0{m:bT}(hs:Xy m)(hr:qN m=true)(K:ZW m):Cm Kl (vc m) m:=U3 (fun f hf=>Eo (hs.p.f f hf)) hr K
def NQ{c x:List Int}{e:Int}(ho:om c=some (x,e))(h:e≠0):jN c=some (zM,e):=by
 unfold jN
 rw [ho,bf,bh (by simpa using h)]
 rfl
def PI{e b:Int}(he: ∃c:Nat,c<256/\e=(c:Int))(h0:0<=b)(Y:b<=255):nj [oV .xor .u8 e (max b 1)]/\oV .xor .u8 e (max b 1)≠e:=by
 obtain⟨c,hc,rfl⟩:=he
 obtain⟨h3,hd⟩: ∃h3:Nat,max b 1=(h3:Int)/\1<=h3/\h3<=255:=⟨(max b 1).toNat,by omega,by omega,by omega⟩
 rw [hd.1,Z9 c h3 hc (by omega)]
 refine⟨fun x V=>?_,fun h=>?_⟩
 ·rw [uk.1 V]
  exact⟨c^^^h3,Nat.xor_lt_two_pow (n:=8) hc (by omega),rfl⟩
 ·have X:c^^^h3=c:=by omega
  have d:=congrArg (c^^^ ·) X
  simp only [<-Nat.xor_assoc,Nat.xor_self,Nat.zero_xor]at d
  omega
def GW{α:Type}: ∀(l:List α) (k:Nat) (h:k<l.length) (y:α),l=l.take k++l[k]::l.drop (k+1)/\l.set k y=l.take k++y::l.drop (k+1)
 |x::l,0,_,y=>⟨rfl,rfl⟩
 |x::l,k+1,h,y=>by
  obtain⟨Y,X⟩:=GW l k (by simpa using h) y
  refine⟨?_,?_⟩
  ·simp only [List.take_succ_cons,De,List.getElem_cons_succ,List.drop_succ_cons]
   rw [<-Y]
  ·simp only [List.set_cons_succ,List.take_succ_cons,De,List.drop_succ_cons]
   rw [<-X]
def Pi{l:List Int}(h:nj l){y:Int}(hy:nj [y])(k:Nat):nj (l.set k y):=fun x V=>by
 rcases List.mem_or_eq_of_mem_set V with Y|Y
 ·exact h x Y
 ·exact hy x (uk.2 Y)
def Wm{b:List Int}(H:nj b)(hl:b.length<=800000000){k:Nat}(hk:k<b.length+4){y:Int}(hy:nj [y])(hne:(sl b)[k]? ≠some y):om ((sl b).set k y)=some ([],130):=by
 obtain⟨Y,X⟩:=Mi H (by omega)
 obtain⟨_,hbs,d⟩:=AQ H (by omega)
 have hbs2:=Pi hbs hy k
 rw [Pt hbs2 (by simp;omega),BX,Y,aQ (by omega),Nat.add_sub_cancel,aQ]
 intro he
 by_cases hkn:k<b.length
 ·have e1:((sl b).set k y).take b.length=b.set k y:=by
   rw [d,List.set_append_left _ _ hkn,List.take_left' (by simp)]
  rw [e1]at he
  obtain⟨s1,s2⟩:=GW b k hkn y
  have hbx:=Pi H hy k
  have h4:=(AQ hbx (by simp;omega)).2.2
  rw [h4,d,List.set_append_left _ _ hkn]at he
  have h5:=List.append_cancel_left he
  have h6:=GX 4 _ _ (show sv _<256^4 from WN _) (show sv _<256^4 from WN _) h5
  rw [s2]at h6
  conv at h6=>rhs;rw [s1]
  refine aaC (yx H k) (vL H (k+1)) hy (fun x V=>?_) (fun hh=>hne ?_) h6
  ·rw [uk.1 V]
   exact H _ (CL _)
  ·rw [hh,d,zJ hkn,sH hkn]
 ·have e1:((sl b).set k y).take b.length=b:=by
   rw [d,List.set_append_right _ _ (by omega),List.take_left' rfl]
  rw [e1]at he
  apply hne
  rw [he,List.getElem?_set_self (by omega)]
def LM{m:bT}(hs:Xy m)(hr:qN m=true)(K:ZW m)(hl:(vc m).length<=20000):jN (sl (vc m++[0]))=some (zM,331):=by
 have H:nj (vc m++[0]):=gz (DQ m) fun x V=>by rw [uk.1 V];exact⟨0,by omega,rfl⟩
 have hll:(vc m++[0]).length<=20001:=by simp;omega
 rw [HI H (by omega) (Ps H (by omega)),G0 hs hr K [0]]
def LN{m:bT}(hs:Xy m)(hr:qN m=true)(K:ZW m)(hl:(vc m).length<=20000){j:Nat}(hj:j<(vc m).length):jN (sl ((vc m).take j))=some (zM,331):=by
 have H:nj ((vc m).take j):=yx (DQ m) j
 have hll:((vc m).take j).length<=20000:=by simp;omega
 rw [HI H (by omega) (Ps H (by omega))]
 cases hp:Kl ((vc m).take j)with
 |none=>rfl
 |some u=>
  obtain⟨x,rest⟩:=u
  cases rest with
  |cons c r=>rfl
  |nil=>
   exfalso
   have Y:=U2 _ _ _ ((vc m).drop j) hp
   have X:=G0 hs hr K []
   rw [sL,mh]at Y
   rw [p6,Y]at X
   have:=congrArg List.length (wW (qE X)).2
   simp at this
   omega
def Vg(m:bT):4<=(vc m).length:=by unfold vc Xa tF;simp
def Dp(m:bT)(at1 by1:Int)(K:ZW m)(hb0:0<=by1)(hb1:by1<=255):pm m at1 by1=some true:=by
 unfold pm
 rw [UC,bf,aQ (by simp)]
 rcases X9 m with hm|⟨hm,hs⟩
 ·rw [hm,bf,bh rfl]
 rw [hm,bf,aQ (by simp)]
 rcases Ug hs with⟨hr,he⟩|⟨hr,he⟩
 ·rw [he];rfl
 rw [he,bf]
 by_cases hl:20000<(sl (vc m)).length
 ·rw [bh hl];rfl
 rw [aQ hl,aQ (by simp)]
 have hmb:=DQ m
 have hml:=OD m hs
 have hpos:=Vg m
 obtain⟨Y,X⟩:=Mi hmb (by omega)
 obtain⟨_,hbs,d⟩:=AQ hmb (by omega)
 obtain⟨a,ha⟩: ∃a:Nat,max at1 0=(a:Int):=⟨(max at1 0).toNat,by omega⟩
 have hL:0<(sl (vc m)).length:=by omega
 have hk:a%(sl (vc m)).length<(sl (vc m)).length:=Nat.mod_lt _ hL
 have hn:nz ((sl (vc m)).length:Int)=some ():=by unfold nz;rw [aQ (by omega)]
 have hn2:nz ((vc m).length:Int)=some ():=by unfold nz;rw [aQ (by omega)]
 have htm:(max at1 0).tmod ((sl (vc m)).length:Int)=((a%(sl (vc m)).length:Nat):Int):=by rw [ha];rfl
 simp only [htm]
 rw [hn,bf,cD (by simp;omega),bf,mh]
 generalize hkk:a%(sl (vc m)).length=k at hk
 rw [eU,sH hk,bf,bf,uY]
 obtain⟨x1,x2⟩:=PI (hbs _ (CL hk)) hb0 hb1
 have hc:=Wm hmb (by omega) (k:=k) (by omega) x1 (by rw [sH hk];intro hh;injection hh with hh;exact x2 hh.symm)
 rw [NQ hc (by decide),bf,aQ (by decide)]
 rw [eM (by omega) (by omega),iZ 0 (vc m).length (show(0:Int)=((0:Nat):Int)from rfl) (by omega) (by omega) (by omega),bf,X,zF,cD (by simp;omega),bf,mh,cD (by simp;omega),bf]
 have hb0' :nj (vc m++[0]):=gz hmb fun x V=>by rw [uk.1 V];exact⟨0,by omega,rfl⟩
 rw [(AQ hb0' (by simp;omega)).1,bf,LM hs hr K (by omega),bf,aQ (by decide),hn2,bf]
 have hj:k%(vc m).length<(vc m).length:=Nat.mod_lt _ (by omega)
 have htm2:((k:Nat):Int).tmod ((vc m).length:Int)=((k%(vc m).length:Nat):Int):=rfl
 rw [htm2,iZ 0 (k%(vc m).length) (show(0:Int)=((0:Nat):Int)from rfl) rfl (by omega) (by omega),bf,zF,cD (by simp;omega),bf,mh]
 rw [(AQ (yx hmb _) (by simp;omega)).1,bf,LN hs hr K (by omega) hj]
 rfl
end Go.Proofs.YtdohlidddcgfjaaGreat


/- bS of this claim: H26. -/
set_option linter.all false
namespace Go.Proofs.YtdohlidddcgfjaaGreat
open Go

def SF{v:am}(h:Bd v):US v:=by
 obtain⟨_,⟨Y,X⟩,⟨d,h4⟩,_⟩:=h
 exact⟨⟨Y,X⟩,⟨d,h4⟩⟩
def MO{e:aO}(h:Be e):ZU e:=fun n hn=>SF ((show OP EY e.Nodes from h).2 n hn).2.2.2.2
def Yi{n:aa}(h:EX n):ZX n:=by
 obtain⟨_,_,_,_,_,_,hc,_,ha,hi,_,_⟩:=h
 exact⟨MO hc,fun e he=>MO (hi.2 e he),fun g K=>MO (ha.2 g K).2⟩
def Yg{p:cV}(h:II p):rgP p:=fun f hf n hn=>Yi (((show OP IJ p.Frags from h).2 f hf).1.2 n hn)
def Yh{m:bT}(h:MQ m):ZW m:=by
 obtain⟨_,_,_,_,_,_,hp,⟨_,_,_,_,H⟩,_⟩:=h
 exact⟨Yg hp,fun r hr v hv=>SF ((H.1.2 r hr).2 v hv)⟩
def Co(m:bT)(h:MQ m)(at1 by1:Int)(H:oH .u8 by1):pm m at1 by1=some true:=Dp m at1 by1 (Yh h) H.1 H.2
end Go.Proofs.YtdohlidddcgfjaaGreat

