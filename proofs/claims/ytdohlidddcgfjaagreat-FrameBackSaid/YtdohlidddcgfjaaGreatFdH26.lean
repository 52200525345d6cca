import Derived.Test.YtdohlidddcgfjaaGreatFdQ1
import Derived.Test.YtdohlidddcgfjaaGreatFdQ2
import Derived.Test.YtdohlidddcgfjaaGreatFdY15
import Derived.KernelRfl
import Derived.Test.YtdohlidddcgfjaaGreatFdA0
/- bT of this claim: G1. -/
set_option linter.all false
namespace Go.Proofs.YtdohlidddcgfjaaGreat
open Go

def zQ{n:Nat}(h:n<=900000):n<fh:=xc (BD _) (nM (by omega))
def eQ(p:Int):Nat->List Int
 |0=>[]
 |k+1=>IntKind.u8.wrap (p.fdiv (2^(8*k)))::eQ p k
def eK(p:Int): ∀k,(eQ p k).length=k
 |0=>rfl
 |k+1=>by simp [eQ,eK p k]
def jw(p:Int): ∀k,pC (eQ p k)
 |0=>fun x V=>by cases V
 |k+1=>fun x V=>by
  rcases jf.1 V with rfl|V
  ·exact Dv _ _ (zq.2 rfl)
  ·exact jw p k x V
def z8(n:Nat): ∀k,eQ (n:Int) k=Cf n k
 |0=>rfl
 |k+1=>by
  unfold eQ Cf
  rw [z8 n k,Nr _ (Int.pow_nonneg (by omega)),show(2:Int)^(8*k)=((256^k:Nat):Int) by rw [show(256:Nat)=2^8 from rfl,<-Nat.pow_mul];norm_cast,show((n:Int)/((256^k:Nat):Int))=((n/256^k:Nat):Int)from rfl]
  congr 1
def Bn: ∀(k:Nat) {m n:Nat},m%256^k=n%256^k->Cf m k=Cf n k
 |0,_,_,_=>rfl
 |k+1,m,n,h=>by
  have Y:m/256^k%256=n/256^k%256:=by
   rw [<-Nat.mod_mul_right_div_self,<-Nat.mod_mul_right_div_self,<-Nat.pow_succ,h]
  have X:m%256^k=n%256^k:=by
   have:=congrArg (· %256^k) h
   simpa [Nat.mod_mod_of_dvd _ (Nat.pow_dvd_pow 256 (Nat.le_succ k))] using this
  unfold Cf
  rw [Y,Bn k X]
def NB(p:Int): ∃n:Nat,n<18446744073709551616/\IntKind.u64.wrap p=(n:Int):=⟨(IntKind.u64.wrap p).toNat,by rw [wU];omega,by rw [wU];omega⟩
def Q5(k w:Nat)(hk:k+1<=w)(hw:w<=8):IntKind.i64.wrap (IntKind.i64.wrap (8*IntKind.i64.wrap ((w:Int)-((w-(k+1):Nat):Int)))-8)=((8*k:Nat):Int):=by
 rw [show(w:Int)-((w-(k+1):Nat):Int)=((k+1:Nat):Int) by omega,q7,q7,q7]
 omega
def Ua(p:Int)(k:Nat)(hk:k<=8):p.fdiv (2^(min (Int.toNat ((8*k:Nat):Int)) IntKind.u64.bits))=p.fdiv (2^(8*k)):=by
 rw [u0,show IntKind.u64.bits=64 from rfl,xa (by omega)]
def vQ(p:Int)(w:Nat)(hw:w<=8): ∀(k f:Nat) (b:List Int),k<=w->k<f->b.length+k<=60000000000->ef p (w:Int) f b ((w-k:Nat):Int)=some (b++eQ p k)
 |0,f+1,b,_,_,_=>by
  unfold ef
  rw [aR (by simp),eQ,pM]
 |k+1,f+1,b,hk,hf,K=>by
  unfold ef
  rw [bh (by rw [hX];omega),Q5 k w hk hw,show Y9 ((8*k:Nat):Int)=some ()from bh (by omega),bg,Ua p k (by omega),cK (by simp;omega),bg]
  rw [show IntKind.i64.wrap (((w-(k+1):Nat):Int)+1)=((w-k:Nat):Int) by rw [q7];omega]
  rw [vQ p w hw k f _ (by omega) (by omega) (by simp;omega),pD];rfl
def JR(p w:Int): ∀(f:Nat) (b:List Int) (x:Int),ko p w f b x=ef (IntKind.u64.wrap p) w f b x
 |0,_,_=>rfl
 |f+1,b,x=>by
  unfold ko ef
  simp only [JR p w f]
def JQ(p w:Int): ∀(f:Nat) (b:List Int) (x:Int),km p w f b x=ef (IntKind.u64.wrap p) w f b x
 |0,_,_=>rfl
 |f+1,b,x=>by
  unfold km ef
  simp only [JQ p w f]
def BF{n:Nat}(h:n<=68719476736):xg (0:Int) (n:Int) (0:Int)=some []:=by
 unfold xg
 rw [bh (by omega)];rfl
def M5(b:List Int)(w:Nat)(h:b.length+w<=60000000000):IntKind.i64.wrap ((b.length:Int)+(w:Int))=((b.length+w:Nat):Int):=by
 rw [q7];omega
def mH(b:List Int)(p:Int)(h:b.length<=50000000000):jS b p=some (b++eQ p 8):=by
 unfold jS rk
 have:=vQ p 8 (by omega) 8 fh b (by omega) (zQ (by omega)) (by omega)
 rw [show((8:Int))=((8:Nat):Int)from rfl,M5 b 8 (by omega),BF (by omega),bg,cK (by simp;omega),bg,m7]
 rw [show((0:Int))=((8-8:Nat):Int)from rfl,this]
 rfl
def xF(b:List Int)(p:Int)(h:b.length<=50000000000):mT b p=some (b++eQ (IntKind.u64.wrap p) 4):=by
 unfold mT rl
 have:=vQ (IntKind.u64.wrap p) 4 (by omega) 4 fh b (by omega) (zQ (by omega)) (by omega)
 rw [show((4:Int))=((4:Nat):Int)from rfl,M5 b 4 (by omega),BF (by omega),bg,cK (by simp;omega),bg,m7]
 rw [show((0:Int))=((4-4:Nat):Int)from rfl,JQ,this]
 rfl
def xG(b:List Int)(p:Int)(h:b.length<=50000000000):qf b p=some (b++eQ (IntKind.u64.wrap p) 2):=by
 unfold qf rm
 have:=vQ (IntKind.u64.wrap p) 2 (by omega) 2 fh b (by omega) (zQ (by omega)) (by omega)
 rw [show((2:Int))=((2:Nat):Int)from rfl,M5 b 2 (by omega),BF (by omega),bg,cK (by simp;omega),bg,m7]
 rw [show((0:Int))=((2-2:Nat):Int)from rfl,JR,this]
 rfl
def vB(v:am):List Int:=IntKind.u8.wrap v.Kind::(if v.Kind=1 then [IntKind.u8.wrap v.N]else if v.Kind=2 then eQ (IntKind.u64.wrap v.N) 8 else if v.Kind=3 then IntKind.u8.wrap (v.S.length:Int)::ka v.S else if v.Kind=4 then eQ (IntKind.u64.wrap v.N) 8++eQ v.U 8 else [])
def yf(ae:OQ):(ka ae).length=ae.length:=by simp [ka]
def HB(v:am):(vB v).length<=17+v.S.length:=by
 unfold vB
 have:=yf v.S
 split
 ·simp;omega
 ·split
  ·simp [eK];omega
  ·split
   ·simp [this];omega
   ·split
    ·simp [eK]
    ·simp;omega
def iu{n:Int}{l:List Int}(h:pC l):pC (IntKind.u8.wrap n::l):=ic (Dv n) h
def pL:pC []:=fun x V=>by cases V
def Tg(v:am):pC (vB v):=by
 unfold vB
 refine iu ?_
 split
 ·exact Dv _
 ·split
  ·exact jw _ _
  ·split
   ·exact iu (Qq _)
   ·split
    ·exact ic (jw _ _) (jw _ _)
    ·exact pL
def yc(v:am)(h:v.S.length<=100000):r0 v=some (if gm v then(vB v,0)else([],120)):=by
 have hl:=yf v.S
 unfold r0 vB
 rw [qx,bg]
 by_cases hr:gm v=true
 ·rw [bh hr,aR (by simp),bh hr]
  by_cases Y:v.Kind=1
  ·rw [bh (by simp [Y]),bh Y,cK (by simp)];rfl
  by_cases X:v.Kind=2
  ·rw [aR (by simp [Y]),bh (by simp [X]),aR Y,bh X,mH _ _ (by simp)];rfl
  by_cases d:v.Kind=3
  ·rw [aR (by simp [Y]),aR (by simp [X]),bh (by simp [d]),aR Y,aR X,bh d,cK (by simp),bg,cK (by simp [hl];omega)];rfl
  by_cases h4:v.Kind=4
  ·rw [aR (by simp [Y]),aR (by simp [X]),aR (by simp [d]),bh (by simp [h4]),aR Y,aR X,aR d,bh h4,mH _ _ (by simp),bg,mH _ _ (by simp [eK]),bg,pD];rfl
  ·rw [aR (by simp [Y]),aR (by simp [X]),aR (by simp [d]),aR (by simp [h4]),aR Y,aR X,aR d,aR h4]
 ·rw [aR hr,bh (by simp),aR hr]
end Go.Proofs.YtdohlidddcgfjaaGreat


/- bT of this claim: G2. -/
set_option linter.all false
namespace Go.Proofs.YtdohlidddcgfjaaGreat
open Go

def tN(l:List Int):List Int:=l.map IntKind.u8.wrap
def fB(b:Bool):Int:=if b then 1 else 0
def Sl(l:List Int):List Int:=IntKind.u8.wrap (l.length:Int)::tN l
def nB(n:ap):List Int:=IntKind.u8.wrap n.Tag::(if n.Tag=2 then [IntKind.u8.wrap n.Col]else if n.Tag=1 then vB n.Value else [])
def eB(e:aP):List Int:=eQ (e.Nodes.length:Int) 2++e.Nodes.flatMap nB
def VK(a:eS):List Int:=IntKind.u8.wrap a.Tag::eB a.Arg
def Y7(o:kg):List Int:=[IntKind.u8.wrap o.Col,fB o.Desc]
def Kj(n:aa):List Int:=eQ (IntKind.u64.wrap (IntKind.i64.wrap (n.Limit+1))) 4
def Du(n:aa):List Int:=
 if n.Op=1\/n.Op=9 then IntKind.u8.wrap n.Table::Sl n.Kinds
 else if n.Op=2 then fB n.Left::eB n.Cond
 else if n.Op=3 then eB n.Cond
 else if n.Op=4\/n.Op=10\/n.Op=11 then Sl n.Keys++IntKind.u8.wrap (n.Aggs.length:Int)::n.Aggs.flatMap VK
 else if n.Op=5 then IntKind.u8.wrap (n.Items.length:Int)::n.Items.flatMap eB
 else if n.Op=8 then IntKind.u8.wrap (n.Order.length:Int)::(n.Order.flatMap Y7++Kj n)
 else []
def C6(n:aa):List Int:=IntKind.u8.wrap n.Op::Du n
def TC(f:di):List Int:=[IntKind.u8.wrap f.At,IntKind.u8.wrap f.Way]++Sl f.Cols++IntKind.u8.wrap (f.Nodes.length:Int)::f.Nodes.flatMap C6
def V7(p:cT):List Int:=IntKind.u8.wrap (p.Frags.length:Int)::p.Frags.flatMap TC
structure Tl(e:aP):Prop where
 len:e.Nodes.length<=100
 str: ∀n∈e.Nodes,n.Value.S.length<=100
structure VM(n:aa):Prop where
 kinds:n.Kinds.length<=20
 keys:n.Keys.length<=20
 order:n.Order.length<=20
 items:n.Items.length<=20
 aggs:n.Aggs.length<=20
 cond:Tl n.Cond
 item: ∀e∈n.Items,Tl e
 arg: ∀a∈n.Aggs,Tl a.Arg
structure Zd(f:di):Prop where
 cols:f.Cols.length<=40
 len:f.Nodes.length<=70
 n: ∀n∈f.Nodes,VM n
structure Zc(p:cT):Prop where
 len:p.Frags.length<=40
 f: ∀f∈p.Frags,Zd f
def VE(e:aP):Prop:= ∀n∈e.Nodes,n.Tag=1->gm n.Value=true
structure VN(n:aa):Prop where
 cond:n.Op=2\/n.Op=3->VE n.Cond
 arg:n.Op=4\/n.Op=10\/n.Op=11-> ∀a∈n.Aggs,VE a.Arg
 item:n.Op=5-> ∀e∈n.Items,VE e
def uu{α β:Type}{f:α->List β}{k:Nat}: ∀(l:List α),(∀x∈l,(f x).length<=k)->(l.flatMap f).length<=k*l.length
 |[],_=>by simp
 |x::l,h=>by
  have Y:=h x (nA ..)
  have X:=uu l fun y hy=>h y (pp _ hy)
  rw [Ai,kw,iB,Ap]
  omega
def TV(l:List Int):(tN l).length=l.length:=by simp [tN]
def v7(l:List Int):(Sl l).length=l.length+1:=by simp [Sl,tN]
def Sb{n:ap}(h:n.Value.S.length<=100):(nB n).length<=118:=by
 have:=HB n.Value
 unfold nB
 split
 ·simp
 ·split
  ·simp;omega
  ·simp
def IL{e:aP}(h:Tl e):(eB e).length<=11802:=by
 have Y:=uu (f:=nB) (k:=118) e.Nodes fun n hn=>Sb (h.str n hn)
 have X:=h.len
 unfold eB
 rw [kw,eK]
 have:118*e.Nodes.length<=118*100:=Nat.mul_le_mul_left _ X
 omega
def OP{a:eS}(h:Tl a.Arg):(VK a).length<=11803:=by
 have:=IL h
 unfold VK
 simp;omega
def Vy{n:aa}(h:VM n):(Du n).length<=236100:=by
 have Y:=IL h.cond
 have X:=uu (f:=VK) (k:=11803) n.Aggs fun a ha=>OP (h.arg a ha)
 have d:=uu (f:=eB) (k:=11802) n.Items fun a ha=>IL (h.item a ha)
 have h4:=uu (f:=Y7) (k:=2) n.Order fun a ha=>by simp [Y7]
 have:=h.kinds;have:=h.keys;have:=h.order;have:=h.items;have:=h.aggs
 unfold Du
 split
 ·rw [iB,v7];omega
 ·split
  ·rw [iB];omega
  ·split
   ·omega
   ·split
    ·rw [kw,v7,iB];omega
    ·split
     ·rw [iB];omega
     ·split
      ·rw [iB,kw,Kj,eK];omega
      ·simp
def J1{n:aa}(h:VM n):(C6 n).length<=236101:=by
 have:=Vy h
 unfold C6
 simp;omega
def Oe{f:di}(h:Zd f):(TC f).length<=16527200:=by
 have Y:=uu (f:=C6) (k:=236101) f.Nodes fun n hn=>J1 (h.n n hn)
 have:=h.cols;have:=h.len
 unfold TC
 rw [kw,kw,v7,iB]
 simp only [iB,uY]
 omega
def Ul{p:cT}(h:Zc p):(V7 p).length<=661088001:=by
 have Y:=uu (f:=TC) (k:=16527200) p.Frags fun f hf=>Oe (h.f f hf)
 have:=h.len
 unfold V7
 rw [iB]
 omega
def OK(l:List Int):pC (tN l):=by
 induction l with
 |nil=>exact pL
 |cons x l ih=>exact iu ih
def sa{α:Type}{f:α->List Int}: ∀(l:List α),(∀x∈l,pC (f x))->pC (l.flatMap f)
 |[],_=>pL
 |x::l,h=>by
  rw [Ai]
  exact ic (h x (nA ..)) (sa l fun y hy=>h y (pp _ hy))
def IS(b:Bool){l:List Int}(h:pC l):pC (fB b::l):=fun x V=>by
 rcases jf.1 V with rfl|V
 ·cases b
  ·exact⟨0,by omega,rfl⟩
  ·exact⟨1,by omega,rfl⟩
 ·exact h x V
def IR(l:List Int):pC (Sl l):=iu (OK l)
def YN(n:ap):pC (nB n):=by
 unfold nB
 refine iu ?_
 split
 ·exact Dv _
 ·split
  ·exact Tg _
  ·exact pL
def IT(e:aP):pC (eB e):=ic (jw _ _) (sa _ fun n _=>YN n)
def VG(a:eS):pC (VK a):=iu (IT _)
def VF(n:aa):pC (Du n):=by
 unfold Du
 split
 ·exact iu (IR _)
 ·split
  ·exact IS _ (IT _)
  ·split
   ·exact IT _
   ·split
    ·exact ic (IR _) (iu (sa _ fun a _=>VG a))
    ·split
     ·exact iu (sa _ fun a _=>IT a)
     ·split
      ·exact iu (ic (sa _ fun a _=>iu (IS _ pL)) (jw _ _))
      ·exact pL
def VD(f:di):pC (TC f):=ic (ic (iu (iu pL)) (IR _)) (iu (sa _ fun n _=>iu (VF n)))
def VB(p:cT):pC (V7 p):=iu (sa _ fun f _=>VD f)
abbrev W0(b:List Int):aU:=⟨b⟩
def y6: ∀(l b:List Int),b.length+l.length<=60000000000->fT l (W0 b)=some (W0 (b++tN l))
 |[],b,_=>by unfold fT;simp [tN]
 |x::l,b,h=>by
  simp only [iB]at h
  unfold fT
  show((app b [IntKind.u8.wrap x]).bind _)=_
  rw [cK (by simp;omega),bg]
  show fT l (W0 (b++[IntKind.u8.wrap x]))=_
  rw [y6 l _ (by simp;omega),pD]
  rfl
def mv(b l:List Int)(h:b.length+l.length<=60000000000):cb (W0 b) l=some (W0 (b++tN l)):=y6 l b h
def Q0(b l:List Int)(h:b.length+l.length<=50000000000):j7 (W0 b) l=some (W0 (b++Sl l)):=by
 unfold j7
 rw [mv b [(l.length:Int)] (by simp;omega),bg,mv _ l (by simp [tN];omega),bg,pD]
 rfl
def VY(b:List Int)(n:aa)(h:b.length+n.Kinds.length<=40000000000):fe (W0 b) n=some (W0 (b++IntKind.u8.wrap n.Table::Sl n.Kinds)):=by
 unfold fe
 rw [mv b _ (by simp;omega),bg,Q0 _ _ (by simp [tN];omega),bg,pD]
 rfl
def Nv(b:List Int)(x:Bool)(h:b.length<=50000000000):gL (W0 b) x=some (W0 (b++[fB x])):=by
 unfold gL lJ
 cases x
 ·rw [aR (by simp),mv b _ (by simp;omega),bg];rfl
 ·rw [bh rfl,mv b _ (by simp;omega),bg];rfl
def Ju: ∀(l:List ap) (b:List Int),(∀n∈l,n.Value.S.length<=100)->(∀n∈l,n.Tag=1->gm n.Value=true)->b.length+118*l.length<=50000000000->dP l (W0 b)=some (W0 (b++l.flatMap nB))
 |[],b,_,_,_=>by unfold dP;simp
 |n::l,b,hs,hv,h=>by
  have ih:=fun b K=>Ju l b (fun m hm=>hs m (pp _ hm)) (fun m hm=>hv m (pp _ hm)) K
  have hn:=hs n (nA ..)
  have hnv:=hv n (nA ..)
  have hln:=Sb hn
  simp only [iB,Ap]at h
  have key: ∀t:List Int,IntKind.u8.wrap n.Tag::t=nB n->dP l (W0 ((b++tN [n.Tag])++t))=some (W0 (b++(n::l).flatMap nB)):=fun t D=>by
   rw [pD,show tN [n.Tag]++t=nB n from D,ih _ (by simp;omega),pD,Ai]
  unfold dP
  rw [mv b _ (by simp;omega),bg]
  by_cases X:n.Tag=2
  ·rw [bh (by simp [X]),mv _ _ (by simp [tN];omega),bg]
   exact key _ (by unfold nB;rw [bh X];rfl)
  ·rw [aR (by simpa using X)]
   by_cases Y:n.Tag=1
   ·have hvl:=HB n.Value
    rw [bh (by simp [Y]),yc _ (by omega),bh (hnv Y),bg]
    show((app (b++tN [n.Tag]) (vB n.Value)).bind _)=_
    rw [cK (by simp [tN];omega),bg]
    exact key _ (by unfold nB;rw [aR X,bh Y])
   ·rw [aR (by simpa using Y)]
    have:=key [] (by unfold nB;rw [aR X,aR Y])
    rwa [pM]at this
def V8{n:Nat}(h:n<=60000):IntKind.u64.wrap (IntKind.u16.wrap (n:Int))=(n:Int):=by rw [IntKind.wrap_u16,wU];omega
def Nw(b:List Int)(e:aP)(hs:Tl e)(hv:VE e)(h:b.length<=40000000000):iL (W0 b) e=some (W0 (b++eB e)):=by
 have:=hs.len
 unfold iL
 show((qf b _).bind _)=_
 rw [xG b _ (by omega),bg,V8 (by omega)]
 show dP e.Nodes (W0 _)=_
 rw [Ju e.Nodes _ hs.str hv (by simp [eK];omega),pD]
 rfl
def Gg: ∀(l:List eS) (b:List Int),(∀a∈l,Tl a.Arg)->(∀a∈l,VE a.Arg)->b.length+11803*l.length<=30000000000->gU l (W0 b)=some (W0 (b++l.flatMap VK))
 |[],b,_,_,_=>by unfold gU;simp
 |a::l,b,hs,hv,h=>by
  have hl:=OP (hs a (nA ..))
  simp only [iB,Ap]at h
  unfold gU
  rw [mv b _ (by simp;omega),bg,Nw _ a.Arg (hs a (nA ..)) (hv a (nA ..)) (by simp [tN];omega),bg,pD]
  rw [show tN [a.Tag]++eB a.Arg=VK a from rfl,Gg l _ (fun m hm=>hs m (pp _ hm)) (fun m hm=>hv m (pp _ hm)) (by simp;omega),pD,Ai]
def WU(b:List Int)(n:aa)(hs:VM n)(hv: ∀a∈n.Aggs,VE a.Arg)(h:b.length<=20000000000):d6 (W0 b) n=some (W0 (b++(Sl n.Keys++IntKind.u8.wrap (n.Aggs.length:Int)::n.Aggs.flatMap VK))):=by
 have:=hs.keys;have:=hs.aggs
 unfold d6
 rw [Q0 b _ (by omega),bg,mv _ _ (by simp [v7];omega),bg,Gg n.Aggs _ hs.arg hv (by simp [v7,tN];omega),pD,pD]
 rfl
def Cu: ∀(l:List aP) (b:List Int),(∀a∈l,Tl a)->(∀a∈l,VE a)->b.length+11802*l.length<=30000000000->gi l (W0 b)=some (W0 (b++l.flatMap eB))
 |[],b,_,_,_=>by unfold gi;simp
 |a::l,b,hs,hv,h=>by
  have hl:=IL (hs a (nA ..))
  simp only [iB,Ap]at h
  unfold gi
  rw [Nw _ a (hs a (nA ..)) (hv a (nA ..)) (by omega),bg]
  rw [Cu l _ (fun m hm=>hs m (pp _ hm)) (fun m hm=>hv m (pp _ hm)) (by simp;omega),pD,Ai]
def QX(b:List Int)(n:aa)(hs:VM n)(hv: ∀a∈n.Items,VE a)(h:b.length<=20000000000):gp (W0 b) n=some (W0 (b++IntKind.u8.wrap (n.Items.length:Int)::n.Items.flatMap eB)):=by
 have:=hs.items
 unfold gp
 rw [mv _ _ (by simp;omega),bg,Cu n.Items _ hs.item hv (by simp [tN];omega),pD]
 rfl
def Sd(n:aa):eQ (IntKind.u64.wrap (IntKind.u32.wrap (IntKind.i64.wrap (n.Limit+1)))) 4=Kj n:=by
 unfold Kj
 generalize IntKind.i64.wrap (n.Limit+1)=x
 obtain⟨m,_,hm⟩:=NB (IntKind.u32.wrap x)
 obtain⟨k,_,hk⟩:=NB x
 rw [hm,hk,z8,z8]
 refine Bn 4 ?_
 rw [wU,IntKind.wrap_u32]at hm
 rw [wU]at hk
 show m%4294967296=k%4294967296
 omega
def Ge(n:aa): ∀(l:List kg) (b:List Int),b.length+2*l.length<=30000000000->gT n l (W0 b)=some (W0 (b++(l.flatMap Y7++Kj n)))
 |[],b,h=>by
  unfold gT
  show((mT b _).bind _)=_
  rw [xF b _ (by simp at h;omega),bg,Sd]
  rfl
 |o::l,b,h=>by
  simp only [iB]at h
  unfold gT
  rw [mv b _ (by simp;omega),bg,Nv _ _ (by simp [tN];omega),bg,Ge n l _ (by simp [tN];omega),pD,pD]
  rfl
def WS(b:List Int)(n:aa)(hs:VM n)(h:b.length<=20000000000):ib (W0 b) n=some (W0 (b++IntKind.u8.wrap (n.Order.length:Int)::(n.Order.flatMap Y7++Kj n))):=by
 have:=hs.order
 unfold ib
 rw [mv _ _ (by simp;omega),bg,Ge n n.Order _ (by simp [tN];omega),pD]
 rfl
def ZW{β:Type}(f1 f9 f2 f3 f4 f10 f11 f5 f8:β)(k:Int):tZ (gw (gw (gw (gw (gw (gw (gw (gw (gw ([]:List (Int×β)) 1 f1) 9 f9) 2 f2) 3 f3) 4 f4) 10 f10) 11 f11) 5 f5) 8 f8) k=
  if k=1 then some f1 else if k=9 then some f9 else if k=2 then some f2 else if k=3 then some f3 else if k=4 then some f4 else if k=10 then some f10 else if k=11 then some f11 else if k=5 then some f5 else if k=8 then some f8 else none:=by
 have e:gw (gw (gw (gw (gw (gw (gw (gw (gw ([]:List (Int×β)) 1 f1) 9 f9) 2 f2) 3 f3) 4 f4) 10 f10) 11 f11) 5 f5) 8 f8=[(1,f1),(9,f9),(2,f2),(3,f3),(4,f4),(10,f10),(11,f11),(5,f5),(8,f8)]:=rfl
 rw [e]
 simp only [tZ,eq_comm (b:=k)]
def map_some{α β:Type}{x:Option α}{y:α}(h:x=some y)(f:α->β):x.map f=some (f y):=by rw [h];rfl
def Jp(nx:aU->Option aU): ∀(l:List aa) (b:List Int),(∀n∈l,VM n)->(∀n∈l,VN n)->b.length+236101*l.length<=15000000000->eC nx l (W0 b)=nx (W0 (b++l.flatMap C6))
 |[],b,_,_,_=>by unfold eC;simp
 |n::l,b,hs,hv,h=>by
  have ih:=fun b K=>Jp nx l b (fun m hm=>hs m (pp _ hm)) (fun m hm=>hv m (pp _ hm)) K
  have hn:=hs n (nA ..)
  have hnv:=hv n (nA ..)
  have hln:=J1 hn
  have hkinds:=hn.kinds
  simp only [iB,Ap]at h
  have hb0:(b++tN [n.Op]).length=b.length+1:=by simp [tN]
  have key: ∀t:List Int,t=Du n->eC nx l (W0 ((b++tN [n.Op])++t))=nx (W0 (b++(n::l).flatMap C6)):=fun t D=>by
   subst D
   rw [pD,show tN [n.Op]++Du n=C6 n from rfl,ih _ (by simp;omega),pD,Ai]
  unfold eC
  rw [mv b _ (by simp;omega),bg,ZW]
  generalize hc:b++tN [n.Op]=c at hb0 key ⊢
  by_cases Y:n.Op=1
  ·rw [bh Y,bh (by rfl)]
   show(((fe (W0 c) n).map _).bind _)=_
   rw [map_some (VY c n (by omega)),bg]
   exact key _ (by unfold Du;rw [bh (.inl Y)])
  by_cases h9:n.Op=9
  ·rw [aR Y,bh h9,bh (by rfl)]
   show(((fe (W0 c) n).map _).bind _)=_
   rw [map_some (VY c n (by omega)),bg]
   exact key _ (by unfold Du;rw [bh (.inr h9)])
  have h19: ¬(n.Op=1\/n.Op=9):=by omega
  by_cases X:n.Op=2
  ·rw [aR Y,aR h9,bh X,bh (by rfl)]
   show(((iK (W0 c) n).map _).bind _)=_
   have hj:iK (W0 c) n=some (W0 (c++fB n.Left::eB n.Cond)):=by
    unfold iK
    rw [Nv c _ (by omega),bg,Nw _ _ hn.cond (hnv.cond (.inl X)) (by simp;omega),bg,pD];rfl
   rw [map_some hj,bg]
   exact key _ (by unfold Du;rw [aR h19,bh X])
  by_cases d:n.Op=3
  ·rw [aR Y,aR h9,aR X,bh d,bh (by rfl)]
   show(((gH (W0 c) n).map _).bind _)=_
   have hj:gH (W0 c) n=some (W0 (c++eB n.Cond)):=by
    unfold gH
    rw [Nw _ _ hn.cond (hnv.cond (.inr d)) (by omega),bg]
   rw [map_some hj,bg]
   exact key _ (by unfold Du;rw [aR h19,aR X,bh d])
  have H:(n.Op=4\/n.Op=10\/n.Op=11)->((d6 (W0 c) n).map fun mr=>((),mr)).bind (fun r5=>(eC nx l) r5.2)=nx (W0 (b++(n::l).flatMap C6)):=fun H=>by
   rw [map_some (WU c n hn (hnv.arg H) (by omega)),bg]
   exact key _ (by unfold Du;rw [aR h19,aR X,aR d,bh H])
  by_cases h4:n.Op=4
  ·rw [aR Y,aR h9,aR X,aR d,bh h4,bh (by rfl)]
   exact H (.inl h4)
  by_cases h10:n.Op=10
  ·rw [aR Y,aR h9,aR X,aR d,aR h4,bh h10,bh (by rfl)]
   exact H (.inr (.inl h10))
  by_cases h11:n.Op=11
  ·rw [aR Y,aR h9,aR X,aR d,aR h4,aR h10,bh h11,bh (by rfl)]
   exact H (.inr (.inr h11))
  have h4n: ¬(n.Op=4\/n.Op=10\/n.Op=11):=by omega
  by_cases h5:n.Op=5
  ·rw [aR Y,aR h9,aR X,aR d,aR h4,aR h10,aR h11,bh h5,bh (by rfl)]
   show(((gp (W0 c) n).map _).bind _)=_
   rw [map_some (QX c n hn (hnv.item h5) (by omega)),bg]
   exact key _ (by unfold Du;rw [aR h19,aR X,aR d,aR h4n,bh h5])
  by_cases h8:n.Op=8
  ·rw [aR Y,aR h9,aR X,aR d,aR h4,aR h10,aR h11,aR h5,bh h8,bh (by rfl)]
   show(((ib (W0 c) n).map _).bind _)=_
   rw [map_some (WS c n hn (by omega)),bg]
   exact key _ (by unfold Du;rw [aR h19,aR X,aR d,aR h4n,aR h5,bh h8])
  ·rw [aR Y,aR h9,aR X,aR d,aR h4,aR h10,aR h11,aR h5,aR h8,aR (by simp)]
   have:=key [] (by unfold Du;rw [aR h19,aR X,aR d,aR h4n,aR h5,aR h8])
   rwa [pM]at this
def Jq: ∀(l:List di) (b:List Int),(∀f∈l,Zd f)->(∀f∈l,∀n∈f.Nodes,VN n)->b.length+16527200*l.length<=10000000000->gq l (W0 b)=some (W0 (b++l.flatMap TC))
 |[],b,_,_,_=>by unfold gq;simp
 |f::l,b,hs,hv,h=>by
  have hf:=hs f (nA ..)
  have hfl:=Oe hf
  have Y:=hf.cols;have X:=hf.len
  simp only [iB,Ap]at h
  unfold gq
  rw [mv b _ (by simp;omega),bg,Q0 _ _ (by simp [tN];omega),bg,mv _ _ (by simp [tN,v7];omega),bg,Jp _ f.Nodes _ hf.n (hv f (nA ..)) (by simp [tN,v7];omega)]
  rw [show((b++tN [f.At,f.Way])++Sl f.Cols++tN [(f.Nodes.length:Int)])++f.Nodes.flatMap C6=b++TC f by simp [TC,tN]]
  rw [Jq l _ (fun m hm=>hs m (pp _ hm)) (fun m hm=>hv m (pp _ hm)) (by simp;omega),pD,Ai]
def Zi(b:List Int)(p:cT)(hs:Zc p)(hv: ∀f∈p.Frags,∀n∈f.Nodes,VN n)(h:b.length<=1000000000):lI (W0 b) p=some (W0 (b++V7 p)):=by
 have:=hs.len
 unfold lI
 rw [mv _ _ (by simp;omega),bg,Jq p.Frags _ hs.f hv (by simp [tN];omega),pD]
 rfl
end Go.Proofs.YtdohlidddcgfjaaGreat


/- bT of this claim: G3. -/
set_option linter.all false
namespace Go.Proofs.YtdohlidddcgfjaaGreat
open Go

def SA(t:Tr): ∀ae,t.wf-> ∀n∈t.flat ae,CQ n=true:=by
 induction t with
 |lf n=>
  intro ae h m hm
  rw [zq.1 hm,IQ];exact h.2.1
 |un n a ih=>
  intro ae h m hm
  rcases tQ.1 hm with hm|hm
  ·exact ih ae h.2 m hm
  ·rw [zq.1 hm,IQ];exact h.1.2.1
 |bi n a b iha ihb=>
  intro ae h m hm
  rcases tQ.1 hm with hm|hm
  ·rcases tQ.1 hm with hm|hm
   ·exact iha ae h.2.1 m hm
   ·exact ihb _ h.2.2 m hm
  ·rw [zq.1 hm,IQ];exact h.1.2.1
def Pz{ns:List ap}(h:my ns=true): ∀n∈ns,CQ n=true:=by
 unfold my at h
 obtain⟨t,D⟩:=Np.1 h
 obtain⟨Y,X,_⟩:=mR D
 rw [X]
 exact SA t 0 Y
def Rt{e:aP}(h:my e.Nodes=true):VE e:=fun n hn Y=>by
 have:=Pz h n hn
 unfold CQ kz at this
 rw [bh (by simp [Y]),oe]at this
 simp [uO]at this
 grind
def qg{e:aP}{ks:List Int}(h:(gh e ks).2=0):my e.Nodes=true:=by
 unfold gh at h
 split at h
 ·assumption
 ·cases h
def xL{e:aP}{ks:List Int}(h:(gh e ks).2=0):VE e:=Rt (qg h)
def KM{e:aP}(h:e.Nodes.length=0):VE e:=fun n hn=>by
 rw [rN h]at hn;cases hn
def JA{e:aP}{ks:List Int}(hl:e.Nodes.length<=5000){b:Bool}(h:kf e ks=some b)(K:b=true):VE e:=by
 rw [DV e ks hl]at h
 cases h
 unfold HG at K
 simp only [lq,oJ]at K
 exact xL K.1
def NO: ∀(items:List aP) (ob:al) {r:Bool×al},(∀e∈items,e.Nodes.length<=5000)->ew items ob=some r->r.1=true-> ∀e∈items,VE e
 |[],_,_,_,_,_=>fun e he=>by cases he
 |e::tl,ob,r,hl,h,hr=>by
  unfold ew at h
  rw [m4 e _ (by have:=hl e (nA ..);omega),bg]at h
  by_cases hk:(gh e ob.a_).2=0
  ·rw [aR (by simp [hk])]at h
   obtain⟨l4,_,h⟩:=bs h
   intro x V
   rcases jf.1 V with rfl|V
   ·exact xL hk
   ·exact NO tl _ (fun y hy=>hl y (pp _ hy)) h hr x V
  ·rw [bh (by simpa using hk)]at h
   cases h
   cases hr
def YS{g:eS}{a:List Int}(h:(Bs g a).2=true):VE g.Arg:=by
 unfold Bs at h
 split at h
 ·exact KM (by simpa using h)
 ·split at h
  ·simp only [lq,oJ]at h;exact xL h.1.1.1
  ·split at h
   ·simp only [lq,oJ]at h;exact xL h.1.1
   ·simp only [lq,oJ]at h;exact xL h.1.1
def EK{l:al}(H: ∀g∈l.n.Aggs,g.Arg.Nodes.length<=5000)(hgl:l.n.Aggs.length<=5000): ∀(ks R:List Int) {r:Bool×al},R.length+ks.length<=5000->dw l ks {l with result:=R}=some r->r.1=true-> ∀g∈l.n.Aggs,VE g.Arg
 |[],R,r,hR,h,hr=>by
  unfold dw at h
  rw [Mv l.n.Aggs _ R H (by simp at hR;omega)]at h
  cases h
  simp only [lq]at hr
  exact fun g hg' =>YS (kQ.1 hr.2 g hg')
 |k::tl,R,r,hR,h,hr=>by
  simp only [iB]at hR
  unfold dw at h
  split at h
  ·cases h;cases hr
  ·obtain⟨e2,_,h⟩:=bs h
   obtain⟨l9,h9,h⟩:=bs h
   have h9' :app R [e2]=some l9:=h9
   rw [cK (by simp;omega)]at h9'
   cases h9'
   exact EK H hgl tl (R++[e2]) (by simp;omega) h hr
def Bd{nx:Nat->Bool->al->Option (Bool×al)}{i:Nat}{e:eS}{ok:Bool}{ob:al}{e3:Int}{x:Bool}{r:Bool×al}(h:hZ nx i e ok ob e3 x=some r): ∃ok' ob',nx (i+1) ok' ob' =some r/\(ok' =true->ok=true/\e.Arg.Nodes.length=0):=by
 unfold hZ at h
 split at h
 ·exact⟨_,_,h,fun h=>by simp at h;exact⟨h.1.1,by rw [h.1.2];rfl⟩⟩
 ·exact⟨_,_,h,fun h=>by cases h⟩
def Be{l:al}{nx:Nat->Bool->al->Option (Bool×al)}{i:Nat}{e:eS}{ok:Bool}{ob:al}{e3:Int}{x:Bool}{r:Bool×al}(h:fD l nx i e ok ob e3 x=some r): ∃ok' ob',nx (i+1) ok' ob' =some r/\(ok' =true->ok=true/\e.Arg.Nodes.length=0):=by
 unfold fD at h
 split at h
 ·exact⟨_,_,h,fun h=>by simp at h;exact⟨h.1.1,by rw [h.1.2];rfl⟩⟩
 ·split at h
  ·obtain⟨e4,_,h⟩:=bs h
   obtain⟨st,_,h⟩:=bs h
   exact⟨_,_,h,fun h=>by simp at h;exact⟨h.1.1,by rw [h.1.2];rfl⟩⟩
  ·split at h
   ·exact Bd h
   ·exact Bd h
def Bb{l:al}: ∀(gs:List eS) (i:Nat) (ok:Bool) (ob:al) {r:Bool×al},ca l gs i ok ob=some r->r.1=true->ok=true/\ ∀g∈gs,g.Arg.Nodes.length=0
 |[],i,ok,ob,r,h,hr=>by
  unfold ca at h
  cases h
  exact⟨hr,fun g H=>by cases H⟩
 |g::gs,i,ok,ob,r,h,hr=>by
  unfold ca at h
  obtain⟨e3,_,h⟩:=bs h
  have: ∃ok' ob',ca l gs (i+1) ok' ob' =some r/\(ok' =true->ok=true/\g.Arg.Nodes.length=0):=by
   split at h
   ·exact Be h
   ·exact Be h
  obtain⟨ok',ob',Y,X⟩:=this
  obtain⟨d,h4⟩:=Bb gs _ _ _ Y hr
  obtain⟨h5,h6⟩:=X d
  refine⟨h5,fun x V=>?_⟩
  rcases jf.1 V with rfl|V
  ·exact h6
  ·exact h4 x V
def Bc{l:al}{R:List Int}: ∀(ks:List Int) (i:Nat) (ok:Bool) {r:Bool×al},d5 l R ks i ok=some r->r.1=true-> ∀g∈l.n.Aggs,g.Arg.Nodes.length=0
 |[],i,ok,r,h,hr=>by
  unfold d5 at h
  exact(Bb _ _ _ _ h hr).2
 |k::ks,i,ok,r,h,hr=>by
  unfold d5 at h
  obtain⟨t,_,h⟩:=bs h
  exact Bc ks _ _ h hr
def YO{n:aa}(hn:i0 n){l:al}(hl:l.n=n){r:Bool×al}(h:nU n.Op l ()=some r)(hr:r.1=true):VN n:=by
 subst hl
 refine⟨fun ho=>?_,fun ho=>?_,fun ho=>?_⟩
 ·rcases ho with ho|ho
  ·rw [ho]at h
   have h:gZ l=some r:=h
   unfold gZ at h
   obtain⟨c,_,h⟩:=bs h
   obtain⟨b,Y,h⟩:=bs h
   cases h
   exact JA hn.cond Y hr
  ·rw [ho]at h
   have h:fK l=some r:=h
   unfold fK at h
   obtain⟨b,Y,h⟩:=bs h
   cases h
   exact JA hn.cond Y hr
 ·rcases ho with ho|ho|ho
  ·rw [ho]at h
   have h:eo l=some r:=h
   exact EK hn.args hn.aggs l.n.Keys [] (by have:=hn.keys;simpa using this) h hr
  ·rw [ho]at h
   have h:dY l=some r:=h
   unfold dY at h
   obtain⟨q,Y,h⟩:=bs h
   by_cases hq:q.1=true
   ·exact EK hn.args hn.aggs l.n.Keys [] (by have:=hn.keys;simpa using this) Y hq
   ·rw [bh (by simpa using hq)]at h
    cases h;cases hr
  ·rw [ho]at h
   have h:dA l=some r:=h
   unfold dA at h
   obtain⟨e,_,h⟩:=bs h
   split at h
   ·cases h;cases hr
   ·obtain⟨c,_,h⟩:=bs h
    exact fun g H=>KM (Bc _ _ _ h hr g H)
 ·rw [ho]at h
  have h:iG l=some r:=h
  exact NO l.n.Items _ hn.exprs h hr
def vJ{l:al}{i:Int}{ask:al->Unit->Option (Bool×al)}{e:aa}{r:Int}: ∀(tl:List Int) (i5:Nat) (a b:List Int) {q:Bool×al},bd l i ask e r tl i5 a b=some q->q.1=true-> ∃l0 r2,l0.n=e/\ask l0 ()=some r2/\r2.1=true
 |[],i5,a,b,q,h,hq=>by
  unfold bd at h
  split at h
  ·cases h;cases hq
  ·obtain⟨r2,X,h⟩:=bs h
   by_cases hr:r2.1=true
   ·exact⟨_,r2,rfl,X,hr⟩
   ·rw [bh (by simp [hr])]at h
    cases h;cases hq
 |p::tl,i5,a,b,q,h,hq=>by
  unfold bd at h
  obtain⟨e2,_,h⟩:=bs h
  obtain⟨t1,_,h⟩:=bs h
  split at h
  ·cases h;cases hq
  ·split at h
   ·exact vJ tl _ _ _ h hq
   ·exact vJ tl _ _ _ h hq
def Pe{l:al}{i:Int}{ask:al->Unit->Option (Bool×al)}{q:Bool×al}(h:dh l i ask=some q)(hq:q.1=true){e:aa}(he:gR l.nodes i=some e): ∃l0 r2,l0.n=e/\ask l0 ()=some r2/\r2.1=true:=by
 unfold dh at h
 rw [he,bg]at h
 obtain⟨r,_,h⟩:=bs h
 obtain⟨t,_,h⟩:=bs h
 split at h
 ·cases h;cases hq
 ·obtain⟨y,_,h⟩:=bs h
  split at h
  ·cases h;cases hq
  ·obtain⟨y1,_,h⟩:=bs h
   exact vJ _ _ _ _ h hq
def N3{ns:List aa}(hs:mq ns): ∀(tl:List aa) (i:Nat) (l:al),ns.drop i=tl->Qt ns l i-> ∀{out:List (List Int)} {w:Int},fd ns ((lz).getD []) tl i (-1) l=some (out,w,0)-> ∀n∈tl,VN n
 |[],_,_,_,_,_,_,_=>fun n hn=>by cases hn
 |e::tl,i,l,hd,hS,out,w,h=>by
  obtain⟨hidx,hi,hd'⟩:=pe hd
  have hidx' :=hidx
  rw [eU]at hidx
  obtain⟨ok,l',g1,g2,g3⟩:=BK hS hs hidx tl
  unfold fd at h
  have g1' :dh l (i:Int) ((tZ ((lz).getD []) e.Op).getD (fun _ _=>none))=some (ok,l'):=g1
  rw [g1',bg]at h
  cases ok with
  |false=>
   rw [bh (by rfl)]at h
   unfold jE at h
   rw [aR (by simp;omega),pf l' (by omega)]at h
   cases h
  |true=>
   rw [aR (by simp)]at h
   have hse:=hs.n e (s5 hidx)
   obtain⟨l0,r2,k1,k2,k3⟩:=Pe g1 rfl (by rw [hS.k.nodes];exact hidx')
   intro n hn
   rcases jf.1 hn with rfl|hn
   ·exact YO hse k1 k2 k3
   ·exact N3 hs tl (i+1) l' hd' (g2 rfl).1 h n hn
def Tu{ns:List aa}(hs:mq ns){out:List (List Int)}{w:Int}(h:iH ns=some (out,w,0)): ∀n∈ns,VN n:=by
 unfold iH at h
 split at h
 ·cases h
 ·exact N3 hs ns 0 ⟨ns,[],[],⟨0,0,0,0,[],false,⟨[]⟩,[],[],[],[],0⟩,[],[],[]⟩ rfl ⟨⟨rfl,rfl,fun p hp=>(by cases hp),eg _,fun k hk=>(by cases hk),fun j hj=>by omega⟩,.nil,fun k hk=>by cases hk⟩ h
end Go.Proofs.YtdohlidddcgfjaaGreat


/- bT of this claim: G4. -/
set_option linter.all false
namespace Go.Proofs.YtdohlidddcgfjaaGreat
open Go

def TD{α:Type} [DecidableEq α]{g:List α->Nat->Option Bool}{s2:List α}{P:α->Prop}(h0: ∀i,g [] i=some true)(Y: ∀e tl i,P e->g (e::tl) i=(gR s2 (i:Int)).bind fun e1=>if e=e1 then g tl (i+1)else some false): ∀(l:List α) (i:Nat),(∀e∈l,P e)->i+l.length=s2.length->g l i=some (decide (l=s2.drop i))
 |[],i,_,hl=>by
  rw [h0]
  simp only [uY]at hl
  rw [Fz (by omega)]
  simp
 |e::tl,i,hp,hl=>by
  simp only [iB]at hl
  have hi:i<s2.length:=by omega
  rw [Y e tl i (hp e (nA ..)),eU,tM hi,bg,BE hi]
  by_cases h:e=s2[i]
  ·rw [bh h,TD h0 Y tl (i+1) (fun x V=>hp x (pp _ V)) (by omega),<-h]
   congr 1
   rw [Af]
   exact⟨fun hh=>by rw [<-hh],fun hh=>(xe hh).2⟩
  ·rw [aR h,Cq (fun hh=>h (xe hh).1)]
def Vu{α:Type} [DecidableEq α]{g:List α->Nat->Option Bool}{s1 s2:List α}(h:s1.length=s2.length->g s1 0=some (decide (s1=s2.drop 0))):(if((s1.length:Int) !=(s2.length:Int))then some false else g s1 0)=some (decide (s1=s2)):=by
 by_cases hl:s1.length=s2.length
 ·rw [aR (by simp [hl]),h hl,BB]
 ·rw [bh (by simp;omega),Cq (fun hh=>hl (by rw [hh]))]
def Dw{α:Type}{p:Prop} [Decidable p](x y:α):(if(!decide p)=true then x else y)=if p then y else x:=by
 by_cases h:p<;>simp [h]
def ym(a b:List Int):il a b=some (decide (a=b)):=by
 unfold il
 refine Vu fun hl=>TD (P:=fun _=>True) (fun _=>rfl) (fun e tl i _=>?_) a 0 (fun _ _=>trivial) (by simpa using hl)
 conv=>lhs;unfold jY
 congr 1;funext e1
 by_cases h:e=e1<;>simp [h]
def Ld(a b:List kg):hM a b=some (decide (a=b)):=by
 unfold hM
 refine Vu fun hl=>TD (P:=fun _=>True) (fun _=>rfl) (fun e tl i _=>?_) a 0 (fun _ _=>trivial) (by simpa using hl)
 conv=>lhs;unfold gj
 congr 1;funext e1
 exact Dw _ _
def Ng(a b:List ap):fV a b=some (decide (a=b)):=by
 unfold fV
 refine Vu fun hl=>TD (P:=fun _=>True) (fun _=>rfl) (fun e tl i _=>?_) a 0 (fun _ _=>trivial) (by simpa using hl)
 conv=>lhs;unfold fa
 congr 1;funext e1
 exact Dw _ _
def Lc(a b:List am):dR a b=some (decide (a=b)):=by
 unfold dR
 refine Vu fun hl=>TD (P:=fun _=>True) (fun _=>rfl) (fun e tl i _=>?_) a 0 (fun _ _=>trivial) (by simpa using hl)
 conv=>lhs;unfold dC
 congr 1;funext e1
 exact Dw _ _
def Bo{α:Type} [DecidableEq α]{f:α->α->Option Bool}{e e1:α}{x y:Option Bool}(h:f e e1=some (decide (e=e1))):((f e e1).bind fun r=>if(!r)=true then y else x)=if e=e1 then x else y:=by
 rw [h,bg];exact Dw _ _
def I7{f:List am->List am->Option Bool}(hf: ∀x y,f x y=some (decide (x=y)))(a b:List (List am)):cn a b f=some (decide (a=b)):=by
 unfold cn
 refine Vu fun hl=>TD (P:=fun _=>True) (fun _=>rfl) (fun e tl i _=>?_) a 0 (fun _ _=>trivial) (by simpa using hl)
 conv=>lhs;unfold b8
 congr 1;funext e1
 exact Bo (hf e e1)
def I8{f:eS->eS->Option Bool}(hf: ∀x y,f x y=some (decide (x=y)))(a b:List eS):dp a b f=some (decide (a=b)):=by
 unfold dp
 refine Vu fun hl=>TD (P:=fun _=>True) (fun _=>rfl) (fun e tl i _=>?_) a 0 (fun _ _=>trivial) (by simpa using hl)
 conv=>lhs;unfold da
 congr 1;funext e1
 exact Bo (hf e e1)
def F3{f:aP->aP->Option Bool}(hf: ∀x y,f x y=some (decide (x=y)))(a b:List aP):cX a b f=some (decide (a=b)):=by
 unfold cX
 refine Vu fun hl=>TD (P:=fun _=>True) (fun _=>rfl) (fun e tl i _=>?_) a 0 (fun _ _=>trivial) (by simpa using hl)
 conv=>lhs;unfold cR
 congr 1;funext e1
 exact Bo (hf e e1)
def F1{f:aa->aa->Option Bool}(hf: ∀x y,f x y=some (decide (x=y)))(a b:List aa):cN a b f=some (decide (a=b)):=by
 unfold cN
 refine Vu fun hl=>TD (P:=fun _=>True) (fun _=>rfl) (fun e tl i _=>?_) a 0 (fun _ _=>trivial) (by simpa using hl)
 conv=>lhs;unfold cJ
 congr 1;funext e1
 exact Bo (hf e e1)
def F2{f:di->di->Option Bool}(hf: ∀x y,f x y=some (decide (x=y)))(a b:List di):cW a b f=some (decide (a=b)):=by
 unfold cW
 refine Vu fun hl=>TD (P:=fun _=>True) (fun _=>rfl) (fun e tl i _=>?_) a 0 (fun _ _=>trivial) (by simpa using hl)
 conv=>lhs;unfold cQ
 congr 1;funext e1
 exact Bo (hf e e1)
def iS{p q:Bool}{x:Option Bool}(h:x=some q):(if p=true then(x.bind fun r=>some r)else some false)=some (p&&q):=by
 subst h
 cases p<;>rfl
def ya(a b:aP):sX a b=some (decide (a=b)):=by
 unfold sX
 rw [Ng,bg]
 cases a;cases b;simp
def M7(a b:eS):py a b=some (decide (a=b)):=by
 unfold py
 rw [iS (ya _ _),bg]
 cases a;cases b;simp [Bool.beq_eq_decide_eq]
def Kc(a b:aa):oh a b=some (decide (a=b)):=by
 unfold oh
 rw [iS (ym _ _),bg,iS (ym _ _),bg,iS (Ld _ _),bg,iS (ya _ _),bg,iS (I8 M7 _ _),bg,iS (F3 ya _ _),bg]
 cases a;cases b
 congr 1
 rw [w9]
 simp only [lq,oJ,hX,aa.mk.injEq]
 grind
def Ky(a b:di):rY oh a b=some (decide (a=b)):=by
 unfold rY
 rw [iS (ym _ _),bg,iS (F1 Kc _ _),bg]
 cases a;cases b
 congr 1
 rw [w9]
 simp only [lq,oJ,hX,di.mk.injEq]
 grind
def JS(a b:cT):yy a b=some (decide (a=b)):=by
 unfold yy
 rw [F2 Ky,bg]
 cases a;cases b;simp
def FM(a b:aI):o0 a b=some (decide (a=b)):=by
 unfold o0
 rw [I7 (fun x y=>by unfold pU;rw [Lc,bg]),bg]
 obtain⟨k,ae,q,l,⟨r,e,c⟩⟩:=a
 obtain⟨k',s',q',l',⟨r',e',c'⟩⟩:=b
 congr 1
 rw [w9]
 simp only [lq,oJ,hX,aI.mk.injEq,bI.mk.injEq]
 grind
def uR(a b:bR):m1 a b=some (decide (a=b)):=by
 unfold m1
 rw [iS (FM _ _),bg,iS (JS _ _),bg]
 cases a;cases b
 congr 1
 rw [w9]
 simp only [lq,oJ,hX,bR.mk.injEq,List.cons.injEq]
 grind
end Go.Proofs.YtdohlidddcgfjaaGreat


/- bT of this claim: G5. -/
set_option linter.all false
namespace Go.Proofs.YtdohlidddcgfjaaGreat
open Go

def V2(r:List am):List Int:=IntKind.u8.wrap (r.length:Int)::r.flatMap vB
structure Zb(l:List (List am)):Prop where
 len:l.length<=10
 r: ∀r∈l,r.length<=20/\ ∀v∈r,v.S.length<=100
def Py(r:List am):List Int×Int:=if 16<r.length then([],3)else if r.all gm then(V2 r,0)else([],120)
def A1: ∀(l:List am) (b:List Int),(∀v∈l,v.S.length<=100)->b.length+117*l.length<=50000000000->lA l b=some (if l.all gm then(b++l.flatMap vB,0)else([],120))
 |[],b,_,_=>by unfold lA;simp
 |v::l,b,hs,h=>by
  have hv:=hs v (nA ..)
  have hvl:=HB v
  simp only [iB,Ap]at h
  unfold lA
  rw [yc v (by omega),bg]
  by_cases hr:gm v=true
  ·rw [bh hr,aR (by simp)]
   show((app b (vB v)).bind _)=_
   rw [cK (by omega),bg,A1 l _ (fun x V=>hs x (pp _ V)) (by simp;omega)]
   simp [hr]
  ·rw [aR hr,bh (by simp)]
   simp [hr]
def KR(r:List am)(h:r.length<=20/\ ∀v∈r,v.S.length<=100):yK r=some (Py r):=by
 unfold yK Py
 by_cases hl:16<r.length
 ·rw [bh (by simp;omega),bh hl]
 ·rw [aR (by simp;omega),aR hl]
  unfold wv
  rw [A1 r _ h.2 (by simp;omega),bg]
  cases r.all gm<;>rfl
def NH(r:List am)(h:r.length<=20/\ ∀v∈r,v.S.length<=100):(Py r).1.length<=2341:=by
 have Y:=uu (f:=vB) (k:=117) r fun v hv=>by have:=HB v;have:=h.2 v hv;omega
 have:=h.1
 unfold Py
 split
 ·simp
 ·split
  ·simp only [V2,iB];omega
  ·simp
def VA(r:List am):pC (Py r).1:=by
 unfold Py
 split
 ·exact pL
 ·split
  ·exact iu (sa _ fun v _=>Tg v)
  ·exact pL
def QJ:List (List am)->Nat->List Int->List Int×Int×Int
 |[],_,b=>(b,0,0)
 |r::l,i,b=>if(Py r).2=0 then QJ l (i+1) (b++(Py r).1)else([],i,(Py r).2)
def CP: ∀(l:List (List am)) (i:Nat) (b:List Int) (a e:Int),(∀r∈l,r.length<=20/\ ∀v∈r,v.S.length<=100)->b.length+2341*l.length<=50000000000->e=0->nw l i b a e=some (QJ l i b)
 |[],i,b,a,e,_,_,he=>by
  subst he
  unfold nw pB
  rw [aR (by simp)];rfl
 |r::l,i,b,a,e,hs,h,_=>by
  have hr:=hs r (nA ..)
  have hrl:=NH r hr
  simp only [iB,Ap]at h
  unfold nw
  rw [KR r hr,bg]
  unfold QJ
  by_cases h0:(Py r).2=0
  ·rw [aR (by simp [h0]),bh h0,cK (by omega),bg,CP l (i+1) _ a _ (fun x V=>hs x (pp _ V)) (by simp;omega) h0]
  ·rw [bh (by simpa using h0),aR h0]
   unfold pB
   rw [bh (by simpa using h0)]
def TB(l:List (List am)):List Int×Int×Int:=QJ l 0 (eQ (l.length:Int) 2)
def IN(l:List (List am))(hs:Zb l):ww l=some (TB l):=by
 have:=hs.len
 unfold ww
 rw [aR (by simp;omega),xG _ _ (by simp),bg,V8 (by omega),m7,CP l 0 _ _ _ hs.r (by simp [eK];omega) rfl]
 rfl
def N4: ∀(l:List (List am)) (i:Nat) (b:List Int),(∀r∈l,r.length<=20/\ ∀v∈r,v.S.length<=100)->(QJ l i b).1.length<=b.length+2341*l.length
 |[],i,b,_=>by simp [QJ]
 |r::l,i,b,hs=>by
  have hrl:=NH r (hs r (nA ..))
  unfold QJ
  split
  ·have:=N4 l (i+1) (b++(Py r).1) fun x V=>hs x (pp _ V)
   rw [kw]at this
   simp only [iB,Ap];omega
  ·simp
def OL: ∀(l:List (List am)) (i:Nat) (b:List Int),pC b->pC (QJ l i b).1
 |[],i,b,h=>h
 |r::l,i,b,h=>by
  unfold QJ
  split
  ·exact OL l (i+1) _ (ic h (VA r))
  ·exact pL
def N2(l:List (List am))(hs:Zb l):(TB l).1.length<=30000:=by
 have:=N4 l 0 (eQ (l.length:Int) 2) hs.r
 have:=hs.len
 rw [eK]at*
 unfold TB;omega
def VC(l:List (List am)):pC (TB l).1:=OL l 0 _ (jw _ _)
def Az(n:Nat):Nat->List Int
 |0=>[]
 |k+1=>((n%256:Nat):Int)::Az (n/256) k
def NF: ∀(k n:Nat) (out:List Int),out.length+k<=60000000000->nj k out (n:Int)=some (out++Az n k)
 |0,n,out,_=>by unfold nj;simp [Az]
 |k+1,n,out,h=>by
  unfold nj
  rw [show IntKind.u8.wrap (n:Int)=((n%256:Nat):Int) by rw [BC];omega,cK (by simp;omega),bg,show((n:Int).fdiv (2^(min (Int.toNat (8:Int)) IntKind.u32.bits)))=((n/256:Nat):Int) by
   show(n:Int).fdiv 256=_
   rw [Nr _ (by omega)];omega,NF k (n/256) _ (by simp;omega),pD]
  rfl
def D2{f:di}(h:Zd f):mq f.Nodes:=by
 refine⟨by have:=h.len;omega,fun n hn=>?_⟩
 have k:=h.n n hn
 have:=k.cond.len;have:=k.kinds;have:=k.keys;have:=k.order;have:=k.items;have:=k.aggs
 exact⟨by omega,by omega,by omega,by omega,by omega,by omega,fun g H=>by have:=(k.arg g H).len;omega,fun e he=>by have:=(k.item e he).len;omega⟩
def UC(ns:List aa):Bool:=match iH ns with
 |some r=>r.2.2==0
 |none=>false
def Qm(c:Int):Bool:=decide (c<0)||decide (16<=c)
def CI(f:di):Bool:=UC f.Nodes&&((f.At==1)||(f.At==2))&&((decide (1<=f.Way)&&decide (f.Way<=4))&&decide ((f.Cols.length:Int)<=16)&& !(f.Cols.any Qm))
def ze(p:cT):Bool:=(decide ((1:Int)<=(p.Frags.length:Int))&&decide ((p.Frags.length:Int)<=30))&&p.Frags.all CI
def CF{f:di}(h:Zd f): ∃out w e,iH f.Nodes=some (out,w,e)/\((e=0/\UC f.Nodes=true/\(∀n∈f.Nodes,VN n)/\rU f.Nodes=some (out,-1))\/(e=291/\UC f.Nodes=false/\ ∃a:Nat,rU f.Nodes=some ([],(a:Int)))):=by
 obtain⟨out,w,e,Y,X⟩:=Nb (D2 h)
 refine⟨out,w,e,Y,?_⟩
 rcases X with⟨e0,_,d,_⟩|⟨e0,_,d⟩
 ·subst e0
  exact .inl ⟨rfl,by unfold UC;rw [Y];rfl,Tu (D2 h) Y,d⟩
 ·subst e0
  exact .inr ⟨rfl,by unfold UC;rw [Y];rfl,d⟩
def Bq{p q:Bool}{x:Option Bool}(h:x=some q):(if p=true then(x.bind fun r=>some (!r))else some false)=some (p&& !q):=by
 subst h
 cases p<;>rfl
def GS(p:cT): ∀l:List di,(∀f∈l,∃r,iH f.Nodes=some r)->nu p l=some ((decide ((1:Int)<=(p.Frags.length:Int))&&decide ((p.Frags.length:Int)<=30))&&l.all CI)
 |[],_=>by unfold nu;simp
 |f::l,hs=>by
  obtain⟨⟨out,w,e⟩,Y⟩:=hs f (nA ..)
  have hk:UC f.Nodes=(e==0):=by unfold UC;rw [Y]
  unfold nu
  rw [Y,bg,ku (f:=qL) (g:=Qm) (fun _=>rfl)]
  have D:=Bq (p:=((decide ((1:Int)<=f.Way))&&(decide (f.Way<=(4:Int))))&&(decide ((f.Cols.length:Int)<=(16:Int)))) (rfl:some (f.Cols.any Qm)=some (f.Cols.any Qm))
  rw [D,bg,GS p l fun x V=>hs x (pp _ V)]
  have V:(((e !=(0:Int))||(!((f.At==(1:Int))||(f.At==(2:Int)))))||(!((((decide ((1:Int)<=f.Way))&&(decide (f.Way<=(4:Int))))&&(decide ((f.Cols.length:Int)<=(16:Int))))&& !(f.Cols.any Qm))))= !(CI f):=by
   unfold CI
   rw [hk]
   simp only [bne,Bool.not_and,Bool.not_not]
  show(if _ then _ else _)=_
  rw [V,Aq]
  cases CI f<;>simp
def Iu(p:cT)(hs:Zc p):tw p=some (ze p):=GS p p.Frags fun f hf=>by
 obtain⟨out,w,e,Y,_⟩:=CF (hs.f f hf)
 exact⟨_,Y⟩
def Uz{p:cT}(hs:Zc p)(h:ze p=true): ∀f∈p.Frags,∀n∈f.Nodes,VN n:=fun f hf=>by
 unfold ze at h
 rw [lq]at h
 have Y:=kQ.1 h.2 f hf
 unfold CI at Y
 simp only [lq]at Y
 obtain⟨out,w,e,X,d⟩:=CF (hs.f f hf)
 rcases d with⟨_,_,h4,_⟩|⟨_,h4,_⟩
 ·exact h4
 ·rw [h4]at Y;exact absurd Y.1.1 (by simp)
end Go.Proofs.YtdohlidddcgfjaaGreat


/- bT of this claim: G6. -/
set_option linter.all false
namespace Go.Proofs.YtdohlidddcgfjaaGreat
open Go

def xD: ∀l:List ap,j5 l=some true\/(j5 l=some false/\ ∀n∈l,n.Value.S.length<=100)
 |[]=> .inr ⟨rfl,fun n hn=>by cases hn⟩
 |x::l=>by
  unfold j5
  by_cases h:(decide ((100:Int)<(x.Value.S.length:Int)))=true
  ·rw [bh h];exact .inl rfl
  ·rw [aR h]
   refine(xD l).imp id fun⟨Y,X⟩=>⟨Y,fun n hn=>?_⟩
   rcases jf.1 hn with rfl|hn
   ·simp at h;omega
   ·exact X n hn
def zK(e:aP):lg e=some true\/(lg e=some false/\Tl e):=by
 unfold lg
 by_cases h:(decide ((100:Int)<(e.Nodes.length:Int)))=true
 ·rw [bh h];exact .inl rfl
 ·rw [aR h]
  exact(xD e.Nodes).imp id fun⟨Y,X⟩=>⟨Y,by simp at h;omega,X⟩
def wK(nx:Option Bool): ∀l:List eS,ia nx l=some true\/(ia nx l=nx/\ ∀a∈l,Tl a.Arg)
 |[]=> .inr ⟨rfl,fun n hn=>by cases hn⟩
 |x::l=>by
  unfold ia
  rcases zK x.Arg with h|⟨h,hs⟩
  ·rw [h,bg,bh rfl];exact .inl rfl
  ·rw [h,bg,aR (by simp)]
   refine(wK nx l).imp id fun⟨Y,X⟩=>⟨Y,fun n hn=>?_⟩
   rcases jf.1 hn with rfl|hn
   ·exact hs
   ·exact X n hn
def wL(nx:Option Bool)(e:aa): ∀l:List aP,js nx e l=some true\/(js nx e l=ia nx e.Aggs/\ ∀a∈l,Tl a)
 |[]=> .inr ⟨rfl,fun n hn=>by cases hn⟩
 |x::l=>by
  unfold js
  rcases zK x with h|⟨h,hs⟩
  ·rw [h,bg,bh rfl];exact .inl rfl
  ·rw [h,bg,aR (by simp)]
   refine(wL nx e l).imp id fun⟨Y,X⟩=>⟨Y,fun n hn=>?_⟩
   rcases jf.1 hn with rfl|hn
   ·exact hs
   ·exact X n hn
def wM: ∀l:List aa,eI l=some true\/(eI l=some false/\ ∀n∈l,VM n)
  |[]=> .inr ⟨rfl,fun n hn=>by cases hn⟩
  | x :: l => by
    unfold eI
    by_cases hc:(!(((((decide ((20:Int)<(x.Kinds.length:Int)))||(decide ((20:Int)<(x.Keys.length:Int))))||(decide ((20:Int)<(x.Order.length:Int))))||(decide ((20:Int)<(x.Items.length:Int))))||(decide ((20:Int)<(x.Aggs.length:Int)))))=true
    · rw [bh hc]
      rcases zK x.Cond with h|⟨h,hs⟩
      · rw [h,bg,bg,bh rfl];exact .inl rfl
      · rw [h,bg,bg,aR (by simp)]
        rcases wL (eI l) x x.Items with X|⟨X,d⟩
        · exact .inl X
        · rw [X]
          rcases wK (eI l) x.Aggs with h4|⟨h4,h5⟩
          · exact .inl h4
          · rw [h4]
            refine(wM l).imp id fun⟨h6,h7⟩=>⟨h6,fun n hn=>?_⟩
            rcases jf.1 hn with rfl|hn
            · simp at hc
              exact⟨by omega,by omega,by omega,by omega,by omega,hs,d,h5⟩
            · exact h7 n hn
    · rw [aR hc,bg,bh rfl];exact .inl rfl
def JY(l:List aa):nd l=some true\/(nd l=some false/\l.length<=70/\ ∀n∈l,VM n):=by
 unfold nd
 by_cases h:(decide ((70:Int)<(l.length:Int)))=true
 ·rw [bh h];exact .inl rfl
 ·rw [aR h]
  exact(wM l).imp id fun⟨Y,X⟩=>⟨Y,by simp at h;omega,X⟩
def xC: ∀l:List di,j4 l=some true\/(j4 l=some false/\ ∀f∈l,Zd f)
 |[]=> .inr ⟨rfl,fun n hn=>by cases hn⟩
 |x::l=>by
  unfold j4
  by_cases hc:(!(decide ((40:Int)<(x.Cols.length:Int))))=true
  ·rw [bh hc]
   rcases JY x.Nodes with h|⟨h,Y,X⟩
   ·rw [h,bg,bg,bh rfl];exact .inl rfl
   ·rw [h,bg,bg,aR (by simp)]
    refine(xC l).imp id fun⟨h6,h7⟩=>⟨h6,fun n hn=>?_⟩
    rcases jf.1 hn with rfl|hn
    ·exact⟨by simp at hc;omega,Y,X⟩
    ·exact h7 n hn
  ·rw [aR hc,bg,bh rfl];exact .inl rfl
def Mc(p:cT):ot p=some true\/(ot p=some false/\Zc p):=by
 unfold ot
 by_cases h:(decide ((40:Int)<(p.Frags.length:Int)))=true
 ·rw [bh h];exact .inl rfl
 ·rw [aR h]
  exact(xC p.Frags).imp id fun⟨Y,X⟩=>⟨Y,by simp at h;omega,X⟩
def xA(nx:Option Bool): ∀l:List am,j3 nx l=some true\/(j3 nx l=nx/\ ∀v∈l,v.S.length<=100)
 |[]=> .inr ⟨rfl,fun n hn=>by cases hn⟩
 |x::l=>by
  unfold j3
  by_cases h:(decide ((100:Int)<(x.S.length:Int)))=true
  ·rw [bh h];exact .inl rfl
  ·rw [aR h]
   refine(xA nx l).imp id fun⟨Y,X⟩=>⟨Y,fun n hn=>?_⟩
   rcases jf.1 hn with rfl|hn
   ·simp at h;omega
   ·exact X n hn
def xB: ∀l:List (List am),gK l=some true\/(gK l=some false/\ ∀r∈l,r.length<=20/\ ∀v∈r,v.S.length<=100)
 |[]=> .inr ⟨rfl,fun n hn=>by cases hn⟩
 |x::l=>by
  unfold gK
  by_cases h:(decide ((20:Int)<(x.length:Int)))=true
  ·rw [bh h];exact .inl rfl
  ·rw [aR h]
   rcases xA (gK l) x with X|⟨X,d⟩
   ·exact .inl X
   ·rw [X]
    refine(xB l).imp id fun⟨Y,h4⟩=>⟨Y,fun n hn=>?_⟩
    rcases jf.1 hn with rfl|hn
    ·exact⟨by simp at h;omega,d⟩
    ·exact h4 n hn
def Mb(l:List (List am)):oq l=some true\/(oq l=some false/\Zb l):=by
 unfold oq
 by_cases h:(decide ((10:Int)<(l.length:Int)))=true
 ·rw [bh h];exact .inl rfl
 ·rw [aR h]
  exact(xB l).imp id fun⟨Y,X⟩=>⟨Y,by simp at h;omega,X⟩
structure VL(m:bR):Prop where
 p:Zc m.Plan
 r:Zb m.Packet.Batch.Rows
def RP(m:bR):rn m=some true\/(rn m=some false/\VL m):=by
 unfold rn
 rcases Mc m.Plan with h|⟨h,Y⟩
 ·rw [h,bg,aR (by simp),bg];exact .inl rfl
 ·rw [h,bg,bh (by simp)]
  rcases Mb m.Packet.Batch.Rows with X|⟨X,d⟩
  ·rw [X,bg,bg];exact .inl rfl
  ·rw [X,bg,bg];exact .inr ⟨rfl,Y,d⟩
def De(l:List (List am)):Bool:=(decide ((0:Int)<(l.length:Int))&&decide ((l.length:Int)<=4))&&l.all pR
def IV(b:bI)(seq:Int):Bool:=
 if(decide (seq<1)||decide (1099511627776<seq))=true then false
 else if b.End then((b.Rows.length:Int)==0)&&(b.Count==IntKind.u64.wrap (seq-1))else(b.Count==0)&&De b.Rows
def uk(p:aI):Bool:=(decide (1<=p.Session)&&decide (p.Session<=2147483647))&&
  (if p.Kind=1 then(p.Limit==0)&&IV p.Batch p.Seq
   else if p.Kind=2 then(((((((p.Batch.Rows.length:Int)==0)&&(!p.Batch.End))&&(p.Batch.Count==0))&&decide (1<=p.Seq))&&decide (p.Seq<=1099511627777))&&decide (IntKind.u64.wrap (p.Seq-1)<=p.Limit))&&decide (p.Limit<=1099511627776)
   else false)
def CT{f:List am->Option Bool}{g:List am->Bool}(hf: ∀v,f v=some (g v)): ∀(l:List (List am)) (i:Nat),∃r:Int,dL f l i=some r/\decide (0<=r)=l.any g
 |[],i=>⟨-1,rfl,rfl⟩
 |x::l,i=>by
  unfold dL
  rw [hf,bg,List.any_cons]
  cases h:g x with
  |true=>rw [bh rfl];exact⟨_,rfl,by simp⟩
  |false=>rw [aR (by simp),uH];exact CT hf l (i+1)
def Fq{f:List am->Option Bool}{g:List am->Bool}(hf: ∀v,f v=some (g v))(l:List (List am)):fb l f=some (l.any g):=by
 obtain⟨r,Y,X⟩:=CT hf l 0
 unfold fb iD
 rw [Y,bg,X]
def Ki(l:List (List am)):yF l=some (De l):=by
 unfold yF De
 rw [Bq (Fq (g:=fun r=> !pR r) (fun v=>by
  unfold xI
  rw [HW,bg]
  cases pR v<;>rfl) l),bg]
 congr 2
 rw [<-List.all_eq_not_any_not]
def Io(b:bI)(seq:Int):vX b seq=some (IV b seq):=by
 unfold vX IV
 rw [iS (Ki _),bg]
 split
 ·rfl
 ·split<;>rfl
def FS(b:bI):yE b ⟨[],false,0⟩=some ((((b.Rows.length:Int)==0)&&(!b.End))&&(b.Count==0)):=by
 unfold yE
 rw [iS (JO _ _),bg]
 congr 1
 rw [w9]
 simp
 grind
def So(b:Bool):(if(!b)=true then some (321:Int)else some 0)=some (if b then 0 else 321):=by cases b<;>rfl
def F4(p:aI):oX p=some (if uk p then 0 else 321):=by
 unfold oX vW uk
 rw [bg,iS (Io _ _),bg,iS (FS _),bg,So,So]
 by_cases Y:p.Kind=1
 ·rw [bh (by simp [Y]),bh Y,vG]
 ·rw [aR (by simpa using Y),aR Y]
  by_cases X:p.Kind=2
  ·rw [bh (by simp [X]),bh X]
   congr 2
   rw [w9];simp;grind
  ·rw [aR (by simpa using X),aR X,Bool.and_false]
   rfl
abbrev zP:aI:=⟨0,0,0,0,⟨[],false,0⟩⟩
def Ke(n:Int):Bool:=decide (0<=n)&&decide (n<=8)
def XE(m:bR):Bool:=((Ke m.From&&Ke m.To)&&decide (1<=m.Epoch))&&decide (m.Epoch<=12)
def pQ(m:bR):Bool:=XE m&&
  (if m.Kind=1 then((decide (1<=m.Sites)&&decide (m.Sites<=8))&&ze m.Plan)&&decide (m.Frag=0/\m.Packet=zP/\m.Err=0)
   else if m.Kind=2\/m.Kind=6\/m.Kind=7 then decide (m.Frag=0/\m.Sites=0/\m.Plan=⟨[]⟩/\m.Packet=zP/\m.Err=0)
   else if m.Kind=3\/m.Kind=4 then(((decide (0<=m.Frag)&&decide (m.Frag<30))&&(m.Packet.Kind==(if m.Kind=3 then 1 else 2)))&&uk m.Packet)&&decide (m.Sites=0/\m.Plan=⟨[]⟩/\m.Err=0)
   else if m.Kind=5 then((m.Err==140)||(m.Err==300))&&decide (m.Frag=0/\m.Sites=0/\m.Plan=⟨[]⟩/\m.Packet=zP)
   else false)
def Lx(m:bR):Bool:=
 if m.Kind=1 then decide (m.Frag=0/\m.Packet=zP/\m.Err=0)
 else if m.Kind=3\/m.Kind=4 then decide (m.Sites=0/\m.Plan=⟨[]⟩/\m.Err=0)
 else if m.Kind=5 then decide (m.Frag=0/\m.Sites=0/\m.Plan=⟨[]⟩/\m.Packet=zP)
 else decide (m.Frag=0/\m.Sites=0/\m.Plan=⟨[]⟩/\m.Packet=zP/\m.Err=0)
def FU(m:bR):uq m=some (Lx m):=by
 unfold uq qJ Lx
 simp only [uR,bg,bR.mk.injEq]
 by_cases Y:m.Kind=1
 ·rw [bh (by simp [Y]),bh Y];congr 1;rw [Af];simp
 rw [aR (by simpa using Y),aR Y]
 by_cases d:m.Kind=3
 ·rw [bh (by simp [d]),bh (by simp [d]),bh (.inl d)];congr 1;rw [Af];simp
 rw [aR (by simpa using d)]
 by_cases h4:m.Kind=4
 ·rw [bh (by simp [h4]),bh (.inr h4)];congr 1;rw [Af];simp
 rw [aR (by simpa using h4),aR (show¬(m.Kind=3\/m.Kind=4) by omega)]
 by_cases h5:m.Kind=5
 ·rw [bh (by simp [h5]),bh h5];congr 1;rw [Af];simp
 rw [aR (by simpa using h5),aR h5];congr 1;rw [Af];simp
def IM(m:bR):Bool:=
 if m.Kind=1 then(decide (1<=m.Sites)&&decide (m.Sites<=8))&&ze m.Plan
 else if m.Kind=2\/m.Kind=6\/m.Kind=7 then true
 else if m.Kind=3\/m.Kind=4 then((decide (0<=m.Frag)&&decide (m.Frag<30))&&(m.Packet.Kind==(if m.Kind=3 then 1 else 2)))&&uk m.Packet
 else if m.Kind=5 then(m.Err==140)||(m.Err==300)
 else false
def CN(m:bR)(k:Int):iP m k=some (((decide (0<=m.Frag)&&decide (m.Frag<30))&&(m.Packet.Kind==k))&&uk m.Packet):=by
 unfold iP
 rw [F4]
 have: ∀b c:Bool,((if b=true then((some (if c=true then(0:Int)else 321)).bind fun r=>some (r==(0:Int)))else some false).bind fun t=>some t)=some (b&&c):=by decide
 exact this _ _
def EM(m:bR)(hl:tw m.Plan=some (ze m.Plan)):sG m=some (IM m):=by
 unfold sG nh IM
 rw [iS hl,bg,CN,CN,bg,bg]
 by_cases Y:m.Kind=1
 ·rw [bh (by simp [Y]),bh Y]
 rw [aR (by simpa using Y),aR Y]
 by_cases X:m.Kind=2
 ·rw [bh (by simp [X]),bh (by simp [X]),bh (.inl X)]
 rw [aR (by simpa using X)]
 by_cases h6:m.Kind=6
 ·rw [bh (by simp [h6]),bh (by simp [h6]),bh (.inr (.inl h6))]
 rw [aR (by simpa using h6)]
 by_cases h7:m.Kind=7
 ·rw [bh (by simp [h7]),bh (.inr (.inr h7))]
 rw [aR (by simpa using h7),aR (show¬(m.Kind=2\/m.Kind=6\/m.Kind=7) by omega)]
 by_cases d:m.Kind=3
 ·rw [bh (by simp [d]),bh (show m.Kind=3\/m.Kind=4 from .inl d),bh d]
 rw [aR (by simpa using d)]
 by_cases h4:m.Kind=4
 ·rw [bh (by simp [h4]),bh (show m.Kind=3\/m.Kind=4 from .inr h4),aR d]
 rw [aR (by simpa using h4),aR (show¬(m.Kind=3\/m.Kind=4) by omega)]
 by_cases h5:m.Kind=5
 ·rw [bh (by simp [h5]),bh h5]
 ·rw [aR (by simpa using h5),aR h5]
def FV(m:bR)(hl:tw m.Plan=some (ze m.Plan)):lK m=some (pQ m):=by
 unfold lK
 rw [show nt m.From=some (Ke m.From)from rfl,bg,iS (show nt m.To=some (Ke m.To)from rfl),bg,iS (FU m),bg,iS (EM m hl),bg]
 congr 1
 unfold pQ Lx IM XE
 rw [vG]
 congr 1
 repeat' split
 all_goals first|rfl|(exfalso;omega)|exact Bool.and_comm _ _|(simp;done)
def zg(m:bR)(hs:VL m):lK m=some (pQ m):=FV m (Iu m.Plan hs.p)
def XF(m:bR):List Int:=tN [m.Kind,m.From,m.To,m.Epoch]
def G9(p:aI):List Int:=eQ (IntKind.u64.wrap p.Session) 4++eQ p.Seq 8++fB p.Batch.End::(if p.Batch.End then eQ p.Batch.Count 8 else(TB p.Batch.Rows).1)
def Qr(p:aI):List Int:=eQ (IntKind.u64.wrap p.Session) 4++eQ p.Seq 8++eQ p.Limit 8
def EE(m:bR):List Int:=XF m++(if m.Kind=1 then IntKind.u8.wrap m.Sites::V7 m.Plan else if m.Kind=3 then IntKind.u8.wrap m.Frag::G9 m.Packet else if m.Kind=4 then IntKind.u8.wrap m.Frag::Qr m.Packet else if m.Kind=5 then [fB (m.Err==300)]else [])
def Nu(b:List Int)(p:aI)(hs:Zb p.Batch.Rows)(h:b.length<=1000000000):mi (W0 b) p=some (W0 (b++if p.Kind=2 then Qr p else G9 p)):=by
 have hll:=N2 _ hs
 unfold mi
 show((mT b p.Session).bind _)=_
 rw [xF b _ (by omega),bg,mH _ _ (by simp [eK];omega),bg]
 by_cases X:p.Kind=2
 ·rw [bh (by simp [X]),bh X,mH _ _ (by simp [eK];omega),bg]
  simp [Qr]
 ·rw [aR (by simpa using X),aR X]
  show((gL (W0 _) p.Batch.End).bind _)=_
  rw [Nv _ _ (by simp [eK];omega),bg]
  unfold G9
  cases he:p.Batch.End with
  |true=>
   rw [bh rfl,bh rfl]
   show((jS _ _).bind _)=_
   rw [mH _ _ (by simp [eK];omega),bg]
   simp
  |false=>
   rw [aR (by simp),aR (by simp),IN _ hs,bg]
   show((app _ (TB p.Batch.Rows).1).bind _)=_
   rw [cK (by simp [eK];omega),bg]
   simp
def Lw(m:bR)(hp: ∀b,b.length<=10->ze m.Plan=true->lI (W0 b) m.Plan=some (W0 (b++V7 m.Plan)))(hs:m.Kind=3\/m.Kind=4->uk m.Packet=true->Zb m.Packet.Batch.Rows)(hr:pQ m=true):jT (W0 []) m=some (W0 (EE m)):=by
 unfold pQ at hr
 rw [lq]at hr
 have hr:=hr.2
 unfold jT j6
 rw [mv [] _ (by simp),bg,m7]
 unfold EE
 show(if(m.Kind==(1:Int))=true then _ else _)=_
 by_cases Y:m.Kind=1
 ·rw [bh Y]at hr
  simp only [lq]at hr
  rw [bh (by simp [Y]),bh Y,mv _ _ (by simp [tN]),bg,hp _ (by simp [tN]) hr.1.2,bg]
  simp [XF,tN]
 rw [aR (by simpa using Y),aR Y]
 rw [aR Y]at hr
 by_cases d:m.Kind=3
 ·rw [aR (by omega),bh (.inl d),bh d]at hr
  simp only [lq,oJ]at hr
  rw [bh (by simp [d]),bh (by simp [d]),bh d,mv _ _ (by simp [tN]),bg,Nu _ _ (hs (.inl d) hr.1.2) (by simp [tN]),bg,aR (by omega)]
  simp [XF,tN]
 rw [aR (by simpa using d),aR d]
 by_cases h4:m.Kind=4
 ·rw [aR (by omega),bh (.inr h4),aR d]at hr
  simp only [lq,oJ]at hr
  rw [bh (by simp [h4]),bh h4,mv _ _ (by simp [tN]),bg,Nu _ _ (hs (.inr h4) hr.1.2) (by simp [tN]),bg,bh (by omega)]
  simp [XF,tN]
 rw [aR (by simpa using h4),aR h4]
 by_cases h5:m.Kind=5
 ·rw [bh (by simp [h5]),bh h5,Nv _ _ (by simp [tN]),bg]
  rfl
 ·rw [aR (by simpa using h5),aR h5,pM]
  rfl
def QZ(m:bR)(hs:VL m)(hr:pQ m=true):jT (W0 []) m=some (W0 (EE m)):=
 Lw m (fun b K hl=>Zi b m.Plan hs.p (Uz hs.p hl) (by omega)) (fun _ _=>hs.r) hr
def yL(m:bR):pC (EE m):=by
 unfold EE
 refine ic (OK _) ?_
 split
 ·exact iu (VB _)
 ·split
  ·refine iu (ic (ic (jw _ _) (jw _ _)) (IS _ ?_))
   split
   ·exact jw _ _
   ·exact VC _
  ·split
   ·exact iu (ic (ic (jw _ _) (jw _ _)) (jw _ _))
   ·split
    ·exact IS _ pL
    ·exact pL
def yD(m:bR)(hs:VL m):(EE m).length<=1000000000:=by
 have hpl:=Ul hs.p
 have hll:=N2 _ hs.r
 unfold EE
 rw [kw,XF,TV]
 split
 ·simp;omega
 ·split
  ·simp only [G9,iB,kw,eK,uY]
   split
   ·simp [eK]
   ·omega
  ·split
   ·simp [Qr,eK]
   ·split<;>simp
def Rr(n k:Nat):(Az n k).length=k:=by
 induction k generalizing n with
 |zero=>rfl
 |succ k ih=>simp [Az,ih]
def TT:xJ=some true:=by kernel_rfl
end Go.Proofs.YtdohlidddcgfjaaGreat


/- bT of this claim: H1. -/
set_option linter.all false
namespace Go.Proofs.YtdohlidddcgfjaaGreat
open Go

def A6{n:Nat}(h:n<=900000000):n<fh:=by unfold fh;omega
def rd(b:List Int)(k:Nat)(y:Int):af:=⟨⟨(k:Int),y⟩,b⟩
def uV(b:List Int)(k:Nat)(y:Int):fN (rd b k y)=some y:=by unfold fN;simp [rd]
def yP{b:List Int}{k:Nat}(y:Int)(hk:k<=b.length)(K:b.length<=50000000000):fY (rd b k y)=some ((b.length-k:Nat):Int):=by
 unfold fY
 simp only [rd,nV,lD]
 rw [q7];congr 1;omega
def Oc{α:Type}{b tl:List α}{k:Nat}{e:α}(h:b.drop k=e::tl):gR b (k:Int)=some e:=eF h
def G7{α:Type}{b:List α}{k:Nat}(h:k<b.length): ∃e,b.drop k=e::b.drop (k+1):=⟨b[k],BE h⟩
def D0{i:Nat}(h:i<=50000000000):IntKind.i64.wrap ((i:Int)+1)=((i+1:Nat):Int):=by rw [q7];omega
def VX(x c:Int):Int:=IntKind.u64.wrap ((IntKind.u64.wrap (x*2^(min (Int.toNat (8:Int)) IntKind.u64.bits)))+(IntKind.u64.wrap c))
def R6{b:List Int}(K:b.length<=50000000000): ∀(m n i k f:Nat) (x:Int),i+m=n->n<=50000000000->k+m<=b.length->m<f->
  fM (n:Int) f (i:Int) x (rd b k 0)=some (rd b (k+m) 0,((b.drop k).take m).foldl VX x)
 |0,n,i,k,f+1,x,Y,_,_,_=>by
  unfold fM
  rw [aR (by rw [hX];omega)]
  simp
 |m+1,n,i,k,f+1,x,Y,hn,X,d=>by
  obtain⟨e,he⟩:=G7 (b:=b) (k:=k) (by omega)
  unfold fM
  rw [bh (by rw [hX];omega)]
  have e1:gR (rd b k 0).own (rd b k 0).place.at_=some e:=Oc he
  rw [e1,bg]
  show(some (VX x e)).bind _=_
  rw [bg,D0 (by omega)]
  have e2:({rd b k 0 with place:=({(rd b k 0).place with at_:=IntKind.i64.wrap ((rd b k 0).place.at_+1)}:lZ)}:af)=rd b (k+1) 0:=by
   show(⟨⟨IntKind.i64.wrap ((k:Int)+1),0⟩,b⟩:af)=_
   rw [D0 (by omega)];rfl
  rw [e2,R6 K m n (i+1) (k+1) f (VX x e) (by omega) hn (by omega) (by omega),he,show k+1+m=k+(m+1)from by omega]
  rfl
def Gh{b:List Int}{k n:Nat}(y:Int)(hk:k<=b.length)(K:b.length<=900000000):cm (rd b k y) (n:Int)=
  some (if y≠0 then(0,rd b k y)else if b.length-k<n then(0,rd b k 7)else(((b.drop k).take n).foldl VX 0,rd b (k+n) 0)):=by
 unfold cm nH
 by_cases hy:y=0
 ·subst hy
  rw [aR (by simp [rd]),aR (by rw [hX];omega),yP 0 hk (by omega),bg]
  by_cases hn:b.length-k<n
  ·rw [bh (by rw [hX];omega),aR (by simp),bh hn];rfl
  ·rw [aR (by rw [hX];omega),aR (by simp),aR hn]
   have:=R6 (b:=b) (by omega) n n 0 k fh 0 (by omega) (by omega) (by omega) (A6 (by omega))
   rw [show((0:Nat):Int)=(0:Int)from rfl]at this
   rw [this];rfl
 ·rw [bh (by simp [rd,hy]),bh hy];rfl
def R7{b:List Int}(K:b.length<=50000000000): ∀(m n i k f:Nat) (x:List Int),i+m=n->n<=50000000000->k+m<=b.length->m<f->x.length+m<=60000000000->
  fL (n:Int) f (i:Int) x (rd b k 0)=some (rd b (k+m) 0,x++(b.drop k).take m)
 |0,n,i,k,f+1,x,Y,_,_,_,_=>by
  unfold fL
  rw [aR (by rw [hX];omega)]
  simp
 |m+1,n,i,k,f+1,x,Y,hn,X,d,h4=>by
  obtain⟨e,he⟩:=G7 (b:=b) (k:=k) (by omega)
  unfold fL
  rw [bh (by rw [hX];omega)]
  have e1:gR (rd b k 0).own (rd b k 0).place.at_=some e:=Oc he
  rw [e1,bg]
  unfold pT
  rw [cK (by simp;omega),bg,bg,D0 (by omega)]
  have e2:({rd b k 0 with place:=({(rd b k 0).place with at_:=IntKind.i64.wrap ((rd b k 0).place.at_+1)}:lZ)}:af)=rd b (k+1) 0:=by
   show(⟨⟨IntKind.i64.wrap ((k:Int)+1),0⟩,b⟩:af)=_
   rw [D0 (by omega)];rfl
  rw [e2,R7 K m n (i+1) (k+1) f (x++[e]) (by omega) hn (by omega) (by omega) (by simp;omega),he,show k+1+m=k+(m+1)from by omega,pD]
  rfl
def I0{b:List Int}{k n:Nat}(y:Int)(hk:k<=b.length)(K:b.length<=900000000):jr (rd b k y) (n:Int)=
  some (if y≠0 then([],rd b k y)else if b.length-k<n then([],rd b k 7)else((b.drop k).take n,rd b (k+n) 0)):=by
 unfold jr nG
 by_cases hy:y=0
 ·subst hy
  rw [aR (by simp [rd]),aR (by rw [hX];omega),yP 0 hk (by omega),bg]
  by_cases hn:b.length-k<n
  ·rw [bh (by rw [hX];omega),aR (by simp),bh hn];rfl
  ·rw [aR (by rw [hX];omega),aR (by simp),aR hn]
   have:=R7 (b:=b) (by omega) n n 0 k fh [] (by omega) (by omega) (by omega) (A6 (by omega)) (by simp;omega)
   rw [show((0:Nat):Int)=(0:Int)from rfl]at this
   rw [this];rfl
 ·rw [bh (by simp [rd,hy]),bh hy];rfl
def bn:List Int->Int
 |[]=>0
 |c::l=>c*256^l.length+bn l
def KU{c:Int}{l:List Int}(h:pC (c::l)):(∃n:Nat,n<256/\c=(n:Int))/\pC l:=⟨h c (.head _),fun x V=>h x (.tail _ V)⟩
def WQ{x c:Int}(V:0<=x)(hx' :x<256^7)(hc:0<=c)(hc' :c<256):VX x c=x*256+c:=by
 unfold VX
 rw [show(2:Int)^(min (Int.toNat (8:Int)) IntKind.u64.bits)=256 from rfl,wU,wU,wU]
 omega
def Kz: ∀(l:List Int) (x:Int) (j:Nat),pC l->0<=x->x<256^j->j+l.length<=8->l.foldl VX x=x*256^l.length+bn l
 |[],x,_,_,_,_,_=>by show x=x*256^0+0;rw [Int.pow_zero,Int.mul_one,Int.add_zero]
 |c::l,x,j,h,h0,V,hj=>by
  obtain⟨⟨n,Y,rfl⟩,X⟩:=KU h
  have h7:x<256^7:=by
   have h8:(256:Int)^j<=256^7:=by
    have:(256:Nat)^j<=256^7:=Nat.pow_le_pow_right (by omega) (by simp at hj;omega)
    have h9:((256:Nat):Int)^j<=((256:Nat):Int)^7:=by rw [<-Int.natCast_pow,<-Int.natCast_pow];exact Int.ofNat_le.2 this
    exact h9
   omega
  rw [List.foldl_cons,WQ h0 h7 (by omega) (by omega),Kz l (x*256+n) (j+1) X (by omega) (by rw [Int.pow_succ];omega) (by simp at hj ⊢;omega)]
  simp only [bn,iB,Int.pow_succ]
  rw [Int.add_mul,Int.mul_assoc,Int.mul_comm 256 (256^l.length),Int.add_assoc]
def UH{l:List Int}(h:pC l)(hl:l.length<=8):l.foldl VX 0=bn l:=by
 have:=Kz l 0 0 h (by omega) (by rw [Int.pow_zero];omega) (by omega)
 rw [Int.zero_mul,Int.zero_add]at this;exact this
def yg{l:List Int}(h:pC l)(k:Nat):pC (l.drop k):=fun x V=>h x (List.mem_of_mem_drop V)
def KT{l:List Int}(h:pC l)(k:Nat):pC (l.take k):=fun x V=>h x (List.mem_of_mem_take V)
end Go.Proofs.YtdohlidddcgfjaaGreat


/- bT of this claim: H2. -/
set_option linter.all false
namespace Go.Proofs.YtdohlidddcgfjaaGreat
open Go

class IX(ρ:Type) where
 inv:List Int->ρ->Prop
 bad:ρ->Bool
instance rstR:IX aK:=⟨fun b r=>r.all=b,fun r=>r.bad⟩
instance rstT:IX cB:=⟨fun b t=>t.all=(b.length:Int),fun t=>t.bad⟩
variable{ρ:Type} [IX ρ]
def Ok(b:List Int)(k:Nat)(r:ρ)(o:af):Prop:=IX.inv b r/\IX.bad r=false/\o=rd b k 0/\k<=b.length
def No(b:List Int)(r:ρ)(o:af):Prop:=IX.inv b r/\ ∃k y,o=rd b k y/\k<=b.length/\(IX.bad r=true\/y≠0)
abbrev Pr(α:Type):=List Int->Option (α×List Int)
def Ln(b:List Int){α:Type}(q:Option (α×List Int))(x:α)(r:ρ)(o:af):Prop:=
 match q with
 |some (v,rest)=>x=v/\ ∃k,Ok b k r o/\b.drop k=rest
 |none=>No b r o
structure Rd(b:List Int){α:Type}(f:ρ->af->Option (α×ρ×af))(p:Pr α):Prop where
 ok: ∀k r o,Ok b k r o-> ∃x r' o',f r o=some (x,r',o')/\Ln b (p (b.drop k)) x r' o'
 no: ∀r o,No b r o-> ∃x r' o',f r o=some (x,r',o')/\No b r' o'
def cY{α β:Type}(p:Pr α)(q:α->Pr β):Pr β:=fun l=>(p l).bind fun u=>q u.1 u.2
def lv{α β:Type}(h:α->β)(p:Pr α):Pr β:=fun l=>(p l).map fun u=>(h u.1,u.2)
def Rd.congr{b:List Int}{α:Type}{f g:ρ->af->Option (α×ρ×af)}{p:Pr α}(h:Rd b f p)(e: ∀r o,g r o=f r o):Rd b g p:=
 ⟨fun k r o hk=>by rw [e];exact h.ok k r o hk,fun r o hn=>by rw [e];exact h.no r o hn⟩
def Rd.bind{b:List Int}{α β:Type}{f:ρ->af->Option (α×ρ×af)}{p:Pr α}{g:α->ρ->af->Option (β×ρ×af)}{q:α->Pr β}(hf:Rd b f p)(H: ∀x,Rd b (g x) (q x)):
  Rd b (fun r o=>(f r o).bind fun u=>g u.1 u.2.1 u.2.2) (cY p q):=by
 refine⟨fun k r o hk=>?_,fun r o hn=>?_⟩
 ·obtain⟨x,r1,o1,Y,X⟩:=hf.ok k r o hk
  rw [Y,bg]
  unfold Ln at X
  unfold cY
  cases hp:p (b.drop k)with
  |none=>
   rw [hp]at X
   obtain⟨y,r2,o2,d,h4⟩:=(H x).no r1 o1 X
   exact⟨y,r2,o2,d,h4⟩
  |some v=>
   rw [hp]at X
   obtain⟨rfl,k1,d,h4⟩:=X
   obtain⟨y,r2,o2,h5,h6⟩:=(H v.1).ok k1 r1 o1 d
   rw [h4]at h6
   exact⟨y,r2,o2,h5,h6⟩
 ·obtain⟨x,r1,o1,Y,X⟩:=hf.no r o hn
  rw [Y,bg]
  exact(H x).no r1 o1 X
def IZ{b:List Int}{α:Type}(x:α):Rd b (fun(r:ρ) o=>some (x,r,o)) (fun l=>some (x,l)):=
 ⟨fun k r o hk=>⟨x,r,o,rfl,rfl,k,hk,rfl⟩,fun r o hn=>⟨x,r,o,rfl,hn⟩⟩
def Rd.map{b:List Int}{α β:Type}{f:ρ->af->Option (α×ρ×af)}{p:Pr α}(h:α->β)(hf:Rd b f p):
  Rd b (fun r o=>(f r o).bind fun u=>some (h u.1,u.2.1,u.2.2)) (lv h p):=by
 have:=hf.bind (g:=fun x r o=>some (h x,r,o)) (q:=fun x l=>some (h x,l)) fun x=>IZ (h x)
 have e:lv h p=cY p (fun x l=>some (h x,l)):=by
  funext l;unfold lv cY;cases p l<;>rfl
 rw [e];exact this
def GL{b:List Int}{k:Nat}{r:aK}{o:af}(h:Ok b k r o):c7 r o=some true:=by
 obtain⟨_,X,rfl,_⟩:=h
 have X:r.bad=false:=X
 unfold c7
 rw [X,bh (show(!false)=true from rfl),uV];rfl
def GM{b:List Int}{r:aK}{o:af}(h:No b r o):c7 r o=some false:=by
 obtain⟨_,k,y,rfl,_,X⟩:=h
 have X:r.bad=true\/y≠0:=X
 unfold c7
 cases K:r.bad with
 |true=>simp
 |false=>
  have hy:y≠0:=by rcases X with h|h;rw [K]at h;cases h;exact h
  rw [bh (show(!false)=true from rfl),uV]
  simp [hy]
def Mf{b:List Int}{k:Nat}{r:cB}{o:af}(h:Ok b k r o):d7 r o=some true:=by
 obtain⟨_,X,rfl,_⟩:=h
 have X:r.bad=false:=X
 unfold d7
 rw [X,bh (show(!false)=true from rfl),uV];rfl
def Mg{b:List Int}{r:cB}{o:af}(h:No b r o):d7 r o=some false:=by
 obtain⟨_,k,y,rfl,_,X⟩:=h
 have X:r.bad=true\/y≠0:=X
 unfold d7
 cases K:r.bad with
 |true=>simp
 |false=>
  have hy:y≠0:=by rcases X with h|h;rw [K]at h;cases h;exact h
  rw [bh (show(!false)=true from rfl),uV]
  simp [hy]
structure vF(b:List Int){α E:Type}(I:Nat->E->Prop)(f:E->ρ->af->Option (α×ρ×af×E))(p:E->Pr (α×E)):Prop where
 ok: ∀j e k r o,j<=70000->I j e->Ok b k r o-> ∃x r' o' e',f e r o=some (x,r',o',e')/\I (j+1) e' /\Ln b (p e (b.drop k)) (x,e') r' o'
 no: ∀j e r o,j<=70000->I j e->No b r o-> ∃x r' o' e',f e r o=some (x,r',o',e')/\I (j+1) e' /\No b r' o'
def qG{α E:Type}(p:E->Pr (α×E)):Nat->E->Pr (List α×E)
 |0,e,l=>some (([],e),l)
 |n+1,e,l=>(p e l).bind fun u=>(qG p n u.1.2 u.2).bind fun v=>some ((u.1.1::v.1.1,v.1.2),v.2)
def PR{b:List Int}{α E:Type}{I:Nat->E->Prop}{f:E->ρ->af->Option (α×ρ×af×E)}{p:E->Pr (α×E)}(hf:vF b I f p){okf:ρ->af->Option Bool}(ok1: ∀k r o,Ok b k r o->okf r o=some true)(ok0: ∀r o,No b r o->okf r o=some false)(N:Int)(hN:N<=65535)
  {L:Nat->List α->Int->ρ->af->E->Option (List α×ρ×af×E)}
  (hL: ∀fu out x r o e,L (fu+1) out x r o e=if decide (x<N)=true then(okf r o).bind fun c=>if(!c)=true then some (out,r,o,e)else(f e r o).bind fun u=>(app out [u.1]).bind fun out2=>L fu out2 (IntKind.i64.wrap (x+1)) u.2.1 u.2.2.1 u.2.2.2 else some (out,r,o,e)):
  ∀(m i fu:Nat) (out:List α) (k:Nat) (r:ρ) (o:af) (e:E),(i:Int)+m=N->m<fu->out.length<=i->I i e->Ok b k r o->
   ∃ys r' o' e',L fu out i r o e=some (ys,r',o',e')/\Ln b ((qG p m e (b.drop k)).map fun u=>((out++u.1.1,u.1.2),u.2)) (ys,e') r' o' :=by
 intro m
 induction m with
 |zero=>
  intro i fu out k r o e Y X d h4 h5
  cases fu with
  |zero=>omega
  |succ fu=>
   refine⟨out,r,o,e,?_,by simp [qG],k,h5,rfl⟩
   rw [hL,aR (by rw [hX];omega)]
 |succ m ih=>
  intro i fu out k r o e Y X d h4 h5
  cases fu with
  |zero=>omega
  |succ fu=>
   obtain⟨x,r1,o1,e1,g1,g2,g3⟩:=hf.ok i e k r o (by omega) h4 h5
   rw [hL,bh (by rw [hX];omega),ok1 k r o h5,bg,aR (by simp),g1,bg,cK (by simp;omega),bg,D0 (by omega)]
   unfold qG
   unfold Ln at g3
   cases hp:p e (b.drop k)with
   |none=>
    rw [hp]at g3
    cases fu with
    |zero=>omega
    |succ fu=>
     refine⟨out++[x],r1,o1,e1,?_,g3⟩
     rw [hL,ok0 r1 o1 g3]
     split<;>simp
   |some v=>
    obtain⟨⟨v1,v2⟩,v3⟩:=v
    rw [hp]at g3
    obtain⟨hv,k1,g4,g5⟩:=g3
    cases hv
    obtain⟨ys,r2,o2,e2,q1,q2⟩:=ih (i+1) fu (out++[x]) k1 r1 o1 e1 (by omega) (by omega) (by simp;omega) g2 g4
    refine⟨ys,r2,o2,e2,q1,?_⟩
    rw [g5]at q2
    simp only [bg]
    cases hq:qG p m e1 v3 with
    |none=>rw [hq]at q2;exact q2
    |some w=>rw [hq]at q2;simpa using q2
def Uw{b:List Int}{α E:Type}{okf:ρ->af->Option Bool}(ok0: ∀r o,No b r o->okf r o=some false)(N:Int){L:Nat->List α->Int->ρ->af->E->Option (List α×ρ×af×E)}{g:E->ρ->af->List α->Int->Nat->Option (List α×ρ×af×E)}
  (hL: ∀fu out x r o e,L (fu+1) out x r o e=if decide (x<N)=true then(okf r o).bind fun c=>if(!c)=true then some (out,r,o,e)else g e r o out x fu else some (out,r,o,e))(fu:Nat)(out:List α)(x:Int)(r:ρ)(o:af)(e:E)(h:No b r o):
  L (fu+1) out x r o e=some (out,r,o,e):=by
 rw [hL,ok0 r o h]
 split<;>simp
end Go.Proofs.YtdohlidddcgfjaaGreat


/- bT of this claim: H3. -/
set_option linter.all false
namespace Go.Proofs.YtdohlidddcgfjaaGreat
open Go

def Kw: ∃n,fh=n+1:=⟨fh-1,by have:=A6 (n:=0) (by omega);omega⟩
def AZ{ρ:Type} [IX ρ]{b:List Int}{α E:Type}{I:Nat->E->Prop}{f:E->ρ->af->Option (α×ρ×af×E)}{p:E->Pr (α×E)}(hf:vF b I f p){okf:ρ->af->Option Bool}(ok1: ∀k r o,Ok b k r o->okf r o=some true)(ok0: ∀r o,No b r o->okf r o=some false)(N:Int)(hN:N<=65535)(e0:E)(h0:I 0 e0)
  {L:Nat->List α->Int->ρ->af->E->Option (List α×ρ×af×E)}
  (hL: ∀fu out x r o e,L (fu+1) out x r o e=if decide (x<N)=true then(okf r o).bind fun c=>if(!c)=true then some (out,r,o,e)else(f e r o).bind fun u=>(app out [u.1]).bind fun out2=>L fu out2 (IntKind.i64.wrap (x+1)) u.2.1 u.2.2.1 u.2.2.2 else some (out,r,o,e)):
  Rd b (fun r o=>(L fh [] 0 r o e0).bind fun q=>some (q.1,q.2.1,q.2.2.1)) (fun l=>(qG p N.toNat e0 l).map fun u=>(u.1.1,u.2)):=by
 refine⟨fun k r o hk=>?_,fun r o hn=>?_⟩
 ·rcases Int.lt_or_le N 0 with hneg|hpos
  ·obtain⟨n,hn⟩:=Kw
   rw [hn,hL,aR (by rw [hX];omega),show N.toNat=0 from by omega]
   exact⟨[],r,o,rfl,rfl,k,hk,rfl⟩
  ·obtain⟨ys,r',o',e',Y,X⟩:=PR hf ok1 ok0 N hN hL N.toNat 0 fh [] k r o e0 (by omega) (A6 (by omega)) (by simp) h0 hk
   rw [show((0:Nat):Int)=(0:Int)from rfl]at Y
   rw [Y]
   refine⟨ys,r',o',rfl,?_⟩
   cases hq:qG p N.toNat e0 (b.drop k)with
   |none=>rw [hq]at X;exact X
   |some w=>
    rw [hq]at X
    obtain⟨d,h4⟩:=X
    exact⟨by have:=congrArg Prod.fst d;simpa using this,h4⟩
 ·obtain⟨n,hn'⟩:=Kw
  rw [hn',Uw ok0 N (g:=fun e r o out x fu=>(f e r o).bind fun u=>(app out [u.1]).bind fun out2=>L fu out2 (IntKind.i64.wrap (x+1)) u.2.1 u.2.2.1 u.2.2.2) hL n [] 0 r o e0 hn]
  exact⟨[],r,o,rfl,hn⟩
def pw(n:Nat):Pr Int:=fun l=>if l.length<n then none else some (bn (l.take n),l.drop n)
def wR{ρ:Type}(n:Nat)(r:ρ)(o:af):Option (Int×ρ×af):=(cm o (n:Int)).map fun q=>(q.1,r,q.2)
section
variable{b:List Int}(K:b.length<=900000000)(hby:pC b)
include K hby
def Jv{ρ:Type} [IX ρ](n:Nat)(hn:n<=8):Rd b (wR (ρ:=ρ) n) (pw n):=by
 refine⟨fun k r o ⟨Y,X,d,h4⟩=>?_,fun r o ⟨Y,k,y,d,h4,h5⟩=>?_⟩
 ·subst d
  unfold wR pw
  rw [Gh 0 h4 K,aR (by simp),CV]
  by_cases h:b.length-k<n
  ·rw [bh h,bh h]
   exact⟨0,r,rd b k 7,rfl,Y,k,7,rfl,h4,.inr (by decide)⟩
  ·rw [aR h,aR h]
   refine⟨_,r,_,rfl,UH (KT (yg hby k) n) (by simp;omega),k+n,⟨Y,X,rfl,by omega⟩,by rw [sn]⟩
 ·subst d
  unfold wR
  rw [Gh y h4 K]
  split
  ·exact⟨_,_,_,rfl,Y,k,y,rfl,h4,h5⟩
  ·rename_i hy
   have hbad:IX.bad r=true:=h5.resolve_right hy
   split
   ·exact⟨_,_,_,rfl,Y,k,7,rfl,h4,.inl hbad⟩
   ·exact⟨_,_,_,rfl,Y,k+n,0,rfl,by omega,.inl hbad⟩
end
def h8(x:Int):Int:=IntKind.u8.wrap x
def p8:Pr Int:=lv (fun x=>IntKind.i64.wrap (IntKind.u8.wrap x)) (pw 1)
def lS(r:aK)(o:af):Option (Int×aK×af):=(aO r o).map fun q=>(q.1,r,q.2)
section
variable{b:List Int}(K:b.length<=900000000)(hby:pC b)
include K hby
def nZ:Rd b lS p8:=((Jv K hby 1 (by omega)).map _).congr fun r o=>by
 unfold lS wR aO ck
 rw [show((1:Nat):Int)=1 from rfl]
 cases cm o 1<;>rfl
def Pa{ρ:Type}(r:ρ)(o:af):Option (Int×ρ×af):=(io o).map fun q=>(IntKind.i64.wrap q.1,r,q.2)
def p16:Pr Int:=lv (fun x=>IntKind.i64.wrap (IntKind.u16.wrap x)) (pw 2)
def Ra{ρ:Type} [IX ρ]:Rd b (Pa (ρ:=ρ)) p16:=((Jv K hby 2 (by omega)).map _).congr fun r o=>by
 unfold Pa wR io
 rw [show((2:Nat):Int)=2 from rfl]
 cases cm o 2<;>rfl
def Q9{ρ:Type}(r:ρ)(o:af):Option (Int×ρ×af):=(kR o).map fun q=>(q.1,r,q.2)
def Y0:Pr Int:=lv IntKind.u32.wrap (pw 4)
def Q8{ρ:Type} [IX ρ]:Rd b (Q9 (ρ:=ρ)) Y0:=((Jv K hby 4 (by omega)).map _).congr fun r o=>by
 unfold Q9 wR kR
 rw [show((4:Nat):Int)=4 from rfl]
 cases cm o 4<;>rfl
def HF{ρ:Type}(r:ρ)(o:af):Option (Int×ρ×af):=(dx o).map fun q=>(q.1,r,q.2)
def HE{ρ:Type} [IX ρ]:Rd b (HF (ρ:=ρ)) (pw 8):=(Jv K hby 8 (by omega)).congr fun r o=>by
 unfold HF wR dx
 rw [show((8:Nat):Int)=8 from rfl]
 cases cm o 8<;>rfl
def vi:Pr Bool:=fun l=>(p8 l).bind fun u=>if 1<u.1 then none else some (u.1==1,u.2)
def Do:Rd b ff vi:=by
 have hs:=nZ K hby
 have e: ∀r o,ff r o=(ck o).bind fun r1=>some ((r1.1==(1:Int)),({r with bad:=(r.bad||(decide ((1:Int)<r1.1)))}:aK),r1.2):=fun _ _=>rfl
 have u8: ∀r o x r' o',lS r o=some (x,r',o')-> ∃c,ck o=some (c,o')/\r' =r/\x=IntKind.i64.wrap c/\IntKind.u8.wrap c=c:=by
  intro r o x r' o' h
  unfold lS aO ck at h
  unfold ck
  cases hq:cm o 1 with
  |none=>rw [hq]at h;cases h
  |some q=>
   rw [hq]at h
   cases h
   exact⟨_,rfl,rfl,rfl,by rw [BC,BC];omega⟩
 have wc: ∀c,IntKind.u8.wrap c=c->IntKind.i64.wrap c=c:=fun c h=>by rw [BC]at h;rw [q7];omega
 refine⟨fun k r o hk=>?_,fun r o hn=>?_⟩
 ·obtain⟨x,r1,o1,Y,X⟩:=hs.ok k r o hk
  obtain⟨c,d,rfl,rfl,h4⟩:=u8 r o x r1 o1 Y
  rw [e,d,bg]
  rw [wc c h4]at X
  refine⟨_,_,_,rfl,?_⟩
  unfold vi
  unfold Ln at X
  cases hp:p8 (b.drop k)with
  |none=>
   rw [hp]at X
   obtain⟨g1,k',y,g2,g3,g4⟩:=X
   exact⟨g1,k',y,g2,g3,g4.imp (fun(h:r1.bad=true)=>show(r1.bad||_)=true by rw [h];rfl) id⟩
  |some v=>
   rw [hp]at X
   obtain⟨rfl,k',⟨g1,g2,g3,g4⟩,g5⟩:=X
   by_cases h1c:1<v.1
   ·simp only [bg,bh h1c]
    exact⟨g1,k',0,g3,g4,.inl (show(r1.bad||decide (1<v.1))=true by simp [h1c])⟩
   ·simp only [bg,aR h1c]
    exact⟨rfl,k',⟨g1,(show(r1.bad||decide (1<v.1))=false by rw [show r1.bad=false from g2];simp [h1c]),g3,g4⟩,g5⟩
 ·obtain⟨x,r1,o1,Y,X⟩:=hs.no r o hn
  obtain⟨c,d,rfl,rfl,h4⟩:=u8 r o x r1 o1 Y
  rw [e,d,bg]
  obtain⟨g1,k',y,g2,g3,g4⟩:=X
  exact⟨_,_,_,rfl,g1,k',y,g2,g3,g4.imp (fun(h:r1.bad=true)=>show(r1.bad||_)=true by rw [h];rfl) id⟩
end
def Rd.toE{ρ:Type} [IX ρ]{b:List Int}{α:Type}{f:ρ->af->Option (α×ρ×af)}{p:Pr α}(h:Rd b f p):vF b (fun _ _=>True) (fun(_:Unit) r o=>(f r o).map fun q=>(q.1,q.2.1,q.2.2,())) (fun _ l=>(p l).map fun u=>((u.1,()),u.2)):=by
 refine⟨fun j e k r o _ _ hk=>?_,fun j e r o _ _ hn=>?_⟩
 ·obtain⟨x,r1,o1,Y,X⟩:=h.ok k r o hk
  refine⟨x,r1,o1,(),by rw [Y];rfl,trivial,?_⟩
  unfold Ln at X ⊢
  cases hp:p (b.drop k)with
  |none=>rw [hp]at X;exact X
  |some v=>rw [hp]at X;exact⟨by rw [X.1],X.2⟩
 ·obtain⟨x,r1,o1,Y,X⟩:=h.no r o hn
  exact⟨x,r1,o1,(),by rw [Y];rfl,trivial,X⟩
def pl{α:Type}(p:Pr α):Nat->Pr (List α)
 |0,l=>some ([],l)
 |n+1,l=>(p l).bind fun u=>(pl p n u.2).bind fun v=>some (u.1::v.1,v.2)
def Dj{α:Type}(p:Pr α): ∀(n:Nat) (l:List Int),(qG (fun(_:Unit) l=>(p l).map fun u=>((u.1,()),u.2)) n () l).map (fun u=>(u.1.1,u.2))=pl p n l
 |0,_=>rfl
 |n+1,l=>by
  unfold qG pl
  cases p l with
  |none=>rfl
  |some u=>
   simp only [pr,bg]
   rw [<-Dj p n u.2]
   cases qG (fun(_:Unit) l=>(p l).map fun u=>((u.1,()),u.2)) n () u.2<;>rfl
end Go.Proofs.YtdohlidddcgfjaaGreat


/- bT of this claim: H4. -/
set_option linter.all false
namespace Go.Proofs.YtdohlidddcgfjaaGreat
open Go

variable{ρ:Type} [IX ρ]
def Q7(r:ρ)(o:af):Option (Int×ρ×af):=(ck o).map fun q=>(IntKind.i64.wrap q.1,r,q.2)
def RB(n:Nat)(r:ρ)(o:af):Option (List Int×ρ×af):=(jr o (n:Int)).map fun q=>(q.1,r,q.2)
def RF(n:Nat):Pr (List Int):=fun l=>if l.length<n then none else some (l.take n,l.drop n)
def vm(c:Bool)(t:cB)(o:af):Option (Unit×cB×af):=(cE t o c).map fun t' =>((),t',o)
def ui(c:Bool):Pr Unit:=fun l=>if c then some ((),l)else none
def Cv{α:Type}(okf:ρ->af->Option Bool)(x0:α)(f:ρ->af->Option (α×ρ×af))(r:ρ)(o:af):Option (α×ρ×af):=(okf r o).bind fun c=>if c then f r o else some (x0,r,o)
section
variable{b:List Int}(K:b.length<=900000000)(hby:pC b)
include K hby
def NA:Rd b (Q7 (ρ:=ρ)) p8:=((Jv K hby 1 (by omega)).map _).congr fun r o=>by
 unfold Q7 wR ck
 rw [show((1:Nat):Int)=1 from rfl]
 cases cm o 1<;>rfl
omit hby in
def Xj(n:Nat):Rd b (RB (ρ:=ρ) n) (RF n):=by
 refine⟨fun k r o ⟨Y,X,d,h4⟩=>?_,fun r o ⟨Y,k,y,d,h4,h5⟩=>?_⟩
 ·subst d
  unfold RB RF
  rw [I0 0 h4 K,aR (by simp),CV]
  by_cases h:b.length-k<n
  ·rw [bh h,bh h]
   exact⟨[],r,rd b k 7,rfl,Y,k,7,rfl,h4,.inr (by decide)⟩
  ·rw [aR h,aR h]
   exact⟨_,r,_,rfl,rfl,k+n,⟨Y,X,rfl,by omega⟩,by rw [sn]⟩
 ·subst d
  unfold RB
  rw [I0 y h4 K]
  split
  ·exact⟨_,_,_,rfl,Y,k,y,rfl,h4,h5⟩
  ·rename_i hy
   have hbad:IX.bad r=true:=h5.resolve_right hy
   split
   ·exact⟨_,_,_,rfl,Y,k,7,rfl,h4,.inl hbad⟩
   ·exact⟨_,_,_,rfl,Y,k+n,0,rfl,by omega,.inl hbad⟩
end
def AW{b:List Int}(c:Bool):Rd b (vm c) (ui c):=by
 refine⟨fun k r o ⟨Y,X,d,h4⟩=>?_,fun r o ⟨Y,k,y,d,h4,h5⟩=>?_⟩
 ·subst d
  have X:r.bad=false:=X
  unfold vm cE ui
  rw [X,aR (by simp),uV]
  cases c with
  |true=>exact⟨(),_,_,rfl,rfl,k,⟨Y,rfl,rfl,h4⟩,rfl⟩
  |false=>exact⟨(),_,_,rfl,Y,k,0,rfl,h4,.inl rfl⟩
 ·subst d
  have h5:r.bad=true\/y≠0:=h5
  unfold vm cE
  cases K:r.bad with
  |true=>exact⟨(),_,_,rfl,Y,k,y,rfl,h4,.inl rfl⟩
  |false=>
   have hy:y≠0:=by rcases h5 with h|h;rw [K]at h;cases h;exact h
   rw [aR (by simp),uV]
   exact⟨(),_,_,rfl,Y,k,y,rfl,h4,.inr hy⟩
def IY{b:List Int}{α:Type}{okf:ρ->af->Option Bool}(ok1: ∀k r o,Ok b k r o->okf r o=some true)(ok0: ∀r o,No b r o->okf r o=some false)(x0:α){f:ρ->af->Option (α×ρ×af)}{p:Pr α}(hf:Rd b f p):Rd b (Cv okf x0 f) p:=by
 refine⟨fun k r o hk=>?_,fun r o hn=>?_⟩
 ·unfold Cv
  rw [ok1 k r o hk]
  exact hf.ok k r o hk
 ·unfold Cv
  rw [ok0 r o hn]
  exact⟨x0,r,o,rfl,hn⟩
def E6(v:am):cB->af->Option (am×cB×af):=fun t o=>(vm (gm v) t o).bind fun u=>some (v,u.2.1,u.2.2)
def tt(v:am):Pr am:=cY (ui (gm v)) fun _ l=>some (v,l)
def Bj{b:List Int}(v:am):Rd b (E6 v) (tt v):=(AW _).bind (g:=fun _ t o=>some (v,t,o)) fun _=>IZ v
def v0:am:=⟨0,0,0,[]⟩
def i64(x:Int):Int:=IntKind.i64.wrap x
def dN(c x:Int):cB->af->Option (am×cB×af):=E6 ⟨c,x,0,[]⟩
def Xo(c:Int)(t:cB)(o:af):Option (am×cB×af):=(Q7 t o).bind fun u=>dN c u.1 u.2.1 u.2.2
def XD(c:Int)(t:cB)(o:af):Option (am×cB×af):=(HF t o).bind fun u=>dN c (i64 u.1) u.2.1 u.2.2
def dS(c:Int)(ae:List Int):cB->af->Option (am×cB×af):=E6 ⟨c,0,0,pg ae⟩
def T7(c u:Int)(t:cB)(o:af):Option (am×cB×af):=(Cv d7 [] (RB u.toNat) t o).bind fun ae=>dS c ae.1 ae.2.1 ae.2.2
def T6(c u:Int)(t:cB)(o:af):Option (am×cB×af):=(vm (decide (u<=40)) t o).bind fun w=>T7 c u w.2.1 w.2.2
def WW(c:Int)(t:cB)(o:af):Option (am×cB×af):=(Q7 t o).bind fun u=>T6 c u.1 u.2.1 u.2.2
def dU(c u w:Int):cB->af->Option (am×cB×af):=E6 ⟨c,i64 u,w,[]⟩
def T4(c u:Int)(t:cB)(o:af):Option (am×cB×af):=(HF t o).bind fun w=>dU c u w.1 w.2.1 w.2.2
def Xd(c:Int)(t:cB)(o:af):Option (am×cB×af):=(HF t o).bind fun u=>T4 c u.1 u.2.1 u.2.2
def OM(c:Int):cB->af->Option (am×cB×af):=if c==1 then Xo c else if c==2 then XD c else if c==3 then WW c else if c==4 then Xd c else E6 ⟨c,0,0,[]⟩
def ZQ(c:Int):Pr am:=cY p8 fun u=>tt ⟨c,u,0,[]⟩
def ZS(c:Int):Pr am:=cY (pw 8) fun u=>tt ⟨c,i64 u,0,[]⟩
def RD(c u:Int):Pr am:=cY (RF u.toNat) fun ae=>tt ⟨c,0,0,pg ae⟩
def RC(c u:Int):Pr am:=cY (ui (decide (u<=40))) fun _=>RD c u
def ZP(c:Int):Pr am:=cY p8 (RC c)
def NM(c u:Int):Pr am:=cY (pw 8) fun w=>tt ⟨c,i64 u,w,[]⟩
def ZO(c:Int):Pr am:=cY (pw 8) (NM c)
def GE(c:Int):Pr am:=if c==1 then ZQ c else if c==2 then ZS c else if c==3 then ZP c else if c==4 then ZO c else tt ⟨c,0,0,[]⟩
section
variable{b:List Int}(K:b.length<=900000000)(hby:pC b)
include K hby
def VH(c:Int):Rd b (OM c) (GE c):=by
 have a1:Rd b (Xo c) (ZQ c):=Rd.bind (g:=fun u=>dN c u) (NA K hby) fun u=>Bj _
 have a2:Rd b (XD c) (ZS c):=Rd.bind (g:=fun u=>dN c (i64 u)) (HE K hby) fun u=>Bj _
 have a3: ∀u,Rd b (T7 c u) (RD c u):=fun u=>Rd.bind (g:=fun ae=>dS c ae) (IY (fun _ _ _=>Mf) (fun _ _=>Mg) [] (Xj K _)) fun ae=>Bj _
 have a4: ∀u,Rd b (T6 c u) (RC c u):=fun u=>Rd.bind (g:=fun _=>T7 c u) (AW _) fun _=>a3 u
 have a5:Rd b (WW c) (ZP c):=Rd.bind (g:=T6 c) (NA K hby) a4
 have a6: ∀u,Rd b (T4 c u) (NM c u):=fun u=>Rd.bind (g:=fun w=>dU c u w) (HE K hby) fun w=>Bj _
 have a7:Rd b (Xd c) (ZO c):=Rd.bind (g:=T4 c) (HE K hby) a6
 unfold OM GE
 split
 ·exact a1
 split
 ·exact a2
 split
 ·exact a5
 split
 ·exact a7
 ·exact Bj _
end
def pv:Pr am:=cY p8 fun c=>cY (ui (decide (c<=4))) fun _=>GE c
def Nz(c:Int):cB->af->Option (am×cB×af):=Cv d7 ⟨c,0,0,[]⟩ (OM c)
def Ny(c:Int)(t:cB)(o:af):Option (am×cB×af):=(vm (decide (c<=4)) t o).bind fun u=>Nz c u.2.1 u.2.2
def WV(t:cB)(o:af):Option (am×cB×af):=(Q7 t o).bind fun u=>Ny u.1 u.2.1 u.2.2
def acn(x:Bool):((if x then(0:Int)else 120)==0)=x:=by cases x<;>rfl
def yJ(v:am)(t:cB)(o:af):((ii v).bind fun r=>(cE t o (r==(0:Int))).bind fun t' =>some (v,t',o))=E6 v t o:=by
 rw [qx,bg,acn]
 unfold E6 vm
 cases cE t o (gm v)<;>rfl
def Zm{o:af}{q:Int×af}(h:ck o=some q):0<=IntKind.i64.wrap q.1:=by
 unfold ck at h
 cases hw:cm o 1 with
 |none=>rw [hw]at h;cases h
 |some w=>
  rw [hw]at h
  cases h
  rw [BC,q7]
  omega
def Q3(t:cB)(o:af):j9 t o=WV t o:=by
 unfold j9 WV Q7
 cases Y:ck o with
 |none=>rfl
 |some r=>
  simp only [pr,bg]
  unfold Ny vm
  cases X:cE t r.2 (decide (IntKind.i64.wrap r.1<=4))with
  |none=>rfl
  |some t1=>
   simp only [pr,bg]
   unfold Nz Cv
   cases d:d7 t1 r.2 with
   |none=>rfl
   |some c=>
    cases c with
    |false=>rfl
    |true=>
     simp only [bg,sm,nV,lD,jL]
     unfold OM
     generalize IntKind.i64.wrap r.1=k
     by_cases e1:(k==1)=true
     ·rw [bh e1,bh e1]
      unfold Xo Q7
      cases ck r.2 with
      |none=>rfl
      |some q=>exact yJ _ _ _
     rw [aR e1,aR e1]
     by_cases e2:(k==2)=true
     ·rw [bh e2,bh e2]
      unfold XD HF
      cases dx r.2 with
      |none=>rfl
      |some q=>exact yJ _ _ _
     rw [aR e2,aR e2]
     by_cases e3:(k==3)=true
     ·rw [bh e3,bh e3]
      unfold WW Q7
      cases hq:ck r.2 with
      |none=>rfl
      |some q=>
       simp only [pr,bg]
       unfold T6 vm
       cases cE t1 q.2 (decide (IntKind.i64.wrap q.1<=40))with
       |none=>rfl
       |some t2=>
        simp only [pr,bg]
        unfold T7 Cv
        cases d7 t2 q.2 with
        |none=>rfl
        |some c=>
         cases c with
         |false=>exact yJ _ _ _
         |true=>
          simp only [bg,jL]
          unfold RB
          rw [Int.toNat_of_nonneg (Zm hq)]
          cases jr q.2 (IntKind.i64.wrap q.1)with
          |none=>rfl
          |some ae=>exact yJ _ _ _
     rw [aR e3,aR e3]
     by_cases e4:(k==4)=true
     ·rw [bh e4,bh e4]
      unfold Xd HF
      cases dx r.2 with
      |none=>rfl
      |some q=>
       simp only [pr,bg]
       unfold T4 HF
       cases dx q.2 with
       |none=>rfl
       |some q2=>exact yJ _ _ _
     rw [aR e4,aR e4]
     exact yJ _ _ _
def Jw{b:List Int}(K:b.length<=900000000)(hby:pC b):Rd b j9 pv:=by
 have a1: ∀c,Rd b (Nz c) (GE c):=fun c=>IY (fun _ _ _=>Mf) (fun _ _=>Mg) _ (VH K hby c)
 have a2: ∀c,Rd b (Ny c) (cY (ui (decide (c<=4))) fun _=>GE c):=fun c=>Rd.bind (g:=fun _=>Nz c) (AW _) fun _=>a1 c
 have a3:Rd b WV pv:=Rd.bind (g:=Ny) (NA K hby) a2
 exact a3.congr Q3
end Go.Proofs.YtdohlidddcgfjaaGreat


/- bT of this claim: H5. -/
set_option linter.all false
namespace Go.Proofs.YtdohlidddcgfjaaGreat
open Go

def MZ{α:Type}{xs ys:List α}(h:xs.length=ys.length):ph xs ys=ys:=by
 unfold ph
 rw [h,tS (eg _),Nat.min_self,<-h,Ht (eg _),pM]
def OR{b:List Int}(K:b.length<=900000000):tv b=some (rd b 0 0):=by
 unfold tv
 have h:vI (b.length:Int) (0:Int)=some (List.replicate b.length 0):=by
  unfold vI
  rw [bh (by omega)];simp
 rw [h,bg,bg,MZ (by simp)]
 rfl
def rj:af:=⟨⟨0,0⟩,[]⟩
def zk{b:List Int}(K:b.length<=900000000):tH b=some (⟨rj,(b.length:Int),false⟩,rd b 0 0):=by
 unfold tH
 rw [OR K];rfl
def FW{b:List Int}(K:b.length<=900000000):v8 b=some (⟨rj,b,false⟩,rd b 0 0):=by
 unfold v8
 rw [OR K];rfl
def KY{α:Type}(l:List Int)(p:Pr α)(q:α×Int×Int):Prop:=
 match p l with
 |some (v,rest)=> ∃k:Nat,k<=l.length/\q=(v,(k:Int),0)/\rest=l.drop k
 |none=>q.2.2≠0
def Pf{l:List Int}(hl:l.length<=900000000){v:am}{t:cB}{o:af}(h:Ln l (pv l) v t o): ∃q,lp t o v=some q/\KY l pv q:=by
 unfold Ln at h
 unfold KY lp
 cases hp:pv l with
 |none=>
  rw [hp]at h
  obtain⟨_,k,y,rfl,X,d⟩:=h
  have d:t.bad=true\/y≠0:=d
  cases K:t.bad with
  |true=>exact⟨_,rfl,show(160:Int)≠0 by decide⟩
  |false=>
   have hy:y≠0:=by rcases d with h|h;rw [K]at h;cases h;exact h
   rw [aR (by simp),uV,bg,bh (by simpa using hy),bg]
   exact⟨_,rfl,hy⟩
 |some w=>
  rw [hp]at h
  obtain⟨rfl,k,⟨g1,g2,rfl,g4⟩,g5⟩:=h
  have g1:t.all=(l.length:Int):=g1
  have g2:t.bad=false:=g2
  rw [g2,aR (by simp),uV,bg,aR (by simp),yP 0 g4 (by omega),bg]
  refine⟨_,rfl,k,g4,?_,g5.symm⟩
  rw [g1,q7]
  have:(l.length:Int)-((l.length-k:Nat):Int)=(k:Int):=by omega
  rw [this]
  have:((k:Int)+9223372036854775808)%18446744073709551616-9223372036854775808=(k:Int):=by omega
  simp [this]
def yi{l:List Int}(hl:l.length<=900000000)(hby:pC l): ∃q,pK l=some q/\KY l pv q:=by
 unfold pK
 rw [zk hl,bg]
 obtain⟨v,t,o,Y,X⟩:=(Jw hl hby).ok 0 ⟨rj,(l.length:Int),false⟩ (rd l 0 0) ⟨rfl,rfl,rfl,by omega⟩
 rw [Y,bg]
 obtain⟨q,d,h4⟩:=Pf hl X
 rw [d]
 exact⟨q,rfl,h4⟩
def Dg{b:List Int}(K:b.length<=900000000){r:aK}(h:r.all=b){k:Nat}(y:Int)(hk:k<=b.length):iM r (rd b k y)=some (b.drop k):=by
 unfold iM
 rw [yP y hk (by omega),bg,h]
 have e:IntKind.i64.wrap ((b.length:Int)-((b.length-k:Nat):Int))=(k:Int):=by rw [q7];omega
 rw [e]
 have:dV b (k:Int) (b.length:Int)=some (b.drop k):=by
  rw [sQ hk (eg _),DB]
 rw [this];rfl
def Dd{b:List Int}(K:b.length<=900000000){α:Type}{p:Pr α}{q:α×Int×Int}{k:Nat}(hq:KY (b.drop k) p q):
  (∀r:aK,Ok b k r (rd b k 0)-> ∃r' o',fZ r (rd b k 0) q.2.1 q.2.2=some (r',o')/\Ln b (p (b.drop k)) q.1 r' o')/\
  (∀(r:aK) (y:Int),k<=b.length->No b r (rd b k y)->(r.bad=true\/y≠0)-> ∃r' o',fZ r (rd b k y) q.2.1 q.2.2=some (r',o')/\No b r' o'):=by
 unfold KY at hq
 constructor
 ·intro r ⟨Y,X,_,h4⟩
  unfold fZ Ln
  cases hp:p (b.drop k)with
  |none=>
   rw [hp]at hq
   rw [bh (by simpa using hq)]
   exact⟨_,_,rfl,Y,k,0,rfl,h4,.inl rfl⟩
  |some w=>
   rw [hp]at hq
   obtain⟨j,hj,rfl,hr⟩:=hq
   rw [CV]at hj
   rw [aR (by simp),I0 0 h4 K,aR (by simp),aR (by omega)]
   exact⟨_,_,rfl,rfl,k+j,⟨Y,X,rfl,by omega⟩,by rw [hr,sn]⟩
 ·intro r y hk hn hy
  unfold fZ
  split
  ·exact⟨_,_,rfl,hn.1,k,y,rfl,hk,.inl rfl⟩
  ·rename_i he
   cases hp:p (b.drop k)with
   |none=>rw [hp]at hq;exact absurd hq (by simpa using he)
   |some w=>
    rw [hp]at hq
    obtain⟨j,hj,rfl,hr⟩:=hq
    rw [CV]at hj
    rw [I0 y hk K]
    split
    ·exact⟨_,_,rfl,hn.1,k,y,rfl,hk,hy⟩
    ·rename_i h0
     have hbad:r.bad=true:=hy.resolve_right h0
     split
     ·exact⟨_,_,rfl,hn.1,k,7,rfl,hk,.inl hbad⟩
     ·exact⟨_,_,rfl,hn.1,k+j,0,rfl,by omega,.inl hbad⟩
def Qc{b:List Int}(K:b.length<=900000000)(hby:pC b):Rd b jt pv:=by
 refine⟨fun k r o hk=>?_,fun r o hn=>?_⟩
 ·obtain⟨Y,X,rfl,h4⟩:=hk
  obtain⟨q,g1,g2⟩:=yi (l:=b.drop k) (by simp;omega) (yg hby k)
  obtain⟨r',o',g3,g4⟩:=(Dd K g2).1 r ⟨Y,X,rfl,h4⟩
  unfold jt
  rw [Dg K Y 0 h4,bg,g1,bg,g3]
  exact⟨_,_,_,rfl,g4⟩
 ·have hn' :=hn
  obtain⟨Y,k,y,rfl,h4,h5⟩:=hn
  obtain⟨q,g1,g2⟩:=yi (l:=b.drop k) (by simp;omega) (yg hby k)
  obtain⟨r',o',g3,g4⟩:=(Dd K g2).2 r y h4 hn' h5
  unfold jt
  rw [Dg K Y y h4,bg,g1,bg,g3]
  exact⟨_,_,_,rfl,g4⟩
end Go.Proofs.YtdohlidddcgfjaaGreat


/- bT of this claim: H6. -/
set_option linter.all false
namespace Go.Proofs.YtdohlidddcgfjaaGreat
open Go

def vx{ρ:Type} [IX ρ]{b:List Int}{α β:Type}{f:ρ->af->Option (α×ρ×af)}{p:Pr α}{g:α->ρ->af->Option (β×ρ×af)}{q:α->Pr β}(P:α->Prop)(hP: ∀r o x r' o',f r o=some (x,r',o')->P x)(hf:Rd b f p)(H: ∀x,P x->Rd b (g x) (q x)):
  Rd b (fun r o=>(f r o).bind fun u=>g u.1 u.2.1 u.2.2) (cY p q):=by
 refine⟨fun k r o hk=>?_,fun r o hn=>?_⟩
 ·obtain⟨x,r1,o1,Y,X⟩:=hf.ok k r o hk
  have V:=hP _ _ _ _ _ Y
  rw [Y,bg]
  unfold Ln at X
  unfold cY
  cases hp:p (b.drop k)with
  |none=>
   rw [hp]at X
   obtain⟨y,r2,o2,d,h4⟩:=(H x V).no r1 o1 X
   exact⟨y,r2,o2,d,h4⟩
  |some v=>
   rw [hp]at X
   obtain⟨rfl,k1,d,h4⟩:=X
   obtain⟨y,r2,o2,h5,h6⟩:=(H v.1 V).ok k1 r1 o1 d
   rw [h4]at h6
   exact⟨y,r2,o2,h5,h6⟩
 ·obtain⟨x,r1,o1,Y,X⟩:=hf.no r o hn
  rw [Y,bg]
  exact(H x (hP _ _ _ _ _ Y)).no r1 o1 X
def fJ(x:Int):Prop:=0<=x/\x<=255
def zz{r r' :aK}{o o' :af}{x:Int}(h:lS r o=some (x,r',o')):fJ x:=by
 unfold lS aO at h
 cases hq:ck o with
 |none=>rw [hq]at h;cases h
 |some q=>
  rw [hq]at h
  cases h
  unfold ck at hq
  cases hw:cm o 1 with
  |none=>rw [hw]at hq;cases hq
  |some w=>
   rw [hw]at hq
   cases hq
   unfold fJ
   rw [BC,q7]
   omega
def NZ(N:Int)(r:aK)(o:af):Option (List Int×aK×af):=(lN r o N).map fun q=>(q.1,r,q.2)
def PN(r:aK)(o:af):Option (List Int×aK×af):=(ip r o).map fun q=>(q.1,r,q.2)
def NQ(N:Int):Pr (List Int):=pl p8 N.toNat
def L6:Pr (List Int):=cY p8 NQ
section
variable{b:List Int}(K:b.length<=900000000)(hby:pC b)
include K hby
def Uu(N:Int)(hN:N<=65535):Rd b (NZ N) (NQ N):=by
 have h:=AZ (nZ K hby).toE (fun _ _ _=>GL) (fun _ _=>GM) N hN () trivial (L:=fun fu out x r o _=>(iq r N fu out x o).map fun q=>(q.1,r,q.2,())) (by
  intro fu out x r o e
  cases e
  simp only [iq]
  by_cases V:decide (x<N)=true
  ·simp only [V,jL]
   cases c7 r o with
   |none=>rfl
   |some c=>
    cases c with
    |false=>rfl
    |true=>
     unfold lS
     simp only [bg,sm,nV,lD]
     cases aO r o with
     |none=>rfl
     |some q=>
      simp only [bg,pr]
      cases app out [q.1]<;>rfl
  ·simp only [V];rfl)
 have e:(fun l=>(qG (fun(_:Unit) l=>(p8 l).map fun u=>((u.1,()),u.2)) N.toNat () l).map fun u=>(u.1.1,u.2))=NQ N:=funext fun l=>Dj p8 N.toNat l
 rw [e]at h
 refine h.congr fun r o=>?_
 unfold NZ lN
 cases iq r N fh [] 0 o<;>rfl
def R4:Rd b PN L6:=by
 have:=vx (g:=NZ) (q:=NQ) fJ (fun _ _ _ _ _=>zz) (nZ K hby) fun x V=>Uu K hby x (by unfold fJ at V;omega)
 refine this.congr fun r o=>?_
 unfold PN ip lS NZ
 cases aO r o with
 |none=>rfl
 |some q=>
  simp only [bg,pr]
  cases lN r q.2 q.1<;>rfl
end
def Dc(t:List Int)(D:t.length<=900000000):nf t=some (match t.getLast? with|none=>(-1,t)|some x=>(x,t.dropLast)):=by
 unfold nf
 rcases List.eq_nil_or_concat t with rfl|⟨l,x,rfl⟩
 ·rfl
 ·simp only [List.concat_eq_append]at*
  rw [aR (by simp;omega)]
  have e:IntKind.i64.wrap ((((l++[x]).length:Nat):Int)-1)=(l.length:Int):=by
   rw [q7];simp at D ⊢;omega
  rw [e,eU,wW (eg _)]
  simp only [wH,Gb,bg]
  rw [show(0:Int)=((0:Nat):Int)from rfl,sQ (pq _) (by simp),bg]
  simp
def vg:Nat->List Int->Option (Int×Int×List Int)
 |0,t=>some (-1,-1,t)
 |1,t=>match t.getLast? with|none=>none|some x=>some (x,-1,t.dropLast)
 |_+2,t=>match t.getLast? with|none=>none|some y=>match t.dropLast.getLast? with|none=>none|some x=>some (x,y,t.dropLast.dropLast)
end Go.Proofs.YtdohlidddcgfjaaGreat


/- bT of this claim: H7. -/
set_option linter.all false
namespace Go.Proofs.YtdohlidddcgfjaaGreat
open Go

section
variable{ρ:Type} [IX ρ]{b:List Int}{α β E:Type}{I:Nat->E->Prop}
def vF.congr{f g:E->ρ->af->Option (α×ρ×af×E)}{p:E->Pr (α×E)}(h:vF b I f p)(e: ∀j e r o,I j e->g e r o=f e r o):vF b I g p:=
 ⟨fun j x k r o hj hi hk=>by rw [e j x r o hi];exact h.ok j x k r o hj hi hk,fun j x r o hj hi hn=>by rw [e j x r o hi];exact h.no j x r o hj hi hn⟩
def nR{f:ρ->af->Option (α×ρ×af)}{p:Pr α}{g:α->E->ρ->af->Option (β×ρ×af×E)}{q:α->E->Pr (β×E)}(hf:Rd b f p)(H: ∀x,vF b I (g x) (q x)):
  vF b I (fun e r o=>(f r o).bind fun u=>g u.1 e u.2.1 u.2.2) (fun e=>cY p (fun x=>q x e)):=by
 refine⟨fun j e k r o hj hi hk=>?_,fun j e r o hj hi hn=>?_⟩
 ·obtain⟨x,r1,o1,Y,X⟩:=hf.ok k r o hk
  rw [Y,bg]
  unfold Ln at X
  unfold cY
  cases hp:p (b.drop k)with
  |none=>
   rw [hp]at X
   obtain⟨y,r2,o2,e2,d,h3',h4⟩:=(H x).no j e r1 o1 hj hi X
   exact⟨y,r2,o2,e2,d,h3',h4⟩
  |some v=>
   rw [hp]at X
   obtain⟨rfl,k1,d,h4⟩:=X
   obtain⟨y,r2,o2,e2,h5,h5',h6⟩:=(H v.1).ok j e k1 r1 o1 hj hi d
   rw [h4]at h6
   exact⟨y,r2,o2,e2,h5,h5',h6⟩
 ·obtain⟨x,r1,o1,Y,X⟩:=hf.no r o hn
  rw [Y,bg]
  exact(H x).no j e r1 o1 hj hi X
def sN{f g:E->ρ->af->Option (α×ρ×af×E)}{p q:E->Pr (α×E)}(c:Bool)(hf:vF b I f p)(H:vF b I g q):
  vF b I (fun e r o=>if c=true then f e r o else g e r o) (fun e=>if c=true then p e else q e):=by
 cases c with
 |true=>exact hf
 |false=>exact H
end
def Tp(j:Nat)(e:List Int×Int):Prop:=e.2=(j:Int)/\e.1.length<=j/\ ∀x∈e.1,0<=x
def Fc{B:Bool}{x:Int}(h:0<=x):(B||(decide (x<(0:Int))))=B:=by
 rw [Cq (by omega),Cp]
def Fb{B:Bool}:(B||(decide ((-1:Int)<(0:Int))))=true:=by
 rw [decide_eq_true (by omega),Co]
def JV(r:aK)(o:af){j:Nat}(hj:j<=70000){t:List Int}{a:Int}(hi:Tp j (t,a))(n:Nat)(hn:n<=2):
  ∃L R r' t',cI r o t n a=some (L,R,r',t')/\t'.length<=j+1/\(∀x∈t',0<=x)/\
   (match vg n t with|some u=>L=u.1/\R=u.2.1/\r' =r/\t' =u.2.2++[a]|none=>r' ={r with bad:=true}):=by
 obtain⟨Y,X,d⟩:=hi
 simp only at Y X d
 subst Y
 have push: ∀l:List Int,l.length<=j->(∀x∈l,0<=x)->app l [(j:Int)]=some (l++[(j:Int)])/\(l++[(j:Int)]).length<=j+1/\ ∀x∈l++[(j:Int)],0<=x:=by
  intro l hl hp
  refine⟨cK (by simp;omega),by simp;omega,fun x V=>?_⟩
  rcases tQ.1 V with V|V
  ·exact hp x V
  ·rw [zq.1 V];omega
 have k2: ∀(L R:Int) (l:List Int) (r:aK),l.length<=j->(∀x∈l,0<=x)->jj (j:Int) R L l r=some (L,R,r,l++[(j:Int)]):=by
  intro L R l r hl hp
  unfold jj
  rw [(push l hl hp).1];rfl
 have nn: ∀l:List Int,(∀x∈l,0<=x)-> ∀x,l.getLast? =some x->0<=x:=fun l hp x V=>hp x (List.mem_of_getLast? V)
 have dn: ∀l:List Int,(∀x∈l,0<=x)-> ∀x∈l.dropLast,0<=x:=fun l hp x V=>hp x ((List.dropLast_sublist l).subset V)
 unfold cI ln
 match n,hn with
 |0,_=>
  rw [aR (by decide),aR (by decide),k2 _ _ _ _ X d]
  exact⟨_,_,_,_,rfl,(push t X d).2.1,(push t X d).2.2,rfl,rfl,rfl,rfl⟩
 |1,_=>
  rw [aR (by decide),bh (by decide),Dc t (by omega),bg]
  cases H:t.getLast? with
  |none=>
   simp only
   rw [k2 _ _ _ _ X d,Fb]
   refine⟨_,_,_,_,rfl,(push t X d).2.1,(push t X d).2.2,?_⟩
   simp only [vg,H]
  |some x=>
   simp only
   rw [k2 _ _ _ _ (by simp;omega) (dn t d),Fc (nn t d x H)]
   refine⟨_,_,_,_,rfl,(push t.dropLast (by simp;omega) (dn t d)).2.1,(push t.dropLast (by simp;omega) (dn t d)).2.2,?_⟩
   simp only [vg,H]
   exact⟨trivial,trivial,trivial,trivial⟩
 |2,_=>
  rw [bh (by decide),Dc t (by omega),bg]
  cases H:t.getLast? with
  |none=>
   simp only
   rw [bh (by decide),Dc t (by omega),bg,H]
   simp only
   rw [k2 _ _ _ _ X d,Fb]
   refine⟨_,_,_,_,rfl,(push t X d).2.1,(push t X d).2.2,?_⟩
   simp only [vg,H]
  |some y=>
   simp only
   rw [bh (by decide),Dc t.dropLast (by simp;omega),bg,Fc (nn t d y H)]
   cases hg2:t.dropLast.getLast? with
   |none=>
    simp only
    rw [k2 _ _ _ _ (by simp;omega) (dn t d),Fb]
    refine⟨_,_,_,_,rfl,(push t.dropLast (by simp;omega) (dn t d)).2.1,(push t.dropLast (by simp;omega) (dn t d)).2.2,?_⟩
    simp only [vg,H,hg2]
   |some x=>
    simp only
    rw [k2 _ _ _ _ (by simp;omega) (dn _ (dn t d)),Fc (nn _ (dn t d) x hg2)]
    refine⟨_,_,_,_,rfl,(push t.dropLast.dropLast (by simp;omega) (dn _ (dn t d))).2.1,(push t.dropLast.dropLast (by simp;omega) (dn _ (dn t d))).2.2,?_⟩
    simp only [vg,H,hg2]
    exact⟨trivial,trivial,trivial,trivial⟩
def pn{α:Type}(n:Nat)(h:Int->Int->α)(e:List Int×Int)(r:aK)(o:af):Option (α×aK×af×List Int×Int):=
 (cI r o e.1 n e.2).bind fun u=>some (h u.1 u.2.1,u.2.2.1,o,u.2.2.2,IntKind.i64.wrap (e.2+1))
def ld{α:Type}(n:Nat)(h:Int->Int->α)(e:List Int×Int):Pr (α×List Int×Int):=fun l=>(vg n e.1).map fun u=>((h u.1 u.2.1,u.2.2++[e.2],e.2+1),l)
def oj{b:List Int}{α:Type}(n:Nat)(hn:n<=2)(h:Int->Int->α):vF b Tp (pn n h) (ld n h):=by
 refine⟨fun j e k r o hj hi hk=>?_,fun j e r o hj hi hN=>?_⟩
 ·obtain⟨t,a⟩:=e
  obtain⟨L,R,r',t',Y,X,d,h4⟩:=JV r o hj hi n hn
  have ha:a=(j:Int):=hi.1
  have hw:IntKind.i64.wrap (a+1)=a+1:=by rw [q7];omega
  unfold pn ld
  simp only
  rw [Y,bg]
  refine⟨_,_,_,_,rfl,⟨by simp only;rw [hw,ha];omega,X,d⟩,?_⟩
  cases hq:vg n t with
  |none=>
   rw [hq]at h4
   simp only at h4
   subst h4
   obtain⟨g1,g2,g3,g4⟩:=hk
   exact⟨g1,k,0,g3,g4,.inl rfl⟩
  |some u=>
   rw [hq]at h4
   obtain⟨rfl,rfl,rfl,rfl⟩:=h4
   exact⟨by simp only;rw [hw],k,hk,rfl⟩
 ·obtain⟨t,a⟩:=e
  obtain⟨L,R,r',t',Y,X,d,h4⟩:=JV r o hj hi n hn
  have ha:a=(j:Int):=hi.1
  have hw:IntKind.i64.wrap (a+1)=a+1:=by rw [q7];omega
  unfold pn
  simp only
  rw [Y,bg]
  refine⟨_,_,_,_,rfl,⟨by simp only;rw [hw,ha];omega,X,d⟩,?_⟩
  have hr:r' =r\/r' ={r with bad:=true}:=by
   cases hq:vg n t with
   |none=>rw [hq]at h4;exact .inr h4
   |some u=>rw [hq]at h4;exact .inl h4.2.2.1
  obtain⟨g1,k,y,g2,g3,g4⟩:=hN
  rcases hr with rfl|rfl
  ·exact⟨g1,k,y,g2,g3,g4⟩
  ·exact⟨g1,k,y,g2,g3,.inl rfl⟩
end Go.Proofs.YtdohlidddcgfjaaGreat


/- bT of this claim: H8. -/
set_option linter.all false
namespace Go.Proofs.YtdohlidddcgfjaaGreat
open Go

def ar(tag:Int):Nat:=if tag==1||tag==2 then 0 else if 12<=tag then 2 else 1
def Ti(x:Int):ar x<=2:=by
 unfold ar;repeat' split
 all_goals omega
def Th(x:Int):qi x=some (ar x:Int):=by
 unfold qi ar
 by_cases h:(x==1||x==2)=true
 ·rw [bh h,bh h];rfl
 ·rw [aR h,aR h]
  by_cases X:(12:Int)<=x
  ·rw [bh (by simpa using X),bh X];rfl
  ·rw [aR (by simpa using X),aR X];rfl
def vZ:am:=⟨0,0,0,[]⟩
def SY(e:List Int×Int)(r:aK)(o:af):Option (ap×aK×af×List Int×Int):=
 (lS r o).bind fun u=>if(u.1==2)=true then(lS u.2.1 u.2.2).bind fun w=>pn (ar u.1) (fun L R=>⟨u.1,L,R,w.1,vZ⟩) e w.2.1 w.2.2
  else if(u.1==1)=true then(jt u.2.1 u.2.2).bind fun w=>pn (ar u.1) (fun L R=>⟨u.1,L,R,0,w.1⟩) e w.2.1 w.2.2
  else pn (ar u.1) (fun L R=>⟨u.1,L,R,0,vZ⟩) e u.2.1 u.2.2
def pE(e:List Int×Int):Pr (ap×List Int×Int):=
 cY p8 fun x=>if(x==2)=true then cY p8 fun c=>ld (ar x) (fun L R=>⟨x,L,R,c,vZ⟩) e
  else if(x==1)=true then cY pv fun v=>ld (ar x) (fun L R=>⟨x,L,R,0,v⟩) e
  else ld (ar x) (fun L R=>⟨x,L,R,0,vZ⟩) e
def Eu(N:Int):Pr (List ap):=fun l=>(qG pE N.toNat ([],0) l).map fun u=>(u.1.1,u.2)
def AO:Pr aP:=cY p16 fun n=>lv aP.mk (Eu n)
def QY(x:Int):Prop:=0<=x/\x<=65535
def Jz{ρ:Type}{r r' :ρ}{o o' :af}{x:Int}(h:Pa r o=some (x,r',o')):QY x:=by
 unfold Pa io at h
 cases hw:cm o 2 with
 |none=>rw [hw]at h;cases h
 |some w=>
  rw [hw]at h
  cases h
  unfold QY
  rw [IntKind.wrap_u16,q7]
  omega
section
variable{b:List Int}(K:b.length<=900000000)(hby:pC b)
include K hby
def SX:vF b Tp SY pE:=by
  have hs:=nZ K hby
  have Y:=nR (I:=Tp) hs fun x=>sN (b:=b) (x==2)
    (nR hs fun c=>oj (b:=b) (ar x) (Ti x) (fun L R=>(⟨x,L,R,c,vZ⟩:ap)))
    (sN (x==1) (nR (Qc K hby) fun v=>oj (b:=b) (ar x) (Ti x) (fun L R=>(⟨x,L,R,0,v⟩:ap)))
      (oj (b:=b) (ar x) (Ti x) (fun L R=>(⟨x,L,R,0,vZ⟩:ap))))
  refine Y.congr fun j e r o _=>?_
  rfl
omit K hby in
def SZ(e:List Int×Int)(r:aK)(o:af):ml r o e.1 e.2=SY e r o:=by
 unfold ml SY lS pn
 cases aO r o with
 |none=>rfl
 |some u=>
  simp only [bg,pr,Th]
  by_cases h:(u.1==2)=true
  ·rw [bh h,bh h]
   cases aO r u.2 with
   |none=>rfl
   |some w=>
    simp only [bg,pr]
    cases cI r w.2 e.1 (ar u.1) e.2<;>rfl
  ·rw [aR h,aR h]
   by_cases h:(u.1==1)=true
   ·rw [bh h,bh h]
   ·rw [aR h,aR h]
    cases cI r u.2 e.1 (ar u.1) e.2<;>rfl
def Ml(N:Int)(r:aK)(o:af):Option (List ap×aK×af):=(jH r o N [] 0).bind fun q=>some (q.1,q.2.1,q.2.2.1)
def R5(N:Int)(hN:N<=65535):Rd b (Ml N) (Eu N):=
 AZ (SX K hby) (fun _ _ _=>GL) (fun _ _=>GM) N hN ([],0) ⟨rfl,eg 0,by simp⟩ (L:=fun fu out x r o e=>gb N fu out x e.2 e.1 r o) (by
  intro fu out x r o e
  simp only [gb,SZ]
  rfl)
def II:Rd b f6 AO:=by
 have:=vx (g:=fun n r o=>(Ml n r o).bind fun u=>some (aP.mk u.1,u.2.1,u.2.2)) QY (fun _ _ _ _ _=>Jz) (Ra K hby) fun n hn=>(R5 K hby n hn.2).map aP.mk
 refine this.congr fun r o=>?_
 unfold f6 Pa Ml
 cases io o with
 |none=>rfl
 |some q=>
  simp only [bg,pr]
  cases jH r q.2 (IntKind.i64.wrap q.1) [] 0<;>rfl
def RL:Pr eS:=cY p8 fun f=>lv (eS.mk f) AO
def Uh:Pr kg:=cY p8 fun c=>lv (kg.mk c) vi
def YQ:Rd b o8 RL:=by
 refine((nZ K hby).bind fun f=>(II K hby).map (eS.mk f)).congr fun r o=>?_
 unfold o8 lS
 cases aO r o<;>rfl
def Xl:Rd b o7 Uh:=by
 refine((nZ K hby).bind fun f=>(Do K hby).map (kg.mk f)).congr fun r o=>?_
 unfold o7 lS
 cases aO r o<;>rfl
omit K hby in
def vU{α:Type}{f:aK->af->Option (α×aK×af)}{p:Pr α}(hf:Rd b f p)(N:Int)(hN:N<=65535){L:Nat->List α->Int->aK->af->Option (List α×aK×af)}
  (hL: ∀fu out x r o,L (fu+1) out x r o=if decide (x<N)=true then(c7 r o).bind fun c=>if(!c)=true then some (out,r,o)else(f r o).bind fun u=>(app out [u.1]).bind fun out2=>L fu out2 (IntKind.i64.wrap (x+1)) u.2.1 u.2.2 else some (out,r,o)):
  Rd b (fun r o=>L fh [] 0 r o) (pl p N.toNat):=by
 have h:=AZ hf.toE (fun _ _ _=>GL) (fun _ _=>GM) N hN () trivial (L:=fun fu out x r o _=>(L fu out x r o).map fun q=>(q.1,q.2.1,q.2.2,())) (by
  intro fu out x r o e
  cases e
  simp only [hL]
  by_cases V:decide (x<N)=true
  ·simp only [V,jL]
   cases c7 r o with
   |none=>rfl
   |some c=>
    cases c with
    |false=>rfl
    |true=>
     simp only [bg,sm,nV,lD]
     cases f r o with
     |none=>rfl
     |some q=>
      simp only [bg,pr]
      cases app out [q.1]<;>rfl
  ·simp only [V];rfl)
 have e:(fun l=>(qG (fun(_:Unit) l=>(p l).map fun u=>((u.1,()),u.2)) N.toNat () l).map fun u=>(u.1.1,u.2))=pl p N.toNat:=funext fun l=>Dj p N.toNat l
 rw [e]at h
 refine h.congr fun r o=>?_
 cases L fh [] 0 r o<;>rfl
def VJ(N:Int)(hN:N<=65535):Rd b (fun r o=>kJ r o N) (pl RL N.toNat):=
 vU (YQ K hby) N hN (L:=jd N) fun _ _ _ _ _=>rfl
def SW(N:Int)(hN:N<=65535):Rd b (fun r o=>j8 r o N) (pl AO N.toNat):=
 vU (II K hby) N hN (L:=iO N) fun _ _ _ _ _=>rfl
def Uo(N:Int)(hN:N<=65535):Rd b (fun r o=>kG r o N) (pl Uh N.toNat):=
 vU (Xl K hby) N hN (L:=jc N) fun _ _ _ _ _=>rfl
end
end Go.Proofs.YtdohlidddcgfjaaGreat


/- bT of this claim: H9. -/
set_option linter.all false
namespace Go.Proofs.YtdohlidddcgfjaaGreat
open Go

def L8{α:Type}(p:Pr α):Pr (List α):=cY p8 fun n=>pl p n.toNat
def Qn{α:Type}(f:aK->af->Int->Option (List α×aK×af))(r:aK)(o:af):Option (List α×aK×af):=(lS r o).bind fun n=>f n.2.1 n.2.2 n.1
section
variable{b:List Int}(K:b.length<=900000000)(hby:pC b)
include K hby
def IP{α:Type}{p:Pr α}{f:aK->af->Int->Option (List α×aK×af)}(h: ∀N:Int,N<=65535->Rd b (fun r o=>f r o N) (pl p N.toNat)):Rd b (Qn f) (L8 p):=
 vx (g:=fun n r o=>f r o n) (q:=fun n=>pl p n.toNat) fJ (fun _ _ _ _ _=>zz) (nZ K hby) fun x V=>h x (by unfold fJ at V;omega)
end
def Ip(x:Int):Int:=IntKind.i64.wrap (IntKind.i64.wrap x-1)
def Lt(x:Int)(e:List Int×Int)(r:aK)(o:af):Option (aa×aK×af×List Int×Int):=
 if(x==1||x==9)=true then(lS r o).bind fun t=>(PN t.2.1 t.2.2).bind fun ks=>pn 0 (fun L R=>⟨x,L,R,t.1,ks.1,false,⟨[]⟩,[],[],[],[],0⟩) e ks.2.1 ks.2.2
 else if(x==2)=true then(ff r o).bind fun f=>(f6 f.2.1 f.2.2).bind fun c=>pn 2 (fun L R=>⟨x,L,R,0,[],f.1,c.1,[],[],[],[],0⟩) e c.2.1 c.2.2
 else if(x==3)=true then(f6 r o).bind fun c=>pn 1 (fun L R=>⟨x,L,R,0,[],false,c.1,[],[],[],[],0⟩) e c.2.1 c.2.2
 else if(x==4||x==10||x==11)=true then(PN r o).bind fun ks=>(Qn kJ ks.2.1 ks.2.2).bind fun a=>pn 1 (fun L R=>⟨x,L,R,0,[],false,⟨[]⟩,ks.1,a.1,[],[],0⟩) e a.2.1 a.2.2
 else if(x==5)=true then(Qn j8 r o).bind fun a=>pn 1 (fun L R=>⟨x,L,R,0,[],false,⟨[]⟩,[],[],a.1,[],0⟩) e a.2.1 a.2.2
 else if(x==8)=true then(Qn kG r o).bind fun a=>(Q9 a.2.1 a.2.2).bind fun l=>pn 1 (fun L R=>⟨x,L,R,0,[],false,⟨[]⟩,[],[],[],a.1,Ip l.1⟩) e l.2.1 l.2.2
 else if(x==7)=true then pn 2 (fun L R=>⟨x,L,R,0,[],false,⟨[]⟩,[],[],[],[],0⟩) e r o
 else pn 1 (fun L R=>⟨x,L,R,0,[],false,⟨[]⟩,[],[],[],[],0⟩) e r o
def Ev(x:Int)(e:List Int×Int):Pr (aa×List Int×Int):=
 if(x==1||x==9)=true then cY p8 fun t=>cY L6 fun ks=>ld 0 (fun L R=>⟨x,L,R,t,ks,false,⟨[]⟩,[],[],[],[],0⟩) e
 else if(x==2)=true then cY vi fun f=>cY AO fun c=>ld 2 (fun L R=>⟨x,L,R,0,[],f,c,[],[],[],[],0⟩) e
 else if(x==3)=true then cY AO fun c=>ld 1 (fun L R=>⟨x,L,R,0,[],false,c,[],[],[],[],0⟩) e
 else if(x==4||x==10||x==11)=true then cY L6 fun ks=>cY (L8 RL) fun a=>ld 1 (fun L R=>⟨x,L,R,0,[],false,⟨[]⟩,ks,a,[],[],0⟩) e
 else if(x==5)=true then cY (L8 AO) fun a=>ld 1 (fun L R=>⟨x,L,R,0,[],false,⟨[]⟩,[],[],a,[],0⟩) e
 else if(x==8)=true then cY (L8 Uh) fun a=>cY Y0 fun l=>ld 1 (fun L R=>⟨x,L,R,0,[],false,⟨[]⟩,[],[],[],a,Ip l⟩) e
 else if(x==7)=true then ld 2 (fun L R=>⟨x,L,R,0,[],false,⟨[]⟩,[],[],[],[],0⟩) e
 else ld 1 (fun L R=>⟨x,L,R,0,[],false,⟨[]⟩,[],[],[],[],0⟩) e
def Ls(e:List Int×Int)(r:aK)(o:af):Option (aa×aK×af×List Int×Int):=(lS r o).bind fun u=>Lt u.1 e u.2.1 u.2.2
def NR(e:List Int×Int):Pr (aa×List Int×Int):=cY p8 fun x=>Ev x e
def Sx(e:List Int×Int)(r:aK)(o:af):mj r o e.1 e.2=Ls e r o:=by
 unfold mj qK Ls lS
 cases aO r o with
 |none=>rfl
 |some u=>
  simp only [bg,pr]
  obtain⟨x,o1⟩:=u
  simp only
  unfold Lt lL jU Qn lS PN Q9 pn Ip
  cases Y:(x==1)<;>cases h9:(x==9)<;>simp only [Co,Cp,DD,uH,jL,nV,lD,Av,bg,As,Au,Int.ofNat_zero,Int.natCast_zero]<;>try rfl
  cases X:(x==2)<;>simp only [Co,Cp,DD,uH,jL,nV,lD,Av,bg,As,Au]<;>try rfl
  cases d:(x==3)<;>simp only [Co,Cp,DD,uH,jL,nV,lD,Av,bg,As,Au]<;>try rfl
  cases h4:(x==4)<;>cases h10:(x==10)<;>cases h11:(x==11)<;>simp only [Co,Cp,DD,uH,jL,nV,lD,Av,bg,As,Au]<;>try rfl
  cases h5:(x==5)<;>simp only [Co,Cp,DD,uH,jL,nV,lD,Av,bg,As,Au]<;>try rfl
  cases h8:(x==8)<;>simp only [Co,Cp,DD,uH,jL,nV,lD,Av,bg,As,Au]<;>try rfl
  cases h7:(x==7)<;>simp only [Co,Cp,DD,uH,jL,nV,lD,Av,bg,As,Au]<;>try rfl
section
variable{b:List Int}(K:b.length<=900000000)(hby:pC b)
include K hby
def O6(x:Int):vF b Tp (Lt x) (Ev x):=by
  have hs:=nZ K hby
  have hn:=R4 K hby
  have he:=II K hby
  have:=sN (b:=b) (I:=Tp) (x==1||x==9) (nR hs fun t=>nR hn fun ks=>oj 0 (by omega) (fun L R=>(⟨x,L,R,t,ks,false,⟨[]⟩,[],[],[],[],0⟩:aa)))
    (sN (x==2) (nR (Do K hby) fun f=>nR he fun c=>oj 2 (by omega) (fun L R=>(⟨x,L,R,0,[],f,c,[],[],[],[],0⟩:aa)))
    (sN (x==3) (nR he fun c=>oj 1 (by omega) (fun L R=>(⟨x,L,R,0,[],false,c,[],[],[],[],0⟩:aa)))
    (sN (x==4||x==10||x==11) (nR hn fun ks=>nR (IP K hby (VJ K hby)) fun a=>oj 1 (by omega) (fun L R=>(⟨x,L,R,0,[],false,⟨[]⟩,ks,a,[],[],0⟩:aa)))
    (sN (x==5) (nR (IP K hby (SW K hby)) fun a=>oj 1 (by omega) (fun L R=>(⟨x,L,R,0,[],false,⟨[]⟩,[],[],a,[],0⟩:aa)))
    (sN (x==8) (nR (IP K hby (Uo K hby)) fun a=>nR (Q8 K hby) fun l=>oj 1 (by omega) (fun L R=>(⟨x,L,R,0,[],false,⟨[]⟩,[],[],[],a,Ip l⟩:aa)))
    (sN (x==7) (oj 2 (by omega) (fun L R=>(⟨x,L,R,0,[],false,⟨[]⟩,[],[],[],[],0⟩:aa)))
      (oj 1 (by omega) (fun L R=>(⟨x,L,R,0,[],false,⟨[]⟩,[],[],[],[],0⟩:aa)))))))))
  exact this
def O5:vF b Tp Ls NR:=nR (nZ K hby) fun x=>O6 K hby x
def AK(N:Int):Pr (List aa):=fun l=>(qG NR N.toNat ([],0) l).map fun u=>(u.1.1,u.2)
def Im(r:aK)(o:af)(N:Int):Option (List aa×aK×af):=(lW r o N [] 0).bind fun q=>some (q.1,q.2.1,q.2.2.1)
def PU(N:Int)(hN:N<=65535):Rd b (fun r o=>Im r o N) (AK N):=
 AZ (O5 K hby) (fun _ _ _=>GL) (fun _ _=>GM) N hN ([],0) ⟨rfl,eg 0,by simp⟩ (L:=fun fu out x r o e=>ga N fu out x e.2 e.1 r o) (by
  intro fu out x r o e
  simp only [ga,Sx]
  rfl)
def NU:Pr di:=cY p8 fun a=>cY p8 fun w=>cY L6 fun cs=>cY p8 fun n=>lv (fun ns=>di.mk ns a w cs) (AK n)
def UG:Rd b nO NU:=by
 have hs:=nZ K hby
 have:=hs.bind fun a=>hs.bind fun w=>(R4 K hby).bind fun cs=>vx (g:=fun n r o=>(Im r o n).bind fun u=>some (di.mk u.1 a w cs,u.2.1,u.2.2)) fJ (fun _ _ _ _ _=>zz) hs fun n hn=>(PU K hby n (by unfold fJ at hn;omega)).map fun ns=>di.mk ns a w cs
 refine this.congr fun r o=>?_
 unfold nO lS PN Im
 simp only [Av,bg,As,Au]
def Sw(N:Int)(hN:N<=65535):Rd b (fun r o=>mI r o N) (pl NU N.toNat):=
 vU (UG K hby) N hN (L:=iN N) fun _ _ _ _ _=>rfl
def NP:Pr cT:=lv cT.mk (L8 NU)
def Uk:Rd b nN NP:=by
 refine((IP K hby (Sw K hby)).map cT.mk).congr fun r o=>?_
 unfold nN Qn lS
 simp only [Av,bg,As,Au]
end
end Go.Proofs.YtdohlidddcgfjaaGreat


/- bT of this claim: H10. -/
set_option linter.all false
namespace Go.Proofs.YtdohlidddcgfjaaGreat
open Go

def S5{b:List Int}(K:b.length<=900000000){k:Nat}{r:aK}{o:af}(h:Ok b k r o):ju r o=some (b.drop k==[]):=by
 unfold ju
 rw [GL h,bg,bh rfl]
 obtain⟨_,_,rfl,h4⟩:=h
 rw [yP 0 h4 (by omega),bg]
 congr 1
 by_cases hk:k=b.length
 ·subst hk;simp
 ·have Y:b.drop k≠[]:=by
   intro hc
   have:=congrArg List.length hc
   rw [CV]at this
   simp at this
   omega
  have X:((b.length-k:Nat):Int)≠0:=by omega
  rw [show(b.drop k==[])=false from by simpa using Y]
  simpa using X
def S6{b:List Int}{r:aK}{o:af}(h:No b r o):ju r o=some false:=by
 unfold ju
 rw [GM h,bg,aR (by simp)]
end Go.Proofs.YtdohlidddcgfjaaGreat


/- bT of this claim: H11. -/
set_option linter.all false
namespace Go.Proofs.YtdohlidddcgfjaaGreat
open Go

def bys(l:List Int):Prop:=pC l/\l.length<=5000
def Qs{α:Type}(p:Pr α)(enc:α->List Int)(good:α->Prop):Prop:= ∀l x r,bys l->p l=some (x,r)->l=enc x++r/\good x/\bys r
def Qs.size{α:Type}{p:Pr α}{enc:α->List Int}{good:α->Prop}(h:Qs p enc good):Qs p enc (fun x=>good x/\(enc x).length<=5000):=by
 intro l x r hl V
 obtain⟨g1,g2,g3⟩:=h l x r hl V
 refine⟨g1,⟨g2,?_⟩,g3⟩
 have:=hl.2
 rw [g1,kw]at this
 omega
def Qs.bind{α β:Type}{p:Pr α}{q:α->Pr β}{e1:α->List Int}{P1:α->Prop}{e2:α->β->List Int}{P2:α->β->Prop}{enc:β->List Int}{good:β->Prop}(Y:Qs p e1 P1)(X: ∀x,P1 x->Qs (q x) (e2 x) (P2 x))(d: ∀x y,P1 x->P2 x y->enc y=e1 x++e2 x y/\good y):Qs (cY p q) enc good:=by
 intro l y r hl h
 unfold cY at h
 cases hp:p l with
 |none=>rw [hp]at h;cases h
 |some u=>
  rw [hp,bg]at h
  obtain⟨g1,g2,g3⟩:=Y l u.1 u.2 hl hp
  obtain⟨g4,g5,g6⟩:=X u.1 g2 u.2 y r g3 h
  obtain⟨g7,g8⟩:=d u.1 y g2 g5
  exact⟨by rw [g1,g4,g7,pD],g8,g6⟩
def Qs.map{α β:Type}{p:Pr α}{f:α->β}{e1:α->List Int}{P1:α->Prop}{enc:β->List Int}{good:β->Prop}(Y:Qs p e1 P1)(d: ∀x,P1 x->enc (f x)=e1 x/\good (f x)):Qs (lv f p) enc good:=by
 intro l y r hl h
 unfold lv at h
 cases hp:p l with
 |none=>rw [hp]at h;cases h
 |some u=>
  rw [hp]at h
  cases h
  obtain⟨g1,g2,g3⟩:=Y l u.1 u.2 hl hp
  obtain⟨g7,g8⟩:=d u.1 g2
  exact⟨by rw [g7];exact g1,g8,g3⟩
def KA{f:Int->Int}: ∀l:List Int,l.flatMap (fun x=>[f x])=l.map f
 |[]=>rfl
 |x::l=>by rw [Ai,KA l];rfl
def xj: ∀{ae:List Int},pC ae->ka (pg ae)=ae/\(pg ae).length=ae.length
 |[],_=>⟨rfl,rfl⟩
 |c::ae,h=>by
  obtain⟨⟨n,Y,rfl⟩,X⟩:=KU h
  obtain⟨g1,g2⟩:=xj X
  refine⟨?_,by simp [pg]⟩
  show((UInt8.ofNat (n:Int).toNat).toNat:Int)::ka (pg ae)=_
  rw [g1,u0,UInt8.toNat_ofNat',Nat.mod_eq_of_lt (by omega)]
end Go.Proofs.YtdohlidddcgfjaaGreat


/- bT of this claim: H12. -/
set_option linter.all false
namespace Go.Proofs.YtdohlidddcgfjaaGreat
open Go

def gS(n:ap):Prop:=n.Value.S.length<=40
def gX(e:aP):Prop:=e.Nodes.length<=5000/\ ∀n∈e.Nodes,gS n
structure gD(n:aa):Prop where
 kinds:n.Kinds.length<=255
 keys:n.Keys.length<=255
 order:n.Order.length<=255
 items:n.Items.length<=255
 aggs:n.Aggs.length<=255
 cond:gX n.Cond
 item: ∀e∈n.Items,gX e
 arg: ∀a∈n.Aggs,gX a.Arg
structure gF(f:di):Prop where
 cols:f.Cols.length<=255
 len:f.Nodes.length<=255
 n: ∀n∈f.Nodes,gD n
structure gP(p:cT):Prop where
 len:p.Frags.length<=255
 f: ∀f∈p.Frags,gF f
end Go.Proofs.YtdohlidddcgfjaaGreat


/- bT of this claim: H13. -/
set_option linter.all false
namespace Go.Proofs.YtdohlidddcgfjaaGreat
open Go

structure ZE(e:aP):Prop where
 len:e.Nodes.length<=60000
 str: ∀n∈e.Nodes,n.Value.S.length<=100
structure ZD(n:aa):Prop where
 cond:ZE n.Cond
 item: ∀e∈n.Items,ZE e
 arg: ∀a∈n.Aggs,ZE a.Arg
end Go.Proofs.YtdohlidddcgfjaaGreat


/- bT of this claim: H14. -/
set_option linter.all false
namespace Go.Proofs.YtdohlidddcgfjaaGreat
open Go

end Go.Proofs.YtdohlidddcgfjaaGreat


/- bT of this claim: H16. -/
set_option linter.all false
namespace Go.Proofs.YtdohlidddcgfjaaGreat
open Go

def Cm{α:Type}(p:Pr α)(l:List Int)(x:α):Prop:= ∀r,p (l++r)=some (x,r)
def Cm.bind{α β:Type}{p:Pr α}{q:α->Pr β}{l m:List Int}{x:α}{y:β}(Y:Cm p l x)(X:Cm (q x) m y):Cm (cY p q) (l++m) y:=fun r=>by
 unfold cY
 rw [pD,Y,bg]
 exact X r
def Cm.map{α β:Type}{p:Pr α}{l:List Int}{x:α}(f:α->β)(Y:Cm p l x):Cm (lv f p) l (f x):=fun r=>by
 unfold lv
 rw [Y];rfl
def OZ{α:Type}(x:α):Cm (fun l=>some (x,l)) [] x:=fun _=>rfl
def Cm.need{c:Bool}(h:c=true):Cm (ui c) [] ():=fun r=>by
 unfold ui
 rw [bh h];rfl
def Cm.eq{α:Type}{p:Pr α}{l m:List Int}{x:α}(h:Cm p l x)(e:m=l):Cm p m x:=e▸h
def Hh(v:Int): ∀k,bn (eQ v k)=v%2^(8*k)
 |0=>by
  show(0:Int)=v%2^(8*0)
  rw [Nat.mul_zero,Int.pow_zero];omega
 |k+1=>by
  unfold eQ bn
  rw [eK,Hh v k]
  have hp:(0:Int)<2^(8*k):=Int.pow_pos (by omega)
  rw [Nr _ (by omega),BC,show(256:Int)^k=2^(8*k)from by rw [show(256:Int)=2^8 from rfl,<-Int.pow_mul],show 8*(k+1)=8*k+8 from by omega,Int.pow_add,show(2:Int)^8=256 from rfl]
  generalize (2:Int)^(8*k)=m at hp
  rw [Int.mul_comm (v/m%256) m]
  have e1:m*(v/m)+v%m=v:=Int.mul_ediv_add_emod v m
  have e2:256*(v/m/256)+v/m%256=v/m:=Int.mul_ediv_add_emod (v/m) 256
  have Y:=Int.emod_nonneg v (show m≠0 by omega)
  have X:=Int.emod_lt_of_pos v hp
  have d:=Int.emod_nonneg (v/m) (show(256:Int)≠0 by omega)
  have h4:=Int.emod_lt_of_pos (v/m) (show(0:Int)<256 by omega)
  have e3:v=(m*(v/m%256)+v%m)+(m*256)*(v/m/256):=by
   have e4:m*(v/m)=m*(256*(v/m/256))+m*(v/m%256):=by rw [<-Int.mul_add,e2]
   rw [Int.mul_assoc];omega
  have h5:m*(v/m%256)<=m*255:=Int.mul_le_mul_of_nonneg_left (by omega) (by omega)
  have h6:0<=m*(v/m%256):=Int.mul_nonneg (by omega) d
  generalize v/m%256=q at*
  generalize v%m=w at*
  have e5:(m*q+w+m*256*(v/m/256))%(m*256)=m*q+w:=by
   rw [Int.add_mul_emod_self_left,Int.emod_eq_of_lt (by omega) (by omega)]
  rw [<-e3]at e5
  exact e5.symm
def zb(n:Nat){v:Int}(h0:0<=v)(Y:v<2^(8*n)):Cm (pw n) (eQ v n) v:=fun r=>by
 unfold pw
 rw [aR (by rw [kw,eK];omega),List.take_left' (eK v n),List.drop_left' (eK v n),Hh,Int.emod_eq_of_lt h0 Y]
def ol{x:Int}(h:fJ x):Cm p8 [IntKind.u8.wrap x] x:=fun r=>by
 obtain⟨Y,X⟩:=h
 have d:Cm (pw 1) (eQ x 1) x:=zb 1 Y (show x<256 by omega)
 have h4:=(d.map fun x=>IntKind.i64.wrap (IntKind.u8.wrap x)) r
 have e:IntKind.i64.wrap (IntKind.u8.wrap x)=x:=by rw [BC,q7];omega
 simp only [e]at h4
 have e2:eQ x 1=[IntKind.u8.wrap x]:=by simp [eQ]
 rw [e2]at h4
 exact h4
def RO{x:Int}(h:QY x):Cm p16 (eQ x 2) x:=fun r=>by
 obtain⟨Y,X⟩:=h
 have h4:=((zb 2 Y (show x<65536 by omega)).map fun x=>IntKind.i64.wrap (IntKind.u16.wrap x)) r
 have e:IntKind.i64.wrap (IntKind.u16.wrap x)=x:=by rw [IntKind.wrap_u16,q7];omega
 simp only [e]at h4
 exact h4
def RN{x:Int}(Y:0<=x)(X:x<4294967296):Cm Y0 (eQ x 4) x:=fun r=>by
 have h4:=((zb 4 Y (show x<4294967296 by omega)).map IntKind.u32.wrap) r
 have e:IntKind.u32.wrap x=x:=by rw [IntKind.wrap_u32];omega
 rw [e]at h4
 exact h4
def AM(b:Bool):Cm vi [fB b] b:=fun r=>by
 unfold vi
 have e:[fB b]=[IntKind.u8.wrap (fB b)]:=by cases b<;>rfl
 have:Cm p8 [IntKind.u8.wrap (fB b)] (fB b):=ol (by unfold fJ;cases b<;>decide)
 rw [e,this,bg]
 cases b<;>rfl
def Ug(ae:List Int):Cm (RF ae.length) ae ae:=fun r=>by
 unfold RF
 rw [aR (by rw [kw];omega),List.take_left' rfl,List.drop_left' rfl]
def NT{α:Type}{p:Pr α}{enc:α->List Int}: ∀xs:List α,(∀x∈xs,Cm p (enc x) x)->Cm (pl p xs.length) (xs.flatMap enc) xs
 |[],_=>fun r=>rfl
 |x::xs,h=>fun r=>by
  have Y:=h x (nA ..)
  have X:=NT xs fun y hy=>h y (pp _ hy)
  show pl p (xs.length+1) _=_
  unfold pl
  rw [Ai,pD,Y,bg,X,bg]
def AP{α:Type}{p:Pr α}{enc:α->List Int}(xs:List α)(hl:xs.length<=255)(h: ∀x∈xs,Cm p (enc x) x):Cm (L8 p) (IntKind.u8.wrap (xs.length:Int)::xs.flatMap enc) xs:=
 Cm.bind (l:=[IntKind.u8.wrap (xs.length:Int)]) (ol ⟨by omega,by omega⟩) (by rw [u0];exact NT xs h)
def Id(xs:List Int)(hl:xs.length<=255)(h: ∀x∈xs,fJ x):Cm L6 (Sl xs) xs:=by
 have:=AP (p:=p8) (enc:=fun x=>[IntKind.u8.wrap x]) xs hl fun x V=>ol (h x V)
 rw [KA]at this
 exact this
def acd(x:Int):Prop:= -9223372036854775808<=x/\x<=9223372036854775807
def acc(x:Int):Prop:=0<=x/\x<=18446744073709551615
structure Uc(v:am):Prop where
 n:acd v.N
 u:acc v.U
def FD(ae:OQ):pg (ka ae)=ae:=by
 unfold pg ka
 rw [List.map_map]
 conv=>rhs;rw [<-List.map_id ae]
 refine F9 fun x _=>?_
 show UInt8.ofNat ((x.toNat:Int).toNat)=x
 rw [u0,UInt8.ofNat_toNat]
def xy{v:am}(h:gm v=true):Cm (tt v) [] v:=Cm.bind (l:=[]) (Cm.need h) (OZ v)
def Rx{v:am}(h:gm v=true)(hk:v.Kind=1):v.U=0/\v.S=[]/\(v.N=0\/v.N=1):=by
 obtain⟨k,n,u,ae⟩:=v
 subst hk
 simp only [gm,jP]at h
 grind
def Rw{v:am}(h:gm v=true)(hk:v.Kind=2):v.U=0/\v.S=[]:=by
 obtain⟨k,n,u,ae⟩:=v
 subst hk
 simp only [gm,jP]at h
 grind
def Rv{v:am}(h:gm v=true)(hk:v.Kind=3):v.N=0/\v.U=0/\v.S.length<=40:=by
 obtain⟨k,n,u,ae⟩:=v
 subst hk
 simp only [gm,jP]at h
 grind
def Ru{v:am}(h:gm v=true)(Y:v.Kind≠1)(X:v.Kind≠2)(d:v.Kind≠3):(v.Kind=0/\v.N=0/\v.U=0/\v.S=[])\/(v.Kind=4/\v.S=[]):=by
 obtain⟨k,n,u,ae⟩:=v
 simp only at Y X d
 by_cases h0:k=0
 ·subst h0
  simp [gm,jP]at h
  grind
 ·simp [gm,jP,h0,Y,X,d]at h
  grind
def V6{v:am}(h:gm v=true)(hr:Uc v):Cm pv (vB v) v:=by
 obtain⟨⟨n1,n2⟩,u1,u2⟩:=hr
 have go: ∀c l,v.Kind=c->0<=c->c<=4->Cm (GE c) l v->Cm pv (IntKind.u8.wrap c::l) v:=fun c l _ h0 h4 K=>
  Cm.bind (l:=[IntKind.u8.wrap c]) (ol ⟨h0,by omega⟩) (Cm.bind (l:=[]) (Cm.need (by simpa using h4)) K)
 unfold vB
 by_cases Y:v.Kind=1
 ·obtain⟨e1,e2,e3⟩:=Rx h Y
  have ev:v=⟨1,v.N,0,[]⟩:=by obtain⟨k,n,u,ae⟩:=v;simp only at Y e1 e2;rw [Y,e1,e2]
  rw [bh Y,Y]
  refine go 1 _ Y (by omega) (by omega) ?_
  have K:fJ v.N:=by unfold fJ;omega
  have hd:Cm (tt ⟨1,v.N,0,[]⟩) [] v:=by rw [<-ev];exact xy h
  exact Cm.bind (l:=[IntKind.u8.wrap v.N]) (q:=fun u=>tt ⟨1,u,0,[]⟩) (ol K) hd
 rw [aR Y]
 by_cases X:v.Kind=2
 ·obtain⟨e1,e2⟩:=Rw h X
  rw [bh X,X]
  refine go 2 _ X (by omega) (by omega) ?_
  have e:i64 (IntKind.u64.wrap v.N)=v.N:=by unfold i64;rw [wU,q7];omega
  have ev:v=⟨2,i64 (IntKind.u64.wrap v.N),0,[]⟩:=by rw [e];obtain⟨k,n,u,ae⟩:=v;simp only at X e1 e2;rw [X,e1,e2]
  have hd:Cm (tt ⟨2,i64 (IntKind.u64.wrap v.N),0,[]⟩) [] v:=by rw [<-ev];exact xy h
  have hw:IntKind.u64.wrap v.N<2^(8*8):=by rw [wU];show _<(18446744073709551616:Int);omega
  have:=Cm.bind (q:=fun u=>tt ⟨2,i64 u,0,[]⟩) (zb 8 (v:=IntKind.u64.wrap v.N) (by rw [wU];omega) hw) hd
  rw [pM]at this
  exact this
 rw [aR X]
 by_cases d:v.Kind=3
 ·obtain⟨e1,e2,e3⟩:=Rv h d
  rw [bh d,d]
  refine go 3 _ d (by omega) (by omega) ?_
  have hl:=yf v.S
  have ev:v=⟨3,0,0,pg (ka v.S)⟩:=by rw [FD];obtain⟨k,n,u,ae⟩:=v;simp only at d e1 e2;rw [d,e1,e2]
  have hd:Cm (tt ⟨3,0,0,pg (ka v.S)⟩) [] v:=by rw [<-ev];exact xy h
  have a1:Cm (RD 3 (v.S.length:Int)) (ka v.S++[]) v:=Cm.bind (by rw [u0,<-hl];exact Ug _) hd
  rw [pM]at a1
  have a2:Cm (RC 3 (v.S.length:Int)) ([]++ka v.S) v:=Cm.bind (Cm.need (by rw [hX];omega)) a1
  exact Cm.bind (l:=[IntKind.u8.wrap (v.S.length:Int)]) (ol ⟨by omega,by omega⟩) a2
 rw [aR d]
 rcases Ru h Y X d with⟨k0,e1,e2,e3⟩|⟨k4,e1⟩
 ·rw [aR (by omega),k0]
  refine go 0 _ k0 (by omega) (by omega) ?_
  have ev:v=⟨0,0,0,[]⟩:=by obtain⟨k,n,u,ae⟩:=v;simp only at k0 e1 e2 e3;rw [k0,e1,e2,e3]
  have hd:Cm (tt ⟨0,0,0,[]⟩) [] v:=by rw [<-ev];exact xy h
  exact hd
 ·rw [bh k4,k4]
  refine go 4 _ k4 (by omega) (by omega) ?_
  have e:i64 (IntKind.u64.wrap v.N)=v.N:=by unfold i64;rw [wU,q7];omega
  have ev:v=⟨4,i64 (IntKind.u64.wrap v.N),v.U,[]⟩:=by rw [e];obtain⟨k,n,u,ae⟩:=v;simp only at k4 e1;rw [k4,e1]
  have hd:Cm (tt ⟨4,i64 (IntKind.u64.wrap v.N),v.U,[]⟩) [] v:=by rw [<-ev];exact xy h
  have hw:IntKind.u64.wrap v.N<2^(8*8):=by rw [wU];show _<(18446744073709551616:Int);omega
  have a1:Cm (NM 4 (IntKind.u64.wrap v.N)) (eQ v.U 8++[]) v:=Cm.bind (q:=fun w=>tt ⟨4,i64 (IntKind.u64.wrap v.N),w,[]⟩) (zb 8 u1 (show v.U<(18446744073709551616:Int) by omega)) hd
  rw [pM]at a1
  exact Cm.bind (q:=NM 4) (zb 8 (v:=IntKind.u64.wrap v.N) (by rw [wU];omega) hw) a1
def CmE{α E:Type}(p:E->Pr (α×E))(e:E)(l:List Int)(x:α)(e' :E):Prop:=Cm (p e) l (x,e')
def Ni{α E:Type}(p:E->Pr (α×E))(n:Nat)(e:E)(l:List Int)(xs:List α)(e' :E):Prop:=Cm (qG p n e) l (xs,e')
def Ni.one{α E:Type}{p:E->Pr (α×E)}{e e' :E}{l:List Int}{x:α}(h:CmE p e l x e'):Ni p 1 e l [x] e' :=fun r=>by
 unfold qG
 rw [h,bg]
 rfl
def Ni.nil{α E:Type}{p:E->Pr (α×E)}{e:E}:Ni p 0 e [] [] e:=fun r=>rfl
def Ni.app{α E:Type}{p:E->Pr (α×E)}: ∀{m:Nat} {e e1:E} {l:List Int} {xs:List α} {n:Nat} {e2:E} {k:List Int} {ys:List α},Ni p m e l xs e1->Ni p n e1 k ys e2->xs.length=m->Ni p (m+n) e (l++k) (xs++ys) e2:=by
 intro m e e1 l xs n e2 k ys Y X V r
 rw [pD]
 have h1' :=Y (k++r)
 clear Y
 generalize l++(k++r)=z at h1' ⊢
 induction m generalizing e z xs with
 |zero=>
  cases h1'
  rw [uX]
  exact X r
 |succ m ih=>
  rw [show m+1+n=(m+n)+1 from by omega]
  unfold qG at h1' ⊢
  cases hp:p e z with
  |none=>rw [hp]at h1';cases h1'
  |some u=>
   rw [hp,bg]at h1'
   rw [bg]
   cases hq:qG p m u.1.2 u.2 with
   |none=>rw [hq]at h1';cases h1'
   |some v=>
    rw [hq,bg]at h1'
    obtain⟨⟨v1,v2⟩,v3⟩:=v
    cases h1'
    rw [ih (xs:=v1) (by simpa using V) u.2 hq]
    rfl
def Vx{n:ap}(h:CQ n=true):(n.Tag=1/\uO n.Value=true/\n.Col=0)\/(n.Tag=2/\n.Value=vZ/\0<=n.Col/\n.Col<16)\/(n.Tag≠1/\n.Tag≠2/\n.Value=vZ/\n.Col=0):=by
 unfold CQ kz at h
 rw [oe]at h
 by_cases Y:n.Tag=1
 ·rw [bh (by simp [Y])]at h
  simp at h
  exact .inl ⟨Y,by grind,by grind⟩
 ·rw [aR (by simpa using Y)]at h
  by_cases X:n.Tag=2
  ·rw [bh (by simp [X])]at h
   simp at h
   exact .inr (.inl ⟨X,by unfold vZ;grind,by grind,by grind⟩)
  ·rw [aR (by simpa using X)]at h
   simp at h
   exact .inr (.inr ⟨Y,X,by unfold vZ;grind,by grind⟩)
def mF{α:Type}{n:Nat}(h:Int->Int->α){e:List Int×Int}{L R:Int}{t:List Int}(hp:vg n e.1=some (L,R,t)):Cm (ld n h e) [] (h L R,t++[e.2],e.2+1):=fun r=>by
 unfold ld
 rw [hp];rfl
def ZR{tag:Int}{k:Nat}(h:pk tag=some k):ar tag=k/\fJ tag:=by
 unfold pk at h
 unfold ar fJ
 split at h
 ·rename_i Y
  cases h
  rw [bh (by simpa using Y)]
  exact⟨rfl,by omega⟩
 ·rename_i Y
  rw [aR (by simpa using Y)]
  split at h
  ·cases h
   rw [aR (by omega)]
   exact⟨rfl,by omega⟩
  ·split at h
   ·cases h
    rw [bh (by omega)]
    exact⟨rfl,by omega⟩
   ·cases h
def RM{n:ap}{k:Nat}(hk:pk n.Tag=some k)(hc:CQ n=true)(hr:Uc n.Value){e:List Int×Int}{t:List Int}(hp:vg k e.1=some (n.L,n.R,t)):CmE pE e (nB n) n (t++[e.2],e.2+1):=by
 obtain⟨ha,K⟩:=ZR hk
 rw [<-ha]at hp
 unfold CmE pE nB
 generalize hm:(if n.Tag=2 then [IntKind.u8.wrap n.Col]else if n.Tag=1 then vB n.Value else [])=m
 refine Cm.bind (l:=[IntKind.u8.wrap n.Tag]) (m:=m) (ol K) ?_
 subst hm
 rcases Vx hc with⟨Y,X,d⟩|⟨Y,X,d,h4⟩|⟨Y,h1',X,d⟩
 ·rw [aR (by simp [Y]),bh (by simp [Y]),aR (by omega),bh Y]
  have hv:gm n.Value=true:=by unfold uO at X;simp only [lq]at X;exact X.1
  have en:n=⟨n.Tag,n.L,n.R,0,n.Value⟩:=by obtain⟨a,b,c,h3,f⟩:=n;simp only at d;rw [d]
  have:=Cm.bind (q:=fun v=>ld (ar n.Tag) (fun L R=>(⟨n.Tag,L,R,0,v⟩:ap)) e) (V6 hv hr) (mF (fun L R=>(⟨n.Tag,L,R,0,n.Value⟩:ap)) hp)
  rw [pM]at this
  rw [<-en]at this
  exact this
 ·rw [bh (by simp [Y]),bh Y]
  have en:n=⟨n.Tag,n.L,n.R,n.Col,vZ⟩:=by obtain⟨a,b,c,h3,f⟩:=n;simp only at X;rw [X]
  have:=Cm.bind (l:=[IntKind.u8.wrap n.Col]) (q:=fun c=>ld (ar n.Tag) (fun L R=>(⟨n.Tag,L,R,c,vZ⟩:ap)) e) (ol ⟨d,by omega⟩) (mF (fun L R=>(⟨n.Tag,L,R,n.Col,vZ⟩:ap)) hp)
  rw [<-en]at this
  exact this
 ·rw [aR (by simpa using h1'),aR (by simpa using Y),aR h1',aR Y]
  have en:n=⟨n.Tag,n.L,n.R,0,vZ⟩:=by obtain⟨a,b,c,h3,f⟩:=n;simp only at X d;rw [X,d]
  have:=mF (fun L R=>(⟨n.Tag,L,R,0,vZ⟩:ap)) hp
  rw [<-en]at this
  exact this
def Tr.rg:Tr->Prop
 | .lf n=>Uc n.Value
 | .un n a=>Uc n.Value/\a.rg
 | .bi n a b=>Uc n.Value/\a.rg/\b.rg
def ZN(t:Tr): ∀ae,(∀n∈t.flat ae,Uc n.Value)->t.rg:=by
 induction t with
 |lf n=>intro ae h;exact h (jq n (-1) (-1)) (zq.2 rfl)
 |un n a ih=>intro ae h;exact⟨h (jq n ((ae+a.size:Nat)-1) (-1)) (tQ.2 (.inr (zq.2 rfl))),ih ae fun m hm=>h m (tQ.2 (.inl hm))⟩
 |bi n a b iha ihb=>intro ae h;exact⟨h (jq n ((ae+a.size:Nat)-1) ((ae+a.size+b.size:Nat)-1)) (tQ.2 (.inr (zq.2 rfl))),iha ae fun m hm=>h m (tQ.2 (.inl (tQ.2 (.inl hm)))),ihb _ fun m hm=>h m (tQ.2 (.inl (tQ.2 (.inr hm))))⟩
def UJ(t:Tr):t.wf->t.rg-> ∀(ae:Nat) (tops:List Int),Ni pE t.size (tops,(ae:Int)) ((t.flat ae).flatMap nB) (t.flat ae) (tops++[((ae+t.size:Nat):Int)-1],((ae+t.size:Nat):Int)):=by
 induction t with
 |lf n=>
  intro⟨Y,X,_,_⟩ hr ae tops
  have:=Ni.one (RM (n:=jq n (-1) (-1)) Y X hr (e:=(tops,(ae:Int))) (t:=tops) rfl)
  simp only [Tr.flat,Tr.size,Ai,List.flatMap_nil,pM]
  rw [show((ae+1:Nat):Int)-1=(ae:Int)from by omega,show((ae+1:Nat):Int)=(ae:Int)+1 from by omega]
  exact this
 |un n a ih=>
  intro⟨⟨Y,X,_,_⟩,hw⟩ ⟨hr,hra⟩ ae tops
  have q1:=ih hw hra ae tops
  have q2:=Ni.one (RM (n:=jq n (((ae+a.size:Nat):Int)-1) (-1)) Y X hr (e:=(tops++[((ae+a.size:Nat):Int)-1],((ae+a.size:Nat):Int))) (t:=tops) (by simp [vg,jq]))
  have:=q1.app q2 (a.flat_len ae)
  simp only [Tr.flat,Tr.size,List.flatMap_append,Ai,List.flatMap_nil,pM]
  rw [show((ae+(a.size+1):Nat):Int)-1=((ae+a.size:Nat):Int)from by omega,show((ae+(a.size+1):Nat):Int)=((ae+a.size:Nat):Int)+1 from by omega]
  exact this
 |bi n a b iha ihb=>
  intro⟨⟨Y,X,_,_⟩,hwa,hwb⟩ ⟨hr,hra,hrb⟩ ae tops
  have q1:=iha hwa hra ae tops
  have q2:=ihb hwb hrb (ae+a.size) (tops++[((ae+a.size:Nat):Int)-1])
  have q3:=Ni.one (RM (n:=jq n (((ae+a.size:Nat):Int)-1) (((ae+a.size+b.size:Nat):Int)-1)) Y X hr (e:=(tops++[((ae+a.size:Nat):Int)-1]++[((ae+a.size+b.size:Nat):Int)-1],((ae+a.size+b.size:Nat):Int))) (t:=tops) (by simp [vg,jq,List.dropLast_append_of_ne_nil]))
  have:=(q1.app q2 (a.flat_len ae)).app q3 (by rw [kw,a.flat_len,b.flat_len])
  simp only [Tr.flat,Tr.size,List.flatMap_append,Ai,List.flatMap_nil,pM]
  rw [show((ae+(a.size+b.size+1):Nat):Int)-1=((ae+a.size+b.size:Nat):Int)from by omega,show((ae+(a.size+b.size+1):Nat):Int)=((ae+a.size+b.size:Nat):Int)+1 from by omega]
  exact this
def YY(e:aP):Prop:= ∀n∈e.Nodes,Uc n.Value
def AN{e:aP}(h:my e.Nodes=true\/e.Nodes.length=0)(hr:YY e):Cm AO (eB e) e:=by
 have key:e.Nodes.length<=1000/\Cm (Eu (e.Nodes.length:Int)) (e.Nodes.flatMap nB) e.Nodes:=by
  rcases h with h|h
  ·unfold my at h
   obtain⟨t,D⟩:=Np.1 h
   obtain⟨Y,X,d⟩:=mR D
   have hl:e.Nodes.length=t.size:=by rw [X,t.flat_len]
   refine⟨by omega,fun r=>?_⟩
   have h4:=UJ t Y (ZN t 0 (by rw [<-X];exact hr)) 0 [] r
   unfold Eu
   rw [u0,hl,X]
   rw [show((0:Nat):Int)=(0:Int)from rfl]at h4
   rw [h4];rfl
  ·rw [rN h]
   exact⟨by simp,fun r=>rfl⟩
 have:=Cm.bind (q:=fun n=>lv aP.mk (Eu n)) (RO (x:=(e.Nodes.length:Int)) ⟨by omega,by omega⟩) (key.2.map aP.mk)
 exact this
end Go.Proofs.YtdohlidddcgfjaaGreat


/- bT of this claim: H17. -/
set_option linter.all false
namespace Go.Proofs.YtdohlidddcgfjaaGreat
open Go

def A5(e:aP):Prop:=my e.Nodes=true\/e.Nodes.length=0
structure GN(n:aa):Prop where
 prt:0<=prt n.Op
 own:qH n=true
 scan:n.Op=1\/n.Op=9->fJ n.Table/\n.Kinds.length<=255/\ ∀k∈n.Kinds,fJ k
 cond:n.Op=2\/n.Op=3->A5 n.Cond
 grp:n.Op=4\/n.Op=10\/n.Op=11->n.Keys.length<=255/\(∀k∈n.Keys,fJ k)/\n.Aggs.length<=255/\ ∀a∈n.Aggs,fJ a.Tag/\A5 a.Arg
 prj:n.Op=5->n.Items.length<=255/\ ∀e∈n.Items,A5 e
 srt:n.Op=8->n.Order.length<=255/\(∀o∈n.Order,fJ o.Col)/\ -1<=n.Limit/\n.Limit<=2147483647
def Tk{g:eS}{a:List Int}(h:(Bs g a).2=true):fJ g.Tag/\A5 g.Arg:=by
 unfold Bs at h
 unfold fJ
 by_cases Y:g.Tag=1
 ·rw [bh Y]at h
  exact⟨by omega,.inr (by simpa using h)⟩
 rw [aR Y]at h
 by_cases d:g.Tag=3
 ·rw [bh d]at h
  simp only [lq,oJ,hX]at h
  exact⟨by omega,.inl (qg h.1.1.1)⟩
 rw [aR d]at h
 split at h
 ·simp only [lq,oJ,hX]at h
  exact⟨by omega,.inl (qg h.1.1)⟩
 ·simp only [lq,oJ,hX]at h
  exact⟨by omega,.inl (qg h.1.1)⟩
def Gj{e:aP}{ks:List Int}(h:HG e ks=true):A5 e:=by
 unfold HG at h
 simp only [lq,oJ]at h
 exact .inl (qg h.1)
def PK{a:List Int}{e:Int}(ha:a.length<=16)(h:vj a e=false):fJ e:=by
 simp [vj]at h
 unfold fJ
 omega
def Kq{n:aa}(hn:i0 n)(h4:n.Op=4){a b k:List Int}(ha:a.length<=16)(h:cC n a b=some (k,true)):n.Keys.length<=255/\(∀k∈n.Keys,fJ k)/\n.Aggs.length<=255/\ ∀a∈n.Aggs,fJ a.Tag/\A5 a.Arg:=by
 rw [YV hn h4]at h
 cases hany:n.Keys.any (vj a)with
 |true=>rw [hany,bh rfl]at h;cases h
 |false=>
  rw [hany,aR (by simp)]at h
  injection h with h
  injection h with X d
  simp only [lq,kQ,hX]at d
  refine⟨by omega,fun e he=>?_,by omega,fun g H=>?_⟩
  ·exact PK ha (by have:=Jg.1 hany e he;simpa using this)
  ·have:=d.1.1.1 g H
   rw [<-(Br g a).1]at this
   exact Tk this
def GT{a:List Int}: ∀(ks:List Int) (i:Nat),wZ a ks i=true->i+ks.length<=255-> ∀k∈ks,fJ k
 |[],_,_,_=>fun k hk=>by cases hk
 |k::tl,i,h,hl=>fun x V=>by
  unfold wZ at h
  simp only [lq,oJ]at h
  simp only [iB]at hl
  rcases jf.1 V with rfl|V
  ·unfold fJ;omega
  ·exact GT tl (i+1) h.2 (by omega) x V
def UL{g:eS}{k:Int}(h:(fk g k).2=true):fJ g.Tag/\A5 g.Arg:=by
 unfold fk at h
 unfold fJ
 repeat' split at h
 all_goals simp at h
 all_goals exact⟨by omega,.inr (by rw [h.1];rfl)⟩
def Mz{l:al}(h:Lb l){e:aa}(hA:gR l.nodes l.n.A=some e){r:Bool×al}(hr:dA l=some r)(D:r.1=true):l.n.Keys.length<=255/\(∀k∈l.n.Keys,fJ k)/\l.n.Aggs.length<=255/\ ∀a∈l.n.Aggs,fJ a.Tag/\A5 a.Arg:=by
 have hk:=h.n.keys
 have H:=h.n.aggs
 have ha:=h.a
 have hw:IntKind.i64.wrap ((l.n.Keys.length:Int)+(l.n.Aggs.length:Int))=((l.n.Keys.length+l.n.Aggs.length:Nat):Int):=by rw [eP (by omega) (by omega)];omega
 unfold dA at hr
 rw [hA,bg]at hr
 by_cases hc:((((e.Op==(9:Int))&&(decide ((l.n.Keys.length:Int)<=(3:Int))))&&(decide ((l.n.Aggs.length:Int)<=(12:Int))))&&((IntKind.i64.wrap ((l.n.Keys.length:Int)+(l.n.Aggs.length:Int)))==(l.a_.length:Int)))=true
 ·have hc' :(l.n.Keys.length<=3/\l.n.Aggs.length<=12)/\l.n.Keys.length+l.n.Aggs.length=l.a_.length:=by
   rw [hw]at hc
   simp only [lq,oJ,hX]at hc
   omega
  rw [hc,aR (by simp),sP _ (by omega),bg,BY (by omega) l.a_ l.n.Keys 0 true (uX _),nC]at hr
  have:=ET (l:=l) hk l.n.Aggs 0 (wZ l.a_ l.n.Keys 0) (l.a_.take l.n.Keys.length) (l.a_.drop l.n.Keys.length) (by simp;omega) (by simp;omega) rfl (by simp;omega)
  rw [s6]at this
  rw [this]at hr
  cases hr
  simp only [lq,kQ]at D
  refine⟨by omega,GT _ _ D.1 (by omega),by omega,fun g hg' =>?_⟩
  obtain⟨j,hj,hjx⟩:=List.getElem_of_mem hg'
  have hlen:(l.a_.drop l.n.Keys.length).length=l.n.Aggs.length:=by simp;omega
  have hm:(l.n.Aggs[j],(l.a_.drop l.n.Keys.length)[j]'(by omega))∈l.n.Aggs.zip (l.a_.drop l.n.Keys.length):=by
   rw [List.mem_iff_getElem]
   exact⟨j,by simp;omega,by simp⟩
  have:=D.2 _ hm
  rw [hjx]at this
  exact UL this
 ·rw [Ah]at hc
  rw [hc,bh (show(!false)=true from rfl)]at hr
  cases hr
  cases D
def YP{l:al}(h:Lb l)(hp:0<=prt l.n.Op)(ho:qH l.n=true)(hA:prt l.n.Op≠0-> ∃e,gR l.nodes l.n.A=some e){R:List Int}(hR:R.length<=16)(hk:nU l.n.Op l ()=some (true,{l with result:=R})):GN l.n:=by
 have m13:FN l.n.Op=true-> ∃k,cC l.n l.a_ l.b=some (k,true)/\k.length<=16:=fun h8=>by
  obtain⟨ok,R',o,k,g1,g2,g3,_⟩:=Sc h h8
  have g1' :nU l.n.Op l ()=some (ok,{l with result:=R' }):=g1
  rw [hk]at g1'
  injection g1' with g1'
  injection g1' with q1 q2
  have q3:R=R' :=congrArg al.result q2
  subst q3
  subst q1
  have:decide (R.length<=16)=true:=by simpa using hR
  rw [this,nC]at g3
  have g4:=g3.symm
  simp only [lq,hX]at g4
  rw [g4.1]at g2
  exact⟨k,g2,g4.2⟩
 refine⟨hp,ho,fun Y=>?_,fun Y=>?_,fun Y=>?_,fun Y=>?_,fun Y=>?_⟩
 ·rcases Y with Y|Y
  ·obtain⟨k,g1,g2⟩:=m13 (by rw [Y];rfl)
   rw [V4 h.n Y]at g1
   injection g1 with g1
   injection g1 with g3 g4
   simp only [lq,kQ,hX]at g4
   unfold fJ
   refine⟨by omega,by omega,fun x V=>?_⟩
   have:=g4.1.1.1.1 x V
   omega
  ·rw [Y]at hk
   have hk' :hT l=some (true,{l with result:=R}):=hk
   rw [EI]at hk'
   injection hk' with hk'
   injection hk' with q1 q2
   unfold Ir at q1
   simp only [lq,kQ,hX]at q1
   unfold fJ
   refine⟨by omega,by omega,fun x V=>?_⟩
   have:=q1.2 x V
   omega
 ·rcases Y with Y|Y
  ·obtain⟨k,g1,g2⟩:=m13 (by rw [Y];rfl)
   rw [YX Y h.a h.b]at g1
   injection g1 with g1
   injection g1 with g3 g4
   exact Gj g4
  ·obtain⟨k,g1,g2⟩:=m13 (by rw [Y];rfl)
   rw [YW Y]at g1
   injection g1 with g1
   injection g1 with g3 g4
   exact Gj g4
 ·rcases Y with Y|Y|Y
  ·obtain⟨k,g1,g2⟩:=m13 (by rw [Y];rfl)
   exact Kq h.n Y h.a g1
  ·rw [Y]at hk
   have hk' :dY l=some (true,{l with result:=R}):=hk
   unfold dY at hk'
   obtain⟨q,q1,q2⟩:=bs hk'
   by_cases hq:q.1=true
   ·have hn4:i0 {l.n with Op:=4}:=⟨h.n.cond,h.n.kinds,h.n.keys,h.n.aggs,h.n.items,h.n.order,h.n.args,h.n.exprs⟩
    obtain⟨ok,R',o,k,g1,g2,g3,_⟩:=zO h (n:={l.n with Op:=4}) rfl hn4 rfl rfl []
    rw [g1]at q1
    cases q1
    have hq:ok=true:=hq
    rw [hq]at g3
    rw [<-g3]at g2
    exact Kq (n:={l.n with Op:=4}) hn4 rfl h.a g2
   ·rw [bh (by simpa using hq)]at q2
    cases q2
  ·rw [Y]at hk
   have hk' :dA l=some (true,{l with result:=R}):=hk
   obtain⟨e,he⟩:=hA (by rw [Y];decide)
   exact Mz h he hk' rfl
 ·obtain⟨k,g1,g2⟩:=m13 (by rw [Y];rfl)
  rw [Xh h.n Y]at g1
  injection g1 with g1
  injection g1 with g3 g4
  simp only [lq,kQ,hX,oJ]at g4
  exact⟨by omega,fun e he=> .inl (qg (g4.1.1 e he))⟩
 ·obtain⟨k,g1,g2⟩:=m13 (by rw [Y];rfl)
  have ha:=h.a
  rw [YU h.n Y]at g1
  injection g1 with g1
  injection g1 with g3 g4
  simp only [lq,kQ,hX]at g4
  refine⟨by omega,fun o ho=>?_,by omega,by omega⟩
  have:=g4.1.1.1 o ho
  unfold fJ
  omega
def Ze:List aa->Nat->List Int->Prop
 |[],_,_=>True
 |e::tl,i,st=>TG e st/\GN e/\Ze tl (i+1) ((i:Int)::st.drop (prt e.Op).toNat)
section
variable{ns:List aa}{l:al}{i:Nat}
def Pd(h:Qt ns l i)(hs:mq ns){e:aa}(he:ns[i]? =some e){l' :al}(D:dh l (i:Int) (nU e.Op)=some (true,l')):TG e l.open_.reverse/\GN e/\l'.open_.reverse=(i:Int)::l.open_.reverse.drop (prt e.Op).toNat:=by
 have hi:=(sf.1 he).1
 have h90:=hs.len
 have hse:=hs.n e (s5 he)
 have hkl:=h.k.len
 have hopen:=h.k.open_
 by_cases H:TG e l.open_.reverse/\qH e=true
 ·obtain⟨hp,ho⟩:=H
  have hprt:0<=prt e.Op:=by rcases hp with h|h|h<;>omega
  have hA1:prt e.Op≠0->0<=e.A/\e.A<(i:Int):=fun hne=>by
   rcases hp with h|⟨_,_,r,hr⟩|⟨_,r,hr⟩
   ·exact absurd h.1 hne
   ·exact hopen e.A (Je.1 (by rw [hr];simp))
   ·exact hopen e.A (Je.1 (by rw [hr];simp))
  have hlb:Lb (vY l e (kA l.kinds e.A) (kA l.kinds e.B)):=⟨hse,B0 h.k.kinds _,B0 h.k.kinds _⟩
  have hA2:prt (vY l e (kA l.kinds e.A) (kA l.kinds e.B)).n.Op≠0-> ∃x,gR (vY l e (kA l.kinds e.A) (kA l.kinds e.B)).nodes (vY l e (kA l.kinds e.A) (kA l.kinds e.B)).n.A=some x:=fun hne=>by
   have:=hA1 hne
   refine⟨ns[e.A.toNat]'(by omega),?_⟩
   show gR l.nodes e.A=_
   rw [h.k.nodes,lV e.A.toNat (by omega),tM (by omega)]
  obtain⟨ok0,R0,g1,_⟩:=KV hlb hA2 hprt
  have g1' :nU e.Op (vY l e (kA l.kinds e.A) (kA l.kinds e.B)) ()=some (ok0,{vY l e (kA l.kinds e.A) (kA l.kinds e.B)with result:=R0}):=g1
  obtain⟨l2,t1,t2⟩:=DX h.k (by omega) (by omega) he hse hp ho g1'
  rw [D]at t1
  injection t1 with t1
  injection t1 with t3 t4
  subst t4
  have t5:=t2 t3.symm
  have t6:=t3.symm
  simp only [lq,hX]at t6
  have hok:ok0=true:=t6.2.2.1
  subst hok
  exact⟨hp,YP hlb hprt ho hA2 t6.2.2.2 g1',t5.2⟩
 ·obtain⟨l2,t1⟩:=Gm h.k (by omega) (by omega) he hse H
  rw [D]at t1
  cases t1
def Kh(hs:mq ns): ∀(tl:List aa) (i:Nat) (l:al),ns.drop i=tl->Qt ns l i-> ∀{out:List (List Int)} {w:Int},fd ns ((lz).getD []) tl i (-1) l=some (out,w,0)->Ze tl i l.open_.reverse
 |[],_,_,_,_,_,_,_=>trivial
 |e::tl,i,l,hd,hS,out,w,h=>by
  obtain⟨hidx,hi,hd'⟩:=pe hd
  rw [eU]at hidx
  obtain⟨ok,l',g1,g2,g3⟩:=BK hS hs hidx tl
  unfold fd at h
  have g1' :dh l (i:Int) ((tZ ((lz).getD []) e.Op).getD (fun _ _=>none))=some (ok,l'):=g1
  rw [g1',bg]at h
  cases ok with
  |false=>
   rw [bh (by rfl)]at h
   unfold jE at h
   rw [aR (by simp;omega),pf l' (by omega)]at h
   cases h
  |true=>
   rw [aR (by simp)]at h
   obtain⟨k1,k2,k3⟩:=Pd hS hs hidx g1
   have:=Kh hs tl (i+1) l' hd' (g2 rfl).1 h
   rw [k3]at this
   exact⟨k1,k2,this⟩
end
def Qz{ns:List aa}(hs:mq ns){out:List (List Int)}{w:Int}(h:iH ns=some (out,w,0)):1<=ns.length/\ns.length<=60/\Ze ns 0 []:=by
 unfold iH at h
 split at h
 ·cases h
 ·rename_i hc
  simp only [yS,hX,not_or]at hc
  exact⟨by omega,by omega,Kh hs ns 0 ⟨ns,[],[],⟨0,0,0,0,[],false,⟨[]⟩,[],[],[],[],0⟩,[],[],[]⟩ rfl ⟨⟨rfl,rfl,fun p hp=>(by cases hp),eg _,fun k hk=>(by cases hk),fun j hj=>by omega⟩,.nil,fun k hk=>by cases hk⟩ h⟩
end Go.Proofs.YtdohlidddcgfjaaGreat


/- bT of this claim: H18. -/
set_option linter.all false
namespace Go.Proofs.YtdohlidddcgfjaaGreat
open Go

structure YZ(n:aa):Prop where
 cond:YY n.Cond
 item: ∀e∈n.Items,YY e
 arg: ∀a∈n.Aggs,YY a.Arg
def rgP(p:cT):Prop:= ∀f∈p.Frags,∀n∈f.Nodes,YZ n
def Ey{n:aa}(h:BV n=true):(n.Op≠1->n.Table=0/\n.Kinds=[])/\(n.Op≠2->n.Left=false)/\(n.Op≠2->n.Op≠3->n.Cond=⟨[]⟩)/\(n.Op≠4->n.Keys=[]/\n.Aggs=[])/\(n.Op≠5->n.Items=[])/\(n.Op≠8->n.Order=[]/\n.Limit=0):=by
 have z: ∀{α:Type} (l:List α),¬((0:Int)<(l.length:Int))->l=[]:=fun l hl=>rN (by omega)
 unfold BV oT at h
 split at h
 ·simp at h
 rename_i c1
 split at h
 ·simp at h
 rename_i c2
 split at h
 ·simp at h
 rename_i c3
 simp only [yS,lq,xd,ne_eq,hX,Option.getD_some,oJ]at c1 c2 c3 h
 refine⟨fun V=>?_,fun V=>?_,fun V hy=>?_,fun V=>?_,fun V=>?_,fun V=>?_⟩
 ·have Y: ¬(¬n.Table=0\/(0:Int)<(n.Kinds.length:Int)):=fun hh=>c1 ⟨V,hh⟩
  exact⟨Decidable.byContradiction fun hh=>Y (.inl hh),z _ fun hh=>Y (.inr hh)⟩
 ·cases hl:n.Left with
  |false=>rfl
  |true=>exact absurd (.inl ⟨V,hl⟩) c2
 ·have:=z _ fun hh=>c2 (.inr ⟨⟨V,hy⟩,hh⟩)
  generalize n.Cond=c at this
  obtain⟨l⟩:=c
  have:l=[]:=this
  rw [this]
 ·exact⟨z _ fun hh=>c3 (.inl ⟨V,.inl hh⟩),z _ fun hh=>c3 (.inl ⟨V,.inr hh⟩)⟩
 ·exact z _ fun hh=>c3 (.inr ⟨V,hh⟩)
 ·rcases h with h|⟨Y,X⟩
  ·exact absurd h V
  ·exact⟨rN (by omega),X⟩
def PI{n:aa}(hp:0<=prt n.Op)(h:qH n=true):(n.Op≠1->n.Op≠9->n.Table=0/\n.Kinds=[])/\(n.Op≠2->n.Left=false)/\(n.Op≠2->n.Op≠3->n.Cond=⟨[]⟩)/\(n.Op≠4->n.Op≠10->n.Op≠11->n.Keys=[]/\n.Aggs=[])/\(n.Op≠5->n.Items=[])/\(n.Op≠8->n.Order=[]/\n.Limit=0):=by
 rcases yA hp with h8|h9|H
 ·rw [NW h8]at h
  obtain⟨a1,a2,a3,a4,a5,a6⟩:=Ey h
  have:=nm h8
  exact⟨fun Y _=>a1 Y,a2,a3,fun Y _ _=>a4 Y,a5,a6⟩
 ·rw [Un h9]at h
  obtain⟨a1,a2,a3,a4,a5,a6⟩:=Ey h
  have k2:(1:Int)≠2:=by decide
  have k3:(1:Int)≠3:=by decide
  have k4:(1:Int)≠4:=by decide
  have k5:(1:Int)≠5:=by decide
  have k8:(1:Int)≠8:=by decide
  exact⟨fun _ Y=>absurd h9 Y,fun _=>a2 k2,fun _ _=>a3 k2 k3,fun _ _ _=>a4 k4,fun _=>a5 k5,fun _=>a6 k8⟩
 ·rw [NV H]at h
  obtain⟨a1,a2,a3,a4,a5,a6⟩:=Ey h
  have k1:(4:Int)≠1:=by decide
  have k2:(4:Int)≠2:=by decide
  have k3:(4:Int)≠3:=by decide
  have k5:(4:Int)≠5:=by decide
  have k8:(4:Int)≠8:=by decide
  exact⟨fun _ _=>a1 k1,fun _=>a2 k2,fun _ _=>a3 k2 k3,fun Y X d=>by omega,fun _=>a5 k5,fun _=>a6 k8⟩
def YR{a:eS}(h:fJ a.Tag/\A5 a.Arg)(hr:YY a.Arg):Cm RL (VK a) a:=
 Cm.bind (l:=[IntKind.u8.wrap a.Tag]) (q:=fun f=>lv (eS.mk f) AO) (ol h.1) ((AN h.2 hr).map (eS.mk a.Tag))
def Xm{o:kg}(h:fJ o.Col):Cm Uh (Y7 o) o:=
 Cm.bind (l:=[IntKind.u8.wrap o.Col]) (q:=fun f=>lv (kg.mk f) vi) (ol h) ((AM o.Desc).map (kg.mk o.Col))
def PF{n:aa}(h:GN n)(hr:YZ n){e:List Int×Int}{t:List Int}(hp:vg (prt n.Op).toNat e.1=some (n.A,n.B,t)):Cm (Ev n.Op e) (Du n) (n,t++[e.2],e.2+1):=by
 obtain⟨o1,o2,o3,o4,o5,o6⟩:=PI h.prt h.own
 have hop:=yA h.prt
 have hop:n.Op=1\/n.Op=2\/n.Op=3\/n.Op=4\/n.Op=5\/n.Op=6\/n.Op=7\/n.Op=8\/n.Op=9\/n.Op=10\/n.Op=11:=by
  rcases hop with h8|h9|h9|h9
  ·have:=nm h8;omega
  all_goals omega
 unfold Ev
 by_cases Y:n.Op=1\/n.Op=9
 ·rw [bh (by simpa using Y)]
  obtain⟨b1,b2,b3⟩:=h.scan Y
  have e2:=o2 (by omega)
  have e3:=o3 (by omega) (by omega)
  obtain⟨e4,e5⟩:=o4 (by omega) (by omega) (by omega)
  have e6:=o5 (by omega)
  obtain⟨e7,e8⟩:=o6 (by omega)
  have en:n=⟨n.Op,n.A,n.B,n.Table,n.Kinds,false,⟨[]⟩,[],[],[],[],0⟩:=by
   obtain⟨x,A,B,T,hb,Lf,C,Ks,Ag,It,Or,Li⟩:=n;simp only at e2 e3 e4 e5 e6 e7 e8;rw [e2,e3,e4,e5,e6,e7,e8]
  have hp0:(prt n.Op).toNat=0:=by rcases Y with Y|Y<;>rw [Y]<;>rfl
  rw [hp0]at hp
  have q:=Cm.bind (l:=[IntKind.u8.wrap n.Table]) (q:=fun t=>cY L6 fun ks=>ld 0 (fun L R=>(⟨n.Op,L,R,t,ks,false,⟨[]⟩,[],[],[],[],0⟩:aa)) e) (ol b1) (Cm.bind (Id n.Kinds b2 b3) (mF (fun L R=>(⟨n.Op,L,R,n.Table,n.Kinds,false,⟨[]⟩,[],[],[],[],0⟩:aa)) hp))
  rw [pM,<-en]at q
  exact q.eq (by simp [Du,Y])
 have t1:=o1 (by omega) (by omega)
 rw [aR (by simpa using Y)]
 by_cases X:n.Op=2
 ·rw [bh (by simpa using X)]
  have e3:=h.cond (.inl X)
  obtain⟨e4,e5⟩:=o4 (by omega) (by omega) (by omega)
  have e6:=o5 (by omega)
  obtain⟨e7,e8⟩:=o6 (by omega)
  have en:n=⟨n.Op,n.A,n.B,0,[],n.Left,n.Cond,[],[],[],[],0⟩:=by
   obtain⟨x,A,B,T,hb,Lf,C,Ks,Ag,It,Or,Li⟩:=n;simp only at t1 e4 e5 e6 e7 e8;rw [t1.1,t1.2,e4,e5,e6,e7,e8]
  have hp0:(prt n.Op).toNat=2:=by rw [X];rfl
  rw [hp0]at hp
  have q:=Cm.bind (l:=[fB n.Left]) (q:=fun f=>cY AO fun c=>ld 2 (fun L R=>(⟨n.Op,L,R,0,[],f,c,[],[],[],[],0⟩:aa)) e) (AM n.Left) (Cm.bind (AN e3 hr.cond) (mF (fun L R=>(⟨n.Op,L,R,0,[],n.Left,n.Cond,[],[],[],[],0⟩:aa)) hp))
  rw [pM,<-en]at q
  exact q.eq (by simp [Du,X])
 have t2:=o2 X
 rw [aR (by simpa using X)]
 by_cases d:n.Op=3
 ·rw [bh (by simpa using d)]
  have e3:=h.cond (.inr d)
  obtain⟨e4,e5⟩:=o4 (by omega) (by omega) (by omega)
  have e6:=o5 (by omega)
  obtain⟨e7,e8⟩:=o6 (by omega)
  have en:n=⟨n.Op,n.A,n.B,0,[],false,n.Cond,[],[],[],[],0⟩:=by
   obtain⟨x,A,B,T,hb,Lf,C,Ks,Ag,It,Or,Li⟩:=n;simp only at t1 t2 e4 e5 e6 e7 e8;rw [t1.1,t1.2,t2,e4,e5,e6,e7,e8]
  have hp0:(prt n.Op).toNat=1:=by rw [d];rfl
  rw [hp0]at hp
  have q:=Cm.bind (q:=fun c=>ld 1 (fun L R=>(⟨n.Op,L,R,0,[],false,c,[],[],[],[],0⟩:aa)) e) (AN e3 hr.cond) (mF (fun L R=>(⟨n.Op,L,R,0,[],false,n.Cond,[],[],[],[],0⟩:aa)) hp)
  rw [pM,<-en]at q
  exact q.eq (by simp [Du,d])
 have t3:=o3 X d
 rw [aR (by simpa using d)]
 by_cases h4:n.Op=4\/n.Op=10\/n.Op=11
 ·rw [bh (by simpa [or_assoc] using h4)]
  obtain⟨b1,b2,b3,b4⟩:=h.grp h4
  have e6:=o5 (by omega)
  obtain⟨e7,e8⟩:=o6 (by omega)
  have en:n=⟨n.Op,n.A,n.B,0,[],false,⟨[]⟩,n.Keys,n.Aggs,[],[],0⟩:=by
   obtain⟨x,A,B,T,hb,Lf,C,Ks,Ag,It,Or,Li⟩:=n;simp only at t1 t2 t3 e6 e7 e8;rw [t1.1,t1.2,t2,t3,e6,e7,e8]
  have hp0:(prt n.Op).toNat=1:=by rcases h4 with Y|Y|Y<;>rw [Y]<;>rfl
  rw [hp0]at hp
  have q:=Cm.bind (q:=fun ks=>cY (L8 RL) fun a=>ld 1 (fun L R=>(⟨n.Op,L,R,0,[],false,⟨[]⟩,ks,a,[],[],0⟩:aa)) e) (Id n.Keys b1 b2) (Cm.bind (AP n.Aggs b3 fun a ha=>YR (b4 a ha) (hr.arg a ha)) (mF (fun L R=>(⟨n.Op,L,R,0,[],false,⟨[]⟩,n.Keys,n.Aggs,[],[],0⟩:aa)) hp))
  rw [pM,<-en]at q
  exact q.eq (by rcases h4 with h4|h4|h4<;>simp [Du,h4])
 have t4:=o4 (by omega) (by omega) (by omega)
 rw [aR (by simpa [or_assoc] using h4)]
 by_cases h5:n.Op=5
 ·rw [bh (by simpa using h5)]
  obtain⟨b1,b2⟩:=h.prj h5
  obtain⟨e7,e8⟩:=o6 (by omega)
  have en:n=⟨n.Op,n.A,n.B,0,[],false,⟨[]⟩,[],[],n.Items,[],0⟩:=by
   obtain⟨x,A,B,T,hb,Lf,C,Ks,Ag,It,Or,Li⟩:=n;simp only at t1 t2 t3 t4 e7 e8;rw [t1.1,t1.2,t2,t3,t4.1,t4.2,e7,e8]
  have hp0:(prt n.Op).toNat=1:=by rw [h5];rfl
  rw [hp0]at hp
  have q:=Cm.bind (q:=fun a=>ld 1 (fun L R=>(⟨n.Op,L,R,0,[],false,⟨[]⟩,[],[],a,[],0⟩:aa)) e) (AP n.Items b1 fun a ha=>AN (b2 a ha) (hr.item a ha)) (mF (fun L R=>(⟨n.Op,L,R,0,[],false,⟨[]⟩,[],[],n.Items,[],0⟩:aa)) hp)
  rw [pM,<-en]at q
  exact q.eq (by simp [Du,h5])
 have t5:=o5 h5
 rw [aR (by simpa using h5)]
 by_cases h8:n.Op=8
 ·rw [bh (by simpa using h8)]
  obtain⟨b1,b2,b3,b4⟩:=h.srt h8
  have el:Ip (n.Limit+1)=n.Limit:=by unfold Ip;rw [q7,q7];omega
  have en:n=⟨n.Op,n.A,n.B,0,[],false,⟨[]⟩,[],[],[],n.Order,Ip (n.Limit+1)⟩:=by
   rw [el]
   obtain⟨x,A,B,T,hb,Lf,C,Ks,Ag,It,Or,Li⟩:=n;simp only at t1 t2 t3 t4 t5;rw [t1.1,t1.2,t2,t3,t4.1,t4.2,t5]
  have hp0:(prt n.Op).toNat=1:=by rw [h8];rfl
  rw [hp0]at hp
  have eb:Kj n=eQ (n.Limit+1) 4:=by
   unfold Kj
   have:IntKind.u64.wrap (IntKind.i64.wrap (n.Limit+1))=n.Limit+1:=by rw [wU,q7];omega
   rw [this]
  have q:=Cm.bind (q:=fun a=>cY Y0 fun l=>ld 1 (fun L R=>(⟨n.Op,L,R,0,[],false,⟨[]⟩,[],[],[],a,Ip l⟩:aa)) e) (AP n.Order b1 fun o ho=>Xm (b2 o ho)) (Cm.bind (RN (x:=n.Limit+1) (by omega) (by omega)) (mF (fun L R=>(⟨n.Op,L,R,0,[],false,⟨[]⟩,[],[],[],n.Order,Ip (n.Limit+1)⟩:aa)) hp))
  rw [pM,<-en,<-eb]at q
  exact q.eq (by simp [Du,h8])
 obtain⟨e7,e8⟩:=o6 h8
 rw [aR (by simpa using h8)]
 have en:n=⟨n.Op,n.A,n.B,0,[],false,⟨[]⟩,[],[],[],[],0⟩:=by
  obtain⟨x,A,B,T,hb,Lf,C,Ks,Ag,It,Or,Li⟩:=n;simp only at t1 t2 t3 t4 t5 e7 e8;rw [t1.1,t1.2,t2,t3,t4.1,t4.2,t5,e7,e8]
 have ec:Du n=[]:=by
  unfold Du
  rw [aR Y,aR X,aR d,aR h4,aR h5,aR h8]
 rw [ec]
 by_cases h7:n.Op=7
 ·rw [bh (by simpa using h7)]
  have hp0:(prt n.Op).toNat=2:=by rw [h7];rfl
  rw [hp0]at hp
  have q:=mF (fun L R=>(⟨n.Op,L,R,0,[],false,⟨[]⟩,[],[],[],[],0⟩:aa)) hp
  rw [<-en]at q
  exact q
 ·rw [aR (by simpa using h7)]
  have hp0:(prt n.Op).toNat=1:=by rw [show n.Op=6 by omega];rfl
  rw [hp0]at hp
  have q:=mF (fun L R=>(⟨n.Op,L,R,0,[],false,⟨[]⟩,[],[],[],[],0⟩:aa)) hp
  rw [<-en]at q
  exact q
def RE{op:Int}(h:0<=prt op):fJ op:=by
 unfold fJ
 rcases yA h with h8|h9|h9|h9
 ·have:=nm h8;omega
 all_goals omega
def RI{n:aa}(h:GN n)(hr:YZ n){e:List Int×Int}{t:List Int}(hp:vg (prt n.Op).toNat e.1=some (n.A,n.B,t)):CmE NR e (C6 n) n (t++[e.2],e.2+1):=
 Cm.bind (l:=[IntKind.u8.wrap n.Op]) (q:=fun x=>Ev x e) (ol (RE h.prt)) (PF h hr hp)
def Ui{n:aa}{st:List Int}(h:TG n st):vg (prt n.Op).toNat st.reverse=some (n.A,n.B,(st.drop (prt n.Op).toNat).reverse):=by
 rcases h with⟨Y,X,d⟩|⟨Y,X,r,rfl⟩|⟨Y,r,rfl⟩
 ·rw [Y,X,d];rfl
 ·rw [Y,X]
  show vg 1 _=some (n.A,-1,r.reverse)
  simp [vg]
 ·rw [Y]
  show vg 2 _=some (n.A,n.B,r.reverse)
  simp [vg,List.dropLast_append_of_ne_nil]
def Ew: ∀(ns:List aa) (i:Nat) (st:List Int),Ze ns i st->(∀n∈ns,YZ n)-> ∃e',Ni NR ns.length (st.reverse,(i:Int)) (ns.flatMap C6) ns e'
 |[],_,_,_,_=>⟨_,Ni.nil⟩
 |n::ns,i,st,⟨Y,X,d⟩,hr=>by
  obtain⟨e',q⟩:=Ew ns (i+1) _ d fun m hm=>hr m (pp _ hm)
  have q1:=Ni.one (RI X (hr n (nA ..)) (e:=(st.reverse,(i:Int))) (Ui Y))
  refine⟨e',?_⟩
  rw [List.reverse_cons]at q
  have:=q1.app q rfl
  rw [Nat.add_comm 1]at this
  rw [Ai]
  exact this
structure Wf(f:di):Prop where
 at_:fJ f.At
 way:fJ f.Way
 cols:f.Cols.length<=255/\ ∀c∈f.Cols,fJ c
 len:f.Nodes.length<=255
 ns:Ze f.Nodes 0 []
def RK{f:di}(h:Wf f)(hr: ∀n∈f.Nodes,YZ n):Cm NU (TC f) f:=by
 obtain⟨e',q⟩:=Ew f.Nodes 0 [] h.ns hr
 have q1:Cm (AK (f.Nodes.length:Int)) (f.Nodes.flatMap C6) f.Nodes:=fun r=>by
  unfold AK
  have:=q r
  rw [u0]
  rw [show(([]:List Int).reverse,((0:Nat):Int))=(([]:List Int),(0:Int))from rfl]at this
  rw [this];rfl
 have hl:=h.len
 have:=Cm.bind (l:=[IntKind.u8.wrap f.At]) (q:=fun a=>cY p8 fun w=>cY L6 fun cs=>cY p8 fun n=>lv (fun ns=>di.mk ns a w cs) (AK n)) (ol h.at_)
  (Cm.bind (l:=[IntKind.u8.wrap f.Way]) (ol h.way) (Cm.bind (Id f.Cols h.cols.1 h.cols.2) (Cm.bind (l:=[IntKind.u8.wrap (f.Nodes.length:Int)]) (ol (x:=(f.Nodes.length:Int)) ⟨by omega,by omega⟩) (q1.map fun ns=>di.mk ns f.At f.Way f.Cols))))
 exact this.eq (by simp [TC])
def UB{ns:List aa}(hs:mq ns)(h:UC ns=true):ns.length<=60/\Ze ns 0 []:=by
 unfold UC at h
 cases hk:iH ns with
 |none=>rw [hk]at h;cases h
 |some r=>
  obtain⟨out,w,e⟩:=r
  rw [hk]at h
  have he:e=0:=by simpa using h
  subst he
  exact(Qz hs hk).2
def My{f:di}(hs:mq f.Nodes)(h:CI f=true):Wf f:=by
 unfold CI at h
 simp only [lq,yS,oJ,hX,CW]at h
 obtain⟨⟨Y,X⟩,⟨d,h4⟩,h5⟩:=h
 obtain⟨g1,g2⟩:=UB hs Y
 refine⟨by unfold fJ;omega,by unfold fJ;omega,⟨by omega,fun c hc=>?_⟩,by omega,g2⟩
 have:=Jg.1 h5 c hc
 simp [Qm]at this
 unfold fJ
 omega
def RH{p:cT}(hs: ∀f∈p.Frags,mq f.Nodes)(h:ze p=true)(hr:rgP p):Cm NP (V7 p) p:=by
 unfold ze at h
 simp only [lq,hX,kQ]at h
 obtain⟨⟨Y,X⟩,d⟩:=h
 exact(AP p.Frags (by omega) fun f hf=>RK (My (hs f hf) (d f hf)) (hr f hf)).map cT.mk
end Go.Proofs.YtdohlidddcgfjaaGreat


/- bT of this claim: H21. -/
set_option linter.all false
namespace Go.Proofs.YtdohlidddcgfjaaGreat
open Go

section
variable{b:List Int}
def N1{α:Type}{f:cB->af->Option (α×cB×af)}{p:Pr α}(hf:Rd b f p)(N:Int)(hN:N<=65535){L:Nat->List α->Int->cB->af->Option (List α×cB×af)}
  (hL: ∀fu out x r o,L (fu+1) out x r o=if decide (x<N)=true then(d7 r o).bind fun c=>if c=true then(f r o).bind fun u=>(app out [u.1]).bind fun out2=>L fu out2 (IntKind.i64.wrap (x+1)) u.2.1 u.2.2 else some (out,r,o)else some (out,r,o)):
  Rd b (fun r o=>L fh [] 0 r o) (pl p N.toNat):=by
 have h:=AZ hf.toE (fun _ _ _=>Mf) (fun _ _=>Mg) N hN () trivial (L:=fun fu out x r o _=>(L fu out x r o).map fun q=>(q.1,q.2.1,q.2.2,())) (by
  intro fu out x r o e
  cases e
  simp only [hL]
  by_cases V:decide (x<N)=true
  ·simp only [V,jL]
   cases d7 r o with
   |none=>rfl
   |some c=>
    cases c with
    |false=>rfl
    |true=>
     simp only [bg,sm,nV,lD,jL]
     cases f r o with
     |none=>rfl
     |some q=>
      simp only [bg,pr]
      cases app out [q.1]<;>rfl
  ·simp only [V];rfl)
 have e:(fun l=>(qG (fun(_:Unit) l=>(p l).map fun u=>((u.1,()),u.2)) N.toNat () l).map fun u=>(u.1.1,u.2))=pl p N.toNat:=funext fun l=>Dj p N.toNat l
 rw [e]at h
 refine h.congr fun r o=>?_
 cases L fh [] 0 r o<;>rfl
end
def L0:Pr (List am):=cY p8 fun n=>cY (ui (decide (n<=16))) fun _=>pl pv n.toNat
def vh:Pr (List (List am)):=cY p16 fun n=>cY (ui (decide (n<=400))) fun _=>pl L0 n.toNat
def Q6{ρ:Type}{r r' :ρ}{o o' :af}{x:Int}(h:Q7 r o=some (x,r',o')):fJ x:=by
 unfold Q7 at h
 cases hq:ck o with
 |none=>rw [hq]at h;cases h
 |some q=>
  rw [hq]at h
  cases h
  unfold ck at hq
  cases hw:cm o 1 with
  |none=>rw [hw]at hq;cases hq
  |some w=>
   rw [hw]at hq
   cases hq
   unfold fJ
   rw [BC,q7]
   omega
section
variable{b:List Int}(K:b.length<=900000000)(hby:pC b)
include K hby
def TU(N:Int)(hN:N<=65535):Rd b (fun t o=>fP t o N) (pl pv N.toNat):=
 N1 (Jw K hby) N hN (L:=iv N) fun _ _ _ _ _=>rfl
def Xg:Rd b pJ L0:=by
 have:=vx (g:=fun n t o=>(vm (decide (n<=16)) t o).bind fun u=>fP u.2.1 u.2.2 n) fJ (fun _ _ _ _ _=>Q6) (NA (ρ:=cB) K hby) fun n hn=>Rd.bind (g:=fun _ t o=>fP t o n) (AW _) fun _=>TU K hby n (by unfold fJ at hn;omega)
 refine this.congr fun t o=>?_
 unfold pJ Q7 vm
 cases ck o with
 |none=>rfl
 |some q=>
  simp only [bg,pr]
  cases cE t q.2 (decide (IntKind.i64.wrap q.1<=16))with
  |none=>rfl
  |some t1=>
   simp only [bg,pr]
   cases fP t1 q.2 (IntKind.i64.wrap q.1)<;>rfl
def Ub(N:Int)(hN:N<=65535):Rd b (fun t o=>gC t o N) (pl L0 N.toNat):=
 N1 (Xg K hby) N hN (L:=je N) fun _ _ _ _ _=>rfl
def Ux:Rd b pd vh:=by
 have:=vx (g:=fun n t o=>(vm (decide (n<=400)) t o).bind fun u=>gC u.2.1 u.2.2 n) QY (fun _ _ _ _ _=>Jz) (Ra (ρ:=cB) K hby) fun n hn=>Rd.bind (g:=fun _ t o=>gC t o n) (AW _) fun _=>Ub K hby n hn.2
 refine this.congr fun t o=>?_
 unfold pd Pa vm
 cases io o with
 |none=>rfl
 |some q=>
  simp only [bg,pr]
  cases cE t q.2 (decide (IntKind.i64.wrap q.1<=400))with
  |none=>rfl
  |some t1=>
   simp only [bg,pr]
   cases gC t1 q.2 (IntKind.i64.wrap q.1)<;>rfl
end
def LD{l:List Int}(hl:l.length<=900000000){v:List (List am)}{t:cB}{o:af}(h:Ln l (vh l) v t o): ∃q,mp t o v=some q/\KY l vh q:=by
 unfold Ln at h
 unfold KY mp
 cases hp:vh l with
 |none=>
  rw [hp]at h
  obtain⟨_,k,y,rfl,X,d⟩:=h
  have d:t.bad=true\/y≠0:=d
  cases K:t.bad with
  |true=>exact⟨_,rfl,show(160:Int)≠0 by decide⟩
  |false=>
   have hy:y≠0:=by rcases d with h|h;rw [K]at h;cases h;exact h
   rw [aR (by simp),uV,bg,bh (by simpa using hy),bg]
   exact⟨_,rfl,hy⟩
 |some w=>
  rw [hp]at h
  obtain⟨rfl,k,⟨g1,g2,rfl,g4⟩,g5⟩:=h
  have g1:t.all=(l.length:Int):=g1
  have g2:t.bad=false:=g2
  rw [g2,aR (by simp),uV,bg,aR (by simp),yP 0 g4 (by omega),bg]
  refine⟨_,rfl,k,g4,?_,g5.symm⟩
  rw [g1,q7]
  have:(l.length:Int)-((l.length-k:Nat):Int)=(k:Int):=by omega
  rw [this]
  have:((k:Int)+9223372036854775808)%18446744073709551616-9223372036854775808=(k:Int):=by omega
  simp [this]
def zm{l:List Int}(hl:l.length<=900000000)(hby:pC l): ∃q,mN l=some q/\KY l vh q:=by
 unfold mN
 rw [zk hl,bg]
 obtain⟨v,t,o,Y,X⟩:=(Ux hl hby).ok 0 ⟨rj,(l.length:Int),false⟩ (rd l 0 0) ⟨rfl,rfl,rfl,by omega⟩
 rw [Y,bg]
 obtain⟨q,d,h4⟩:=LD hl X
 rw [d]
 exact⟨q,rfl,h4⟩
def Iv(r:aK)(o:af):Option (List (List am)×aK×af):=(iM r o).bind fun l=>(mN l).bind fun q=>(fZ r o q.2.1 q.2.2).bind fun ae=>some (q.1,ae.1,ae.2)
def Sy{b:List Int}(K:b.length<=900000000)(hby:pC b):Rd b Iv vh:=by
 refine⟨fun k r o hk=>?_,fun r o hn=>?_⟩
 ·obtain⟨Y,X,rfl,h4⟩:=hk
  obtain⟨q,g1,g2⟩:=zm (l:=b.drop k) (by simp;omega) (yg hby k)
  obtain⟨r',o',g3,g4⟩:=(Dd K g2).1 r ⟨Y,X,rfl,h4⟩
  unfold Iv
  rw [Dg K Y 0 h4,bg,g1,bg,g3]
  exact⟨_,_,_,rfl,g4⟩
 ·have hn' :=hn
  obtain⟨Y,k,y,rfl,h4,h5⟩:=hn
  obtain⟨q,g1,g2⟩:=zm (l:=b.drop k) (by simp;omega) (yg hby k)
  obtain⟨r',o',g3,g4⟩:=(Dd K g2).2 r y h4 hn' h5
  unfold Iv
  rw [Dg K Y y h4,bg,g1,bg,g3]
  exact⟨_,_,_,rfl,g4⟩
def Cg{ρ:Type} [IX ρ]{b:List Int}{α:Type}{f g:ρ->af->Option (α×ρ×af)}{p q:Pr α}(c:Bool)(hf:Rd b f p)(H:Rd b g q):Rd b (fun r o=>if c=true then f r o else g r o) (if c=true then p else q):=by
 cases c with
 |true=>exact hf
 |false=>exact H
def PH(kind:Int):Pr aI:=cY Y0 fun ae=>cY (pw 8) fun q=>
 if(kind==2)=true then lv (fun l=>(⟨kind,ae,q,l,⟨[],false,0⟩⟩:aI)) (pw 8)
 else cY vi fun e=>if e=true then lv (fun c=>(⟨kind,ae,q,0,⟨[],e,c⟩⟩:aI)) (pw 8)else lv (fun l=>(⟨kind,ae,q,0,⟨l,e,0⟩⟩:aI)) vh
def GF{b:List Int}(K:b.length<=900000000)(hby:pC b)(kind:Int):Rd b (fun r o=>kp r o kind) (PH kind):=by
 have h64:=HE (ρ:=aK) K hby
 have:=(Q8 (ρ:=aK) K hby).bind fun ae=>h64.bind fun q=>Cg (kind==2) (h64.map fun l=>(⟨kind,ae,q,l,⟨[],false,0⟩⟩:aI))
  ((Do K hby).bind fun e=>Cg e (h64.map fun c=>(⟨kind,ae,q,0,⟨[],e,c⟩⟩:aI)) ((IY (fun _ _ _=>GL) (fun _ _=>GM) [] (Sy K hby)).map fun l=>(⟨kind,ae,q,0,⟨l,e,0⟩⟩:aI)))
 refine this.congr fun r o=>?_
 unfold kp Q9 HF Cv Iv kF
 cases kR o with
 |none=>rfl
 |some x=>
  simp only [bg,pr]
  cases dx x.2 with
  |none=>rfl
  |some y=>
   simp only [bg,pr]
   by_cases hk:(kind==2)=true
   ·simp only [hk,jL]
    cases dx y.2<;>rfl
   ·simp only [hk,lD,nV]
    cases hf:ff r y.2 with
    |none=>rfl
    |some e=>
     obtain⟨e,r1,o1⟩:=e
     simp only [bg]
     cases e with
     |true=>
      simp only [jL]
      cases dx o1<;>rfl
     |false=>
      simp only [nV,lD]
      cases c7 r1 o1 with
      |none=>rfl
      |some c=>
       cases c with
       |false=>rfl
       |true=>
        simp only [bg,jL]
        cases iM r1 o1 with
        |none=>rfl
        |some l=>
         simp only [bg]
         cases mN l with
         |none=>rfl
         |some q=>
          simp only [bg]
          cases fZ r1 o1 q.2.1 q.2.2<;>rfl
abbrev QI:aI:=⟨0,0,0,0,⟨[],false,0⟩⟩
def xz(k f t e:Int):Pr bR:=
 if(k==1)=true then cY p8 fun ae=>lv (fun p=>(⟨k,f,t,e,0,ae,p,QI,0⟩:bR)) NP
 else if(k==3)=true then cY p8 fun g=>lv (fun p=>(⟨k,f,t,e,g,0,⟨[]⟩,p,0⟩:bR)) (PH 1)
 else if(k==4)=true then cY p8 fun g=>lv (fun p=>(⟨k,f,t,e,g,0,⟨[]⟩,p,0⟩:bR)) (PH 2)
 else if(k==5)=true then lv (fun c:Bool=>(⟨k,f,t,e,0,0,⟨[]⟩,QI,if c=true then 300 else 140⟩:bR)) vi
 else fun l=>some (⟨k,f,t,e,0,0,⟨[]⟩,QI,0⟩,l)
def PG:Pr bR:=cY p8 fun k=>cY p8 fun f=>cY p8 fun t=>cY p8 fun e=>xz k f t e
def Mo{b:List Int}(K:b.length<=900000000)(hby:pC b):Rd b lM PG:=by
  have hs:=nZ K hby
  have:=hs.bind fun k=>hs.bind fun f=>hs.bind fun t=>hs.bind fun e=>Cg (k==1) (hs.bind fun ae=>(Uk K hby).map fun p=>(⟨k,f,t,e,0,ae,p,QI,0⟩:bR))
    (Cg (k==3) (hs.bind fun g=>(GF K hby 1).map fun p=>(⟨k,f,t,e,g,0,⟨[]⟩,p,0⟩:bR))
    (Cg (k==4) (hs.bind fun g=>(GF K hby 2).map fun p=>(⟨k,f,t,e,g,0,⟨[]⟩,p,0⟩:bR))
    (Cg (k==5) ((Do K hby).map fun c=>(⟨k,f,t,e,0,0,⟨[]⟩,QI,if c=true then 300 else 140⟩:bR))
      (IZ (⟨k,f,t,e,0,0,⟨[]⟩,QI,0⟩:bR)))))
  refine this.congr fun r o=>?_
  unfold lM lS
  cases aO r o with
  |none=>rfl
  |some k=>
  simp only [bg,pr]
  cases aO r k.2 with
  |none=>rfl
  |some f=>
  simp only [bg,pr]
  cases aO r f.2 with
  |none=>rfl
  |some t=>
  simp only [bg,pr]
  cases aO r t.2 with
  |none=>rfl
  |some e=>
  simp only [bg,pr]
  by_cases Y:(k.1==1)=true
  · simp only [Y,jL]
    cases aO r e.2 with
    |none=>rfl
    |some ae=>
      simp only [bg,pr]
  simp only [Y,lD,nV]
  by_cases d:(k.1==3)=true
  · simp only [d,jL]
    cases aO r e.2 with
    |none=>rfl
    |some ae=>
      simp only [bg,pr]
  simp only [d,lD,nV]
  by_cases h4:(k.1==4)=true
  · simp only [h4,jL]
    cases aO r e.2 with
    |none=>rfl
    |some ae=>
      simp only [bg,pr]
  simp only [h4,lD,nV]
  by_cases h5:(k.1==5)=true
  · simp only [h5,jL]
    cases ff r e.2 with
    |none=>rfl
    |some c=>
      simp only [bg]
      cases c.1<;>rfl
  · simp only [h5,lD,nV]
end Go.Proofs.YtdohlidddcgfjaaGreat


/- bT of this claim: H22. -/
set_option linter.all false
namespace Go.Proofs.YtdohlidddcgfjaaGreat
open Go

def rgR(r:List am):Prop:= ∀v∈r,Uc v
def Xi(l:List (List am)):Prop:= ∀r∈l,rgR r
def Ej{r:List am}(h:pR r=true):r.length<=16/\ ∀v∈r,gm v=true:=by
 unfold pR at h
 simp only [lq,hX,kQ]at h
 exact h
def Uf{r:List am}(h:pR r=true)(hr:rgR r):Cm L0 (V2 r) r:=by
 obtain⟨Y,X⟩:=Ej h
 have q:=NT (p:=pv) (enc:=vB) r fun v hv=>V6 (X v hv) (hr v hv)
 have q2:Cm (cY (ui (decide ((r.length:Int)<=16))) fun _=>pl pv ((r.length:Int)).toNat) ([]++r.flatMap vB) r:=Cm.bind (Cm.need (by rw [hX];omega)) (by rw [u0];exact q)
 exact Cm.bind (l:=[IntKind.u8.wrap (r.length:Int)]) (q:=fun n=>cY (ui (decide (n<=16))) fun _=>pl pv n.toNat) (ol ⟨by omega,by omega⟩) q2
def Px{r:List am}(h:pR r=true):Py r=(V2 r,0):=by
 obtain⟨Y,X⟩:=Ej h
 unfold Py
 rw [aR (by omega),bh (kQ.2 X)]
def GR: ∀(l:List (List am)) (i:Nat) (b:List Int),(∀r∈l,pR r=true)->QJ l i b=(b++l.flatMap V2,0,0)
 |[],i,b,_=>by simp [QJ]
 |r::l,i,b,h=>by
  unfold QJ
  rw [Px (h r (nA ..)),bh rfl,GR l (i+1) _ fun x V=>h x (pp _ V),Ai,pD]
def PT{l:List (List am)}(h: ∀r∈l,pR r=true):TB l=(eQ (l.length:Int) 2++l.flatMap V2,0,0):=GR l 0 _ h
def RJ{l:List (List am)}(hl:l.length<=400)(h: ∀r∈l,pR r=true)(hr:Xi l):Cm vh (TB l).1 l:=by
 rw [PT h]
 have q:=NT (p:=L0) (enc:=V2) l fun r V=>Uf (h r V) (hr r V)
 have q2:Cm (cY (ui (decide ((l.length:Int)<=400))) fun _=>pl L0 ((l.length:Int)).toNat) ([]++l.flatMap V2) l:=Cm.bind (Cm.need (by rw [hX];omega)) (by rw [u0];exact q)
 exact Cm.bind (q:=fun n=>cY (ui (decide (n<=400))) fun _=>pl L0 n.toNat) (RO ⟨by omega,by omega⟩) q2
def Um{p:aI}(h:uk p=true)(hr:Xi p.Batch.Rows):Cm (PH p.Kind) (if p.Kind=2 then Qr p else G9 p) p:=by
 unfold uk at h
 rw [lq]at h
 obtain⟨Y,X⟩:=h
 simp only [lq,hX]at Y
 have hw:IntKind.u64.wrap p.Session=p.Session:=by rw [wU];omega
 have s1:Cm Y0 (eQ (IntKind.u64.wrap p.Session) 4) p.Session:=by rw [hw];exact RN (by omega) (by omega)
 by_cases k1:p.Kind=1
 ·rw [bh k1]at X
  simp only [lq,oJ]at X
  obtain⟨hlim,K⟩:=X
  unfold IV at K
  split at K
  ·cases K
  rename_i hq
  simp only [yS,hX,not_or]at hq
  have s2:Cm (pw 8) (eQ p.Seq 8) p.Seq:=zb 8 (by omega) (show p.Seq<(18446744073709551616:Int) by omega)
  rw [aR (by omega)]
  have s3:Cm (if p.Batch.End=true then lv (fun c=>(⟨p.Kind,p.Session,p.Seq,0,⟨[],p.Batch.End,c⟩⟩:aI)) (pw 8)else lv (fun l=>(⟨p.Kind,p.Session,p.Seq,0,⟨l,p.Batch.End,0⟩⟩:aI)) vh) (if p.Batch.End then eQ p.Batch.Count 8 else(TB p.Batch.Rows).1) p:=by
   cases he:p.Batch.End with
   |true=>
    rw [he,bh rfl]at K
    simp only [lq,oJ]at K
    have hc:0<=p.Batch.Count/\p.Batch.Count<18446744073709551616:=by rw [K.2,wU];omega
    have hrows:p.Batch.Rows=[]:=rN (by omega)
    have ep:p=⟨p.Kind,p.Session,p.Seq,0,⟨[],true,p.Batch.Count⟩⟩:=by
     obtain⟨k,ae,q,l,⟨r,e,c⟩⟩:=p;simp only at hlim hrows he;rw [hlim,hrows,he]
    rw [bh rfl,bh rfl]
    have:=(zb 8 hc.1 (show p.Batch.Count<(18446744073709551616:Int) by omega)).map (fun c=>(⟨p.Kind,p.Session,p.Seq,0,⟨[],true,c⟩⟩:aI))
    rw [<-ep]at this
    exact this
   |false=>
    rw [he,aR (by simp)]at K
    simp only [lq,oJ]at K
    obtain⟨hc,hrows⟩:=K
    unfold De at hrows
    simp only [lq,hX,kQ]at hrows
    have ep:p=⟨p.Kind,p.Session,p.Seq,0,⟨p.Batch.Rows,false,0⟩⟩:=by
     obtain⟨k,ae,q,l,⟨r,e,c⟩⟩:=p;simp only at hlim hc he;rw [hlim,hc,he]
    rw [aR (by simp),aR (by simp)]
    have:=(RJ (by omega) hrows.2 hr).map (fun l=>(⟨p.Kind,p.Session,p.Seq,0,⟨l,false,0⟩⟩:aI))
    rw [<-ep]at this
    exact this
  have s4:Cm (if(p.Kind==2)=true then lv (fun l=>(⟨p.Kind,p.Session,p.Seq,l,⟨[],false,0⟩⟩:aI)) (pw 8)else cY vi fun e=>if e=true then lv (fun c=>(⟨p.Kind,p.Session,p.Seq,0,⟨[],e,c⟩⟩:aI)) (pw 8)else lv (fun l=>(⟨p.Kind,p.Session,p.Seq,0,⟨l,e,0⟩⟩:aI)) vh) ([fB p.Batch.End]++(if p.Batch.End then eQ p.Batch.Count 8 else(TB p.Batch.Rows).1)) p:=by
   rw [aR (by simp [k1])]
   exact Cm.bind (AM p.Batch.End) s3
  have:=Cm.bind (q:=fun ae=>cY (pw 8) fun q=>if(p.Kind==2)=true then lv (fun l=>(⟨p.Kind,ae,q,l,⟨[],false,0⟩⟩:aI)) (pw 8)else cY vi fun e=>if e=true then lv (fun c=>(⟨p.Kind,ae,q,0,⟨[],e,c⟩⟩:aI)) (pw 8)else lv (fun l=>(⟨p.Kind,ae,q,0,⟨l,e,0⟩⟩:aI)) vh) s1 (Cm.bind s2 s4)
  exact this.eq (by simp [G9])
 ·rw [aR k1]at X
  by_cases k2:p.Kind=2
  ·rw [bh k2]at X
   simp only [lq,oJ,hX,CW]at X
   obtain⟨⟨⟨⟨⟨⟨b1,b2⟩,b3⟩,b4⟩,b5⟩,b6⟩,b7⟩:=X
   have hl0:0<=p.Limit:=by rw [wU]at b6;omega
   have hrows:p.Batch.Rows=[]:=rN (by omega)
   have ep:p=⟨p.Kind,p.Session,p.Seq,p.Limit,⟨[],false,0⟩⟩:=by
    obtain⟨k,ae,q,l,⟨r,e,c⟩⟩:=p;simp only at hrows b2 b3;rw [hrows,b2,b3]
   rw [bh k2]
   have s2:Cm (pw 8) (eQ p.Seq 8) p.Seq:=zb 8 (by omega) (show p.Seq<(18446744073709551616:Int) by omega)
   have s3:=(zb 8 hl0 (show p.Limit<(18446744073709551616:Int) by omega)).map (fun l=>(⟨p.Kind,p.Session,p.Seq,l,⟨[],false,0⟩⟩:aI))
   rw [<-ep]at s3
   have s4:Cm (if(p.Kind==2)=true then lv (fun l=>(⟨p.Kind,p.Session,p.Seq,l,⟨[],false,0⟩⟩:aI)) (pw 8)else cY vi fun e=>if e=true then lv (fun c=>(⟨p.Kind,p.Session,p.Seq,0,⟨[],e,c⟩⟩:aI)) (pw 8)else lv (fun l=>(⟨p.Kind,p.Session,p.Seq,0,⟨l,e,0⟩⟩:aI)) vh) (eQ p.Limit 8) p:=by
    rw [bh (by simp [k2])]
    exact s3
   have:=Cm.bind (q:=fun ae=>cY (pw 8) fun q=>if(p.Kind==2)=true then lv (fun l=>(⟨p.Kind,ae,q,l,⟨[],false,0⟩⟩:aI)) (pw 8)else cY vi fun e=>if e=true then lv (fun c=>(⟨p.Kind,ae,q,0,⟨[],e,c⟩⟩:aI)) (pw 8)else lv (fun l=>(⟨p.Kind,ae,q,0,⟨l,e,0⟩⟩:aI)) vh) s1 (Cm.bind s2 s4)
   exact this.eq (by simp [Qr])
  ·rw [aR k2]at X;cases X
structure V5(m:bR):Prop where
 p:rgP m.Plan
 r:Xi m.Packet.Batch.Rows
def Uj{m:bR}(hs: ∀f∈m.Plan.Frags,mq f.Nodes)(h:pQ m=true)(hr:V5 m):Cm PG (EE m) m:=by
 unfold pQ at h
 rw [lq]at h
 obtain⟨h0,h⟩:=h
 unfold XE Ke at h0
 simp only [lq,hX]at h0
 have wrapup: ∀l,fJ m.Kind->Cm (xz m.Kind m.From m.To m.Epoch) l m->Cm PG (XF m++l) m:=fun l hk K=>by
  have:=Cm.bind (l:=[IntKind.u8.wrap m.Kind]) (q:=fun k=>cY p8 fun f=>cY p8 fun t=>cY p8 fun e=>xz k f t e) (ol hk) (Cm.bind (l:=[IntKind.u8.wrap m.From]) (ol (x:=m.From) ⟨by omega,by omega⟩) (Cm.bind (l:=[IntKind.u8.wrap m.To]) (ol (x:=m.To) ⟨by omega,by omega⟩) (Cm.bind (l:=[IntKind.u8.wrap m.Epoch]) (ol (x:=m.Epoch) ⟨by omega,by omega⟩) K)))
  exact this.eq (by simp [XF,tN])
 unfold EE
 unfold fJ at wrapup
 by_cases k1:m.Kind=1
 ·rw [bh k1]at h ⊢
  simp only [lq,hX]at h
  obtain⟨⟨⟨Y,X⟩,hl⟩,d,h4,h5⟩:=h
  have em:m=⟨m.Kind,m.From,m.To,m.Epoch,0,m.Sites,m.Plan,QI,0⟩:=by
   obtain⟨a,b,c,h3,e,f,g,i,j⟩:=m;simp only at d h4 h5;rw [d,h4,h5]
  refine wrapup _ (by omega) ?_
  unfold xz
  rw [bh (by simp [k1])]
  have:=Cm.bind (l:=[IntKind.u8.wrap m.Sites]) (q:=fun ae=>lv (fun p=>(⟨m.Kind,m.From,m.To,m.Epoch,0,ae,p,QI,0⟩:bR)) NP) (ol (x:=m.Sites) ⟨by omega,by omega⟩) ((RH hs hl hr.p).map fun p=>(⟨m.Kind,m.From,m.To,m.Epoch,0,m.Sites,p,QI,0⟩:bR))
  rw [<-em]at this
  exact this
 rw [aR k1]at h ⊢
 by_cases k2:m.Kind=2\/m.Kind=6\/m.Kind=7
 ·rw [bh k2]at h
  simp only [hX]at h
  obtain⟨Y,X,d,h4,h5⟩:=h
  have em:m=⟨m.Kind,m.From,m.To,m.Epoch,0,0,⟨[]⟩,QI,0⟩:=by
   obtain⟨a,b,c,h3,e,f,g,i,j⟩:=m;simp only at Y X d h4 h5;rw [Y,X,d,h4,h5]
  rw [aR (by omega),aR (by omega),aR (by omega)]
  refine wrapup _ (by omega) ?_
  unfold xz
  rw [aR (by simp [k1]),aR (by simp;omega),aR (by simp;omega),aR (by simp;omega),<-em]
  exact OZ m
 rw [aR k2]at h
 by_cases k3:m.Kind=3\/m.Kind=4
 ·rw [bh k3]at h
  simp only [lq,hX,oJ]at h
  obtain⟨⟨⟨⟨Y,X⟩,hk⟩,hp⟩,d,h4,h5⟩:=h
  have em:m=⟨m.Kind,m.From,m.To,m.Epoch,m.Frag,0,⟨[]⟩,m.Packet,0⟩:=by
   obtain⟨a,b,c,h3,e,f,g,i,j⟩:=m;simp only at d h4 h5;rw [d,h4,h5]
  have hq:=Um hp hr.r
  by_cases k3' :m.Kind=3
  ·rw [bh k3']at hk ⊢
   refine wrapup _ (by omega) ?_
   rw [hk,aR (by decide)]at hq
   unfold xz
   rw [aR (by simp [k1]),bh (by simp [k3'])]
   have:=Cm.bind (l:=[IntKind.u8.wrap m.Frag]) (q:=fun g=>lv (fun p=>(⟨m.Kind,m.From,m.To,m.Epoch,g,0,⟨[]⟩,p,0⟩:bR)) (PH 1)) (ol (x:=m.Frag) ⟨by omega,by omega⟩) (hq.map fun p=>(⟨m.Kind,m.From,m.To,m.Epoch,m.Frag,0,⟨[]⟩,p,0⟩:bR))
   rw [<-em]at this
   exact this
  ·rw [aR k3']at hk ⊢
   have k4:m.Kind=4:=by omega
   rw [bh k4]
   refine wrapup _ (by omega) ?_
   rw [hk,bh rfl]at hq
   unfold xz
   rw [aR (by simp [k1]),aR (by simp [k3']),bh (by simp [k4])]
   have:=Cm.bind (l:=[IntKind.u8.wrap m.Frag]) (q:=fun g=>lv (fun p=>(⟨m.Kind,m.From,m.To,m.Epoch,g,0,⟨[]⟩,p,0⟩:bR)) (PH 2)) (ol (x:=m.Frag) ⟨by omega,by omega⟩) (hq.map fun p=>(⟨m.Kind,m.From,m.To,m.Epoch,m.Frag,0,⟨[]⟩,p,0⟩:bR))
   rw [<-em]at this
   exact this
 rw [aR k3]at h
 rw [aR (by omega),aR (by omega)]
 by_cases k5:m.Kind=5
 ·rw [bh k5]at h ⊢
  simp only [lq,yS,hX,oJ]at h
  obtain⟨he,Y,X,d,h4⟩:=h
  have ee:(if(m.Err==300)=true then(300:Int)else 140)=m.Err:=by
   rcases he with he|he<;>rw [he]<;>rfl
  have em:m=⟨m.Kind,m.From,m.To,m.Epoch,0,0,⟨[]⟩,QI,if(m.Err==300)=true then 300 else 140⟩:=by
   rw [ee]
   obtain⟨a,b,c,h3,e,f,g,i,j⟩:=m;simp only at Y X d h4;rw [Y,X,d,h4]
  refine wrapup _ (by omega) ?_
  unfold xz
  rw [aR (by simp [k1]),aR (by simp;omega),aR (by simp;omega),bh (by simp [k5])]
  have:=(AM (m.Err==300)).map fun c:Bool=>(⟨m.Kind,m.From,m.To,m.Epoch,0,0,⟨[]⟩,QI,if c=true then 300 else 140⟩:bR)
  rw [<-em]at this
  exact this
 ·rw [aR k5]at h;cases h
end Go.Proofs.YtdohlidddcgfjaaGreat


/- bT of this claim: H23. -/
set_option linter.all false
namespace Go.Proofs.YtdohlidddcgfjaaGreat
open Go

def Qs.imp{α:Type}{p:Pr α}{enc enc' :α->List Int}{good good' :α->Prop}(h:Qs p enc good)(e: ∀x,good x->enc' x=enc x/\good' x):Qs p enc' good' :=fun l x r hl V=>by
 obtain⟨a,b,c⟩:=h l x r hl V
 exact⟨by rw [(e x b).1];exact a,(e x b).2,c⟩
def gRs(l:List (List am)):Prop:=l.length<=400/\ ∀r∈l,pR r=true
structure gM(m:bR):Prop where
 p:gP m.Plan
 pl:(V7 m.Plan).length<=5000
 r:gRs m.Packet.Batch.Rows
def ye{a b:List Int}(ha:pC a)(K:pC b):ql a b=some (decide (a=b)):=by
 unfold ql
 congr 1
 rw [w9,oJ,hX]
 refine⟨fun h=>?_,fun h=>by rw [h]⟩
 have:=congrArg ka h
 rwa [(xj ha).1,(xj K).1]at this
def sl(b:List Int):List Int:=(nY b).getD []
def Hg: ∀k n,pC (Az n k)
 |0,_=>fun x V=>by cases V
 |k+1,n=>fun x V=>by
  rcases jf.1 V with rfl|V
  ·exact⟨n%256,by omega,rfl⟩
  ·exact Hg k _ x V
def sv(b:List Int):Nat:=4294967295-b.foldl (fun r x=>Ha r x.toNat) 4294967295
def Gs{b:List Int}(K:pC b)(hl:b.length<=50000000000):nY b=some (sl b)/\pC (sl b)/\sl b=b++Az (sv b) 4:=by
 have Y:nY b=some (b++Az (sv b) 4):=by
  obtain⟨ae,_,X,d⟩:=Gp b 4294967295 (by omega) K
  have h4:yp b=some ((sv b:Nat):Int):=by
   unfold yp sv
   rw [Rk,bg,<-X]
   exact d
  unfold nY oH
  rw [h4,bg,cK (by simp;omega),bg,bg,m7,NF 4 _ b (by omega)]
 have e:sl b=b++Az (sv b) 4:=by unfold sl;rw [Y];rfl
 exact⟨by rw [Y,e],by rw [e];exact ic K (Hg 4 _),e⟩
def HP{b:List Int}(K:pC b)(hl:b.length<=50000000000):(sl b).length=b.length+4/\(sl b).take b.length=b:=by
 obtain⟨_,_,h⟩:=Gs K hl
 rw [h]
 exact⟨by rw [kw,Rr],List.take_left' rfl⟩
def VS{b:List Int}(K:pC b)(hl:b.length<=900000000):rb b=some (if b.length<4 then([],7)else if sl (b.take (b.length-4))=b then(b.take (b.length-4),0)else([],130)):=by
 unfold rb
 rw [eP (by omega) (by omega)]
 by_cases h:b.length<4
 ·rw [bh (by rw [hX];omega),bh h]
 ·rw [aR (by rw [hX];omega),aR h,jZ 0 (b.length-4) (show(0:Int)=((0:Nat):Int)from rfl) (by omega) (by omega) (by omega),bg,BB]
  have hbt:=KT K (b.length-4)
  obtain⟨Y,X,_⟩:=Gs hbt (by simp;omega)
  have hc:oH (b.take (b.length-4))=some (b.take (b.length-4)):=by
   unfold oH
   rw [cK (by simp;omega)];rfl
  rw [hc,bg,Y,bg,ye X K,bg]
  by_cases he:sl (b.take (b.length-4))=b
  ·rw [bh he,aR (by simp [he])]
  ·rw [aR he,bh (by simp [he])]
def zM:bR:=⟨0,0,0,0,0,0,⟨[]⟩,⟨0,0,0,0,⟨[],false,0⟩⟩,0⟩
def QB{b c:List Int}(K:pC b)(hl:b.length<=900000000)(ho:rb c=some (b,0)):qM c=match PG b with
  |some (m,[])=>(lK m).bind fun q=>some (if q&&decide (c.length<=20000)then(m,0)else(zM,331))
  |_=>some (zM,331):=by
 unfold qM
 rw [ho,bg,aR (by simp)]
 have h0:Ok b 0 (⟨rj,b,false⟩:aK) (rd b 0 0):=⟨rfl,rfl,rfl,pq _⟩
 obtain⟨x,r1,o1,Y,X⟩:=(Mo hl K).ok 0 _ _ h0
 rw [FW hl,bg,Y,bg]
 rw [BB]at X
 simp only
 unfold Ln at X
 cases hp:PG b with
 |none=>
  rw [hp]at X
  rw [S6 X]
  rfl
 |some v=>
  obtain⟨v,rest⟩:=v
  rw [hp]at X
  obtain⟨rfl,k,d,h4⟩:=X
  rw [S5 hl d,h4]
  cases rest with
  |nil=>
   simp only [bg]
   cases lK x with
   |none=>rfl
   |some q=>
    cases q with
    |false=>rfl
    |true=>
     show(if(false||decide ((20000:Int)<(c.length:Int)))=true then _ else _)=_
     by_cases hc:c.length<=20000
     ·rw [aR (by simp;omega)]
      show _=some (if(true&&decide (c.length<=20000))=true then _ else _)
      rw [bh (by simpa using hc)]
     ·rw [bh (by simp;omega)]
      show _=some (if(true&&decide (c.length<=20000))=true then _ else _)
      rw [aR (by simpa using hc)]
      rfl
  |cons c l=>rfl
def VR{b:List Int}(K:pC b)(hl:b.length<=800000000):rb (sl b)=some (b,0):=by
 obtain⟨Y,X⟩:=HP K (by omega)
 rw [VS (Gs K (by omega)).2.1 (by omega),Y,aR (by omega),Nat.add_sub_cancel,X,bh rfl]
end Go.Proofs.YtdohlidddcgfjaaGreat


/- bT of this claim: H24. -/
set_option linter.all false
namespace Go.Proofs.YtdohlidddcgfjaaGreat
open Go

def Ex{α:Type}(p:Pr α):Prop:= ∀l x r ae,p l=some (x,r)->p (l++ae)=some (x,r++ae)
def Ex.bind{α β:Type}{p:Pr α}{q:α->Pr β}(Y:Ex p)(X: ∀x,Ex (q x)):Ex (cY p q):=by
 intro l y r ae h
 unfold cY at h ⊢
 cases hp:p l with
 |none=>rw [hp]at h;cases h
 |some u=>
  rw [hp,bg]at h
  rw [Y l u.1 u.2 ae hp,bg]
  exact X u.1 u.2 y r ae h
def Ex.map{α β:Type}{p:Pr α}(f:α->β)(Y:Ex p):Ex (lv f p):=by
 intro l y r ae h
 unfold lv at h ⊢
 cases hp:p l with
 |none=>rw [hp]at h;cases h
 |some u=>
  rw [hp]at h
  cases h
  rw [Y l u.1 u.2 ae hp];rfl
def Xe{a b:List Int}(ha:pC a)(K:pC b)(hla:a.length<=50000000000)(hlb:b.length<=50000000000)(h:sl a=sl b):a=b:=by
 obtain⟨Y,X⟩:=HP ha hla
 obtain⟨d,h4⟩:=HP K hlb
 have e:a.length=b.length:=by rw [h]at Y;omega
 rw [<-X,<-h4,h,e]
end Go.Proofs.YtdohlidddcgfjaaGreat


/- bT of this claim: H25. -/
set_option linter.all false
namespace Go.Proofs.YtdohlidddcgfjaaGreat
open Go

def Le{m:bR}(hs:VL m):(pQ m=false/\m2 m=some ([],330))\/(pQ m=true/\m2 m=some (if 20000<(sl (EE m)).length then([],330)else(sl (EE m),0))):=by
 unfold m2
 rw [zg m hs,bg]
 cases hr:pQ m with
 |false=>exact .inl ⟨rfl,rfl⟩
 |true=>
  refine .inr ⟨rfl,?_⟩
  rw [aR (by simp),QZ m hs hr,bg]
  show((nY (EE m)).bind _)=_
  rw [(Gs (yL m) (by have:=yD m hs;omega)).1,bg]
  by_cases hl:20000<(sl (EE m)).length
  ·rw [bh (by rw [hX];omega),bh hl]
  ·rw [aR (by rw [hX];omega),aR hl]
def BS{m:bR}(hs:VL m)(hr:pQ m=true)(H:V5 m):Cm PG (EE m) m:=Uj (fun f hf=>D2 (hs.p.f f hf)) hr H
def I9{m:bR}(hs:VL m)(hr:pQ m=true)(H:V5 m)(hl:(sl (EE m)).length<=20000):qM (sl (EE m))=some (m,0):=by
 have K:=yL m
 have hl2:=(HP K (by have:=yD m hs;omega)).1
 rw [QB K (by omega) (VR K (by omega))]
 have:=BS hs hr H []
 rw [pM]at this
 rw [this]
 show(lK m).bind _=_
 rw [zg m hs,hr,bg,show(true&&decide ((sl (EE m)).length<=20000))=true from by simpa using hl,bh rfl]
def LU{m o:bR}(hs:VL m)(hr:pQ m=true)(H:V5 m)(hs' :VL o)(hr' :pQ o=true)(hg' :V5 o):(sl (EE m)=sl (EE o))↔m=o:=by
 refine⟨fun h=>?_,fun h=>by rw [h]⟩
 have e:=Xe (yL m) (yL o) (by have:=yD m hs;omega) (by have:=yD o hs';omega) h
 have Y:=BS hs hr H []
 have X:=BS hs' hr' hg' []
 rw [e,X]at Y
 exact(wF (qp Y)).1.symm
def EN(m o:bR)(H:V5 m)(hgo:V5 o):pH m o=some true:=by
 unfold pH
 rw [TT,bg,aR (by simp)]
 rcases RP m with hm|⟨hm,hs⟩
 ·rw [hm,bg,aR (by simp),bg,bh rfl]
 rcases RP o with ho|⟨ho,hso⟩
 ·rw [hm,ho,bg,bh (by simp),bg,bg,bh rfl]
 rw [hm,ho,bg,bh (by simp),bg,bg,aR (by simp)]
 rcases Le hs with⟨hr,he⟩|⟨hr,he⟩
 ·rw [he];rfl
 rw [he,bg]
 by_cases hl:20000<(sl (EE m)).length
 ·rw [bh hl];rfl
 rw [aR hl,aR (by simp),I9 hs hr H (by omega),bg,bh (by simp),uR,bg,bg,aR (by simp)]
 rcases Le hso with⟨hr',he'⟩|⟨hr',he'⟩
 ·rw [he'];rfl
 rw [he',bg]
 by_cases hl' :20000<(sl (EE o)).length
 ·rw [bh hl'];rfl
 rw [aR hl',bh (by simp),ye (Gs (yL m) (by have:=yD m hs;omega)).2.1 (Gs (yL o) (by have:=yD o hso;omega)).2.1,bg,uR,bg]
 have e:decide (sl (EE m)=sl (EE o))=decide (m=o):=by rw [Af];exact LU hs hr H hso hr' hgo
 rw [e]
 simp
end Go.Proofs.YtdohlidddcgfjaaGreat


/- bT of this claim: H26. -/
set_option linter.all false
namespace Go.Proofs.YtdohlidddcgfjaaGreat
open Go

def RU{v:am}(h:AU v):Uc v:=by
 obtain⟨_,⟨Y,X⟩,⟨d,h4⟩,_⟩:=h
 exact⟨⟨Y,X⟩,⟨d,h4⟩⟩
def Mj{e:aP}(h:AV e):YY e:=fun n hn=>RU ((show Oa EC e.Nodes from h).2 n hn).2.2.2.2
def Xs{n:aa}(h:EB n):YZ n:=by
 obtain⟨_,_,_,_,_,_,hc,_,ha,hi,_,_⟩:=h
 exact⟨Mj hc,fun e he=>Mj (hi.2 e he),fun g H=>Mj (ha.2 g H).2⟩
def Xr{p:cT}(h:Ij p):rgP p:=fun f hf n hn=>Xs (((show Oa Il p.Frags from h).2 f hf).1.2 n hn)
def RV{m:bR}(h:Ik m):V5 m:=by
 obtain⟨_,_,_,_,_,_,hp,⟨_,_,_,_,K⟩,_⟩:=h
 exact⟨Xr hp,fun r hr v hv=>RU ((K.1.2 r hr).2 v hv)⟩
def C8(m:bR)(h:Ik m)(o:bR)(ho:Ik o):pH m o=some true:=EN m o (RV h) (RV ho)
end Go.Proofs.YtdohlidddcgfjaaGreat

