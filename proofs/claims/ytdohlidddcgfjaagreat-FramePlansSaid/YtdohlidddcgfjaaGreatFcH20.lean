import Derived.Test.YtdohlidddcgfjaaGreatFcQ1
import Derived.Test.YtdohlidddcgfjaaGreatFcQ2
import Derived.Test.YtdohlidddcgfjaaGreatFcY15
import Derived.KernelRfl
import Derived.Test.YtdohlidddcgfjaaGreatFcA0
/- cE of this claim: G1. -/
set_option linter.all false
namespace Go.Proofs.YtdohlidddcgfjaaGreat
open Go

def il{n:Nat}(h:n<=900000):n<dk:=xN (B4 _) (pj (by omega))
def ib(p:Int):Nat->List Int
 |0=>[]
 |k+1=>IntKind.u8.wrap (p.fdiv (2^(8*k)))::ib p k
def iq(p:Int): ∀k,(ib p k).length=k
 |0=>rfl
 |k+1=>by simp [ib,iq p k]
def sQ(p:Int): ∀k,vV (ib p k)
 |0=>fun x V=>by cases V
 |k+1=>fun x V=>by
  rcases kj.1 V with rfl|V
  ·exact DD _ _ (zW.2 rfl)
  ·exact sQ p k x V
def xj(n:Nat): ∀k,ib (n:Int) k=uM n k
 |0=>rfl
 |k+1=>by
  unfold ib uM
  rw [xj n k,Int.fdiv_eq_ediv_of_nonneg _ (Int.pow_nonneg (by omega)),show(2:Int)^(8*k)=((256^k:Nat):Int) by rw [show(256:Nat)=2^8 from rfl,<-Nat.pow_mul];norm_cast,show((n:Int)/((256^k:Nat):Int))=((n/256^k:Nat):Int)from rfl]
  congr 1
def BR: ∀(k:Nat) {m n:Nat},m%256^k=n%256^k->uM m k=uM n k
 |0,_,_,_=>rfl
 |k+1,m,n,h=>by
  have X:m/256^k%256=n/256^k%256:=by
   rw [<-Nat.mod_mul_right_div_self,<-Nat.mod_mul_right_div_self,<-Nat.pow_succ,h]
  have K:m%256^k=n%256^k:=by
   have:=congrArg (· %256^k) h
   simpa [Nat.mod_mod_of_dvd _ (Nat.pow_dvd_pow 256 (Nat.le_succ k))] using this
  unfold uM
  rw [X,BR k K]
def HH(p:Int): ∃n:Nat,n<18446744073709551616/\IntKind.u64.wrap p=(n:Int):=⟨(IntKind.u64.wrap p).toNat,by rw [xL];omega,by rw [xL];omega⟩
def Qm(k w:Nat)(hk:k+1<=w)(hw:w<=8):IntKind.i64.wrap (IntKind.i64.wrap (8*IntKind.i64.wrap ((w:Int)-((w-(k+1):Nat):Int)))-8)=((8*k:Nat):Int):=by
 rw [show(w:Int)-((w-(k+1):Nat):Int)=((k+1:Nat):Int) by omega,rF,rF,rF]
 omega
def MX(p:Int)(k:Nat)(hk:k<=8):p.fdiv (2^(min (Int.toNat ((8*k:Nat):Int)) IntKind.u64.bits))=p.fdiv (2^(8*k)):=by
 rw [xM,show IntKind.u64.bits=64 from rfl,xK (by omega)]
def wZ(p:Int)(w:Nat)(hw:w<=8): ∀(k f:Nat) (b:List Int),k<=w->k<f->b.length+k<=60000000000->eZ p (w:Int) f b ((w-k:Nat):Int)=some (b++ib p k)
 |0,f+1,b,_,_,_=>by
  unfold eZ
  rw [bk (by simp),ib,qC]
 |k+1,f+1,b,hk,hf,H=>by
  unfold eZ
  rw [bJ (by rw [mp];omega),Qm k w hk hw,show VI ((8*k:Nat):Int)=some ()from bJ (by omega),bG,MX p k (by omega),cd (by simp;omega),bG]
  rw [show IntKind.i64.wrap (((w-(k+1):Nat):Int)+1)=((w-k:Nat):Int) by rw [rF];omega]
  rw [wZ p w hw k f _ (by omega) (by omega) (by simp;omega),pe];rfl
def JP(p w:Int): ∀(f:Nat) (b:List Int) (x:Int),lg p w f b x=eZ (IntKind.u64.wrap p) w f b x
 |0,_,_=>rfl
 |f+1,b,x=>by
  unfold lg eZ
  simp only [JP p w f]
def JO(p w:Int): ∀(f:Nat) (b:List Int) (x:Int),ld p w f b x=eZ (IntKind.u64.wrap p) w f b x
 |0,_,_=>rfl
 |f+1,b,x=>by
  unfold ld eZ
  simp only [JO p w f]
def B6{n:Nat}(h:n<=68719476736):xT (0:Int) (n:Int) (0:Int)=some []:=by
 unfold xT
 rw [bJ (by omega)];rfl
def My(b:List Int)(w:Nat)(h:b.length+w<=60000000000):IntKind.i64.wrap ((b.length:Int)+(w:Int))=((b.length+w:Nat):Int):=by
 rw [rF];omega
def uC(b:List Int)(p:Int)(h:b.length<=50000000000):ly b p=some (b++ib p 8):=by
 unfold ly sH
 have:=wZ p 8 (by omega) 8 dk b (by omega) (il (by omega)) (by omega)
 rw [show((8:Int))=((8:Nat):Int)from rfl,My b 8 (by omega),B6 (by omega),bG,cd (by simp;omega),bG,oY]
 rw [show((0:Int))=((8-8:Nat):Int)from rfl,this]
 rfl
def EI(b:List Int)(p:Int)(h:b.length<=50000000000):pQ b p=some (b++ib (IntKind.u64.wrap p) 4):=by
 unfold pQ sI
 have:=wZ (IntKind.u64.wrap p) 4 (by omega) 4 dk b (by omega) (il (by omega)) (by omega)
 rw [show((4:Int))=((4:Nat):Int)from rfl,My b 4 (by omega),B6 (by omega),bG,cd (by simp;omega),bG,oY]
 rw [show((0:Int))=((4-4:Nat):Int)from rfl,JO,this]
 rfl
def EJ(b:List Int)(p:Int)(h:b.length<=50000000000):rm b p=some (b++ib (IntKind.u64.wrap p) 2):=by
 unfold rm sJ
 have:=wZ (IntKind.u64.wrap p) 2 (by omega) 2 dk b (by omega) (il (by omega)) (by omega)
 rw [show((2:Int))=((2:Nat):Int)from rfl,My b 2 (by omega),B6 (by omega),bG,cd (by simp;omega),bG,oY]
 rw [show((0:Int))=((2-2:Nat):Int)from rfl,JP,this]
 rfl
def vb(n w:Nat)(hn:n<18446744073709551616)(hw:w<=8): ∀(k j f:Nat),k+j=w->k<f->mz (w:Int) f (uM n j) ((n/256^j:Nat):Int) (j:Int)=some (uM n w)
 |0,j,f+1,h,_=>by
  unfold mz
  rw [bk (by simp;omega),show j=w by omega]
 |k+1,j,f+1,h,hf=>by
  unfold mz
  rw [bJ (by rw [mp];omega)]
  rw [show(((n/256^j:Nat):Int).tmod 256)=((n/256^j%256:Nat):Int)from rfl,show IntKind.u8.wrap ((n/256^j%256:Nat):Int)=((n/256^j%256:Nat):Int) by rw [zD];omega,
   cd (by rw [Fk];simp;omega),bG]
  rw [show(((n/256^j:Nat):Int).tdiv 256)=((n/256^j/256:Nat):Int)from rfl]
  have X:n/256^j/256<=n:=xR (Nat.div_le_self _ _) (Nat.div_le_self _ _)
  rw [show IntKind.u64.wrap ((n/256^j/256:Nat):Int)=((n/256^j/256:Nat):Int) by
   generalize n/256^j/256=m at X
   rw [xL];omega]
  rw [Nat.div_div_eq_div_mul,<-Nat.pow_succ,show IntKind.i64.wrap ((j:Int)+1)=((j+1:Nat):Int) by rw [rF];omega]
  exact vb n w hn hw k (j+1) f (by omega) (by omega)
def xq(n w:Nat)(hn:n<18446744073709551616)(hw:w<=8):n6 (n:Int) (w:Int)=some (ib (n:Int) w):=by
 have:=vb n w hn hw w 0 dk (by omega) (il (by omega))
 rw [xj]
 simpa [uM,n6] using this
def vg(p:Int): ∀(k f:Nat) (b:List Int),k<=8->k<f->b.length+k<=60000000000->mB p f b ((k:Int)-1)=some (b++ib p k)
 |0,f+1,b,_,_,_=>by
  unfold mB
  rw [bk (by simp),ib,qC]
 |k+1,f+1,b,hk,hf,H=>by
  unfold mB
  rw [show((k+1:Nat):Int)-1=(k:Int) by omega,bJ (by rw [mp];omega),show IntKind.i64.wrap (8*(k:Int))=((8*k:Nat):Int) by rw [rF];omega,show VI ((8*k:Nat):Int)=some ()from bJ (by omega),bG,MX p k (by omega),cd (by simp;omega),bG]
  rw [show IntKind.i64.wrap ((k:Int)-1)=(k:Int)-1 by rw [rF];omega]
  rw [vg p k f _ (by omega) (by omega) (by simp;omega),pe];rfl
def tv(p:Int):n8 p=some (ib p 8):=by
 have:=vg p 8 dk [] (by omega) (il (by omega)) (by simp)
 simpa [n8] using this
def vB(v:aC):List Int:=IntKind.u8.wrap v.Kind::(if v.Kind=1 then [IntKind.u8.wrap v.N]else if v.Kind=2 then ib (IntKind.u64.wrap v.N) 8 else if v.Kind=3 then IntKind.u8.wrap (v.S.length:Int)::mj v.S else if v.Kind=4 then ib (IntKind.u64.wrap v.N) 8++ib v.U 8 else [])
def vy(ac:N1):(mj ac).length=ac.length:=by simp [mj]
def Ld(v:aC):(vB v).length<=17+v.S.length:=by
 unfold vB
 have:=vy v.S
 split
 ·simp;omega
 ·split
  ·simp [iq];omega
  ·split
   ·simp [this];omega
   ·split
    ·simp [iq]
    ·simp;omega
def lh{n:Int}{l:List Int}(h:vV l):vV (IntKind.u8.wrap n::l):=p7 (DD n) h
def xk:vV []:=fun x V=>by cases V
def Yv(v:aC):vV (vB v):=by
 unfold vB
 refine lh ?_
 split
 ·exact DD _
 ·split
  ·exact sQ _ _
  ·split
   ·exact lh (PA _)
   ·split
    ·exact p7 (sQ _ _) (sQ _ _)
    ·exact xk
def Ev(v:aC)(h:v.S.length<=100000):vh v=some (vB v):=by
 have hl:=vy v.S
 unfold vh vB
 by_cases X:v.Kind=1
 ·rw [bJ (by simp [X]),bJ X,cd (by simp)];rfl
 by_cases K:v.Kind=2
 ·rw [bk (by simp [X]),bJ (by simp [K]),bk X,bJ K,tv,bG,cd (by simp [iq])];rfl
 by_cases h3:v.Kind=3
 ·rw [bk (by simp [X]),bk (by simp [K]),bJ (by simp [h3]),bk X,bk K,bJ h3,cd (by simp),bG,cd (by simp [hl];omega)];rfl
 by_cases h4:v.Kind=4
 ·rw [bk (by simp [X]),bk (by simp [K]),bk (by simp [h3]),bJ (by simp [h4]),bk X,bk K,bk h3,bJ h4,tv,bG,cd (by simp [iq]),bG,tv,bG,cd (by simp [iq])];rfl
 ·rw [bk (by simp [X]),bk (by simp [K]),bk (by simp [h3]),bk (by simp [h4]),bk X,bk K,bk h3,bk h4]
def Fi(v:aC)(h:v.S.length<=100000):tk v=some (if kp v then(vB v,0)else([],120)):=by
 have hl:=vy v.S
 unfold tk vB
 rw [uq,bG]
 by_cases hr:kp v=true
 ·rw [bJ hr,bk (by simp),bJ hr]
  by_cases X:v.Kind=1
  ·rw [bJ (by simp [X]),bJ X,cd (by simp)];rfl
  by_cases K:v.Kind=2
  ·rw [bk (by simp [X]),bJ (by simp [K]),bk X,bJ K,uC _ _ (by simp)];rfl
  by_cases h3:v.Kind=3
  ·rw [bk (by simp [X]),bk (by simp [K]),bJ (by simp [h3]),bk X,bk K,bJ h3,cd (by simp),bG,cd (by simp [hl];omega)];rfl
  by_cases h4:v.Kind=4
  ·rw [bk (by simp [X]),bk (by simp [K]),bk (by simp [h3]),bJ (by simp [h4]),bk X,bk K,bk h3,bJ h4,uC _ _ (by simp),bG,uC _ _ (by simp [iq]),bG,pe];rfl
  ·rw [bk (by simp [X]),bk (by simp [K]),bk (by simp [h3]),bk (by simp [h4]),bk X,bk K,bk h3,bk h4]
 ·rw [bk hr,bJ (by simp),bk hr]
end Go.Proofs.YtdohlidddcgfjaaGreat


/- cE of this claim: G2. -/
set_option linter.all false
namespace Go.Proofs.YtdohlidddcgfjaaGreat
open Go

def yU(l:List Int):List Int:=l.map IntKind.u8.wrap
def fB(b:Bool):Int:=if b then 1 else 0
def Nq(l:List Int):List Int:=IntKind.u8.wrap (l.length:Int)::yU l
def nB(n:av):List Int:=IntKind.u8.wrap n.Tag::(if n.Tag=2 then [IntKind.u8.wrap n.Col]else if n.Tag=1 then vB n.Value else [])
def eB(e:aW):List Int:=ib (e.Nodes.length:Int) 2++e.Nodes.flatMap nB
def SO(a:fU):List Int:=IntKind.u8.wrap a.Tag::eB a.Arg
def WG(o:kF):List Int:=[IntKind.u8.wrap o.Col,fB o.Desc]
def F5(n:tV):List Int:=ib (IntKind.u64.wrap (IntKind.i64.wrap (n.Limit+1))) 4
def AD(n:tV):List Int:=
 if n.Op=1\/n.Op=9 then IntKind.u8.wrap n.Table::Nq n.Kinds
 else if n.Op=2 then fB n.Left::eB n.Cond
 else if n.Op=3 then eB n.Cond
 else if n.Op=4\/n.Op=10\/n.Op=11 then Nq n.Keys++IntKind.u8.wrap (n.Aggs.length:Int)::n.Aggs.flatMap SO
 else if n.Op=5 then IntKind.u8.wrap (n.Items.length:Int)::n.Items.flatMap eB
 else if n.Op=8 then IntKind.u8.wrap (n.Order.length:Int)::(n.Order.flatMap WG++F5 n)
 else []
def tQ(n:tV):List Int:=IntKind.u8.wrap n.Op::AD n
def Po(f:dv):List Int:=[IntKind.u8.wrap f.At,IntKind.u8.wrap f.Way]++Nq f.Cols++IntKind.u8.wrap (f.Nodes.length:Int)::f.Nodes.flatMap tQ
def Tz(p:eV):List Int:=IntKind.u8.wrap (p.Frags.length:Int)::p.Frags.flatMap Po
structure PB(e:aW):Prop where
 len:e.Nodes.length<=100
 str: ∀n∈e.Nodes,n.Value.S.length<=100
structure MB(n:tV):Prop where
 kinds:n.Kinds.length<=20
 keys:n.Keys.length<=20
 order:n.Order.length<=20
 items:n.Items.length<=20
 aggs:n.Aggs.length<=20
 cond:PB n.Cond
 item: ∀e∈n.Items,PB e
 arg: ∀a∈n.Aggs,PB a.Arg
structure SQ(f:dv):Prop where
 cols:f.Cols.length<=40
 len:f.Nodes.length<=70
 n: ∀n∈f.Nodes,MB n
structure Sy(p:eV):Prop where
 len:p.Frags.length<=40
 f: ∀f∈p.Frags,SQ f
def VE(e:aW):Prop:= ∀n∈e.Nodes,n.Tag=1->kp n.Value=true
structure VN(n:tV):Prop where
 cond:n.Op=2\/n.Op=3->VE n.Cond
 arg:n.Op=4\/n.Op=10\/n.Op=11-> ∀a∈n.Aggs,VE a.Arg
 item:n.Op=5-> ∀e∈n.Items,VE e
def w8{α β:Type}{f:α->List β}{k:Nat}: ∀(l:List α),(∀x∈l,(f x).length<=k)->(l.flatMap f).length<=k*l.length
 |[],_=>by simp
 |x::l,h=>by
  have X:=h x (qa ..)
  have K:=w8 l fun y hy=>h y (ry _ hy)
  rw [zt,mq,iG,xQ]
  omega
def pi(l:List Int):(Nq l).length=l.length+1:=by simp [Nq,yU]
def LO{n:av}(h:n.Value.S.length<=100):(nB n).length<=118:=by
 have:=Ld n.Value
 unfold nB
 split
 ·simp
 ·split
  ·simp;omega
  ·simp
def AC{e:aW}(h:PB e):(eB e).length<=11802:=by
 have X:=w8 (f:=nB) (k:=118) e.Nodes fun n hn=>LO (h.str n hn)
 have K:=h.len
 unfold eB
 rw [mq,iq]
 have:118*e.Nodes.length<=118*100:=Nat.mul_le_mul_left _ K
 omega
def N0{a:fU}(h:PB a.Arg):(SO a).length<=11803:=by
 have:=AC h
 unfold SO
 simp;omega
def U8{n:tV}(h:MB n):(AD n).length<=236100:=by
 have X:=AC h.cond
 have K:=w8 (f:=SO) (k:=11803) n.Aggs fun a ha=>N0 (h.arg a ha)
 have h3:=w8 (f:=eB) (k:=11802) n.Items fun a ha=>AC (h.item a ha)
 have h4:=w8 (f:=WG) (k:=2) n.Order fun a ha=>by simp [WG]
 have:=h.kinds;have:=h.keys;have:=h.order;have:=h.items;have:=h.aggs
 unfold AD
 split
 ·rw [iG,pi];omega
 ·split
  ·rw [iG];omega
  ·split
   ·omega
   ·split
    ·rw [mq,pi,iG];omega
    ·split
     ·rw [iG];omega
     ·split
      ·rw [iG,mq,F5,iq];omega
      ·simp
def ED{n:tV}(h:MB n):(tQ n).length<=236101:=by
 have:=U8 h
 unfold tQ
 simp;omega
def Iq{f:dv}(h:SQ f):(Po f).length<=16527200:=by
 have X:=w8 (f:=tQ) (k:=236101) f.Nodes fun n hn=>ED (h.n n hn)
 have:=h.cols;have:=h.len
 unfold Po
 rw [mq,mq,pi,iG]
 simp only [iG,vX]
 omega
def Tx{p:eV}(h:Sy p):(Tz p).length<=661088001:=by
 have X:=w8 (f:=Po) (k:=16527200) p.Frags fun f hf=>Iq (h.f f hf)
 have:=h.len
 unfold Tz
 rw [iG]
 omega
def Vb(l:List Int):vV (yU l):=by
 induction l with
 |nil=>exact xk
 |cons x l ih=>exact lh ih
def uN{α:Type}{f:α->List Int}: ∀(l:List α),(∀x∈l,vV (f x))->vV (l.flatMap f)
 |[],_=>xk
 |x::l,h=>by
  rw [zt]
  exact p7 (h x (qa ..)) (uN l fun y hy=>h y (ry _ hy))
def Sp(b:Bool){l:List Int}(h:vV l):vV (fB b::l):=fun x V=>by
 rcases kj.1 V with rfl|V
 ·cases b
  ·exact⟨0,by omega,rfl⟩
  ·exact⟨1,by omega,rfl⟩
 ·exact h x V
def IL(l:List Int):vV (Nq l):=lh (Vb l)
def Yw(n:av):vV (nB n):=by
 unfold nB
 refine lh ?_
 split
 ·exact DD _
 ·split
  ·exact Yv _
  ·exact xk
def IM(e:aW):vV (eB e):=p7 (sQ _ _) (uN _ fun n _=>Yw n)
def Vf(a:fU):vV (SO a):=lh (IM _)
def Ve(n:tV):vV (AD n):=by
 unfold AD
 split
 ·exact lh (IL _)
 ·split
  ·exact Sp _ (IM _)
  ·split
   ·exact IM _
   ·split
    ·exact p7 (IL _) (lh (uN _ fun a _=>Vf a))
    ·split
     ·exact lh (uN _ fun a _=>IM a)
     ·split
      ·exact lh (p7 (uN _ fun a _=>lh (Sp _ xk)) (sQ _ _))
      ·exact xk
def Vd(f:dv):vV (Po f):=p7 (p7 (lh (lh xk)) (IL _)) (lh (uN _ fun n _=>lh (Ve n)))
def Vc(p:eV):vV (Tz p):=lh (uN _ fun f _=>Vd f)
abbrev W0(b:List Int):bg:=⟨b⟩
def zJ: ∀(l b:List Int),b.length+l.length<=60000000000->gz l (W0 b)=some (W0 (b++yU l))
 |[],b,_=>by unfold gz;simp [yU]
 |x::l,b,h=>by
  simp only [iG]at h
  unfold gz
  show((app b [IntKind.u8.wrap x]).bind _)=_
  rw [cd (by simp;omega),bG]
  show gz l (W0 (b++[IntKind.u8.wrap x]))=_
  rw [zJ l _ (by simp;omega),pe]
  rfl
def qz(b l:List Int)(h:b.length+l.length<=60000000000):cA (W0 b) l=some (W0 (b++yU l)):=zJ l b h
def Qg(b l:List Int)(h:b.length+l.length<=50000000000):kP (W0 b) l=some (W0 (b++Nq l)):=by
 unfold kP
 rw [qz b [(l.length:Int)] (by simp;omega),bG,qz _ l (by simp [yU];omega),bG,pe]
 rfl
def Vt(b:List Int)(n:tV)(h:b.length+n.Kinds.length<=40000000000):fZ (W0 b) n=some (W0 (b++IntKind.u8.wrap n.Table::Nq n.Kinds)):=by
 unfold fZ
 rw [qz b _ (by simp;omega),bG,Qg _ _ (by simp [yU];omega),bG,pe]
 rfl
def Vu(b:List Int)(x:Bool)(h:b.length<=50000000000):jo (W0 b) x=some (W0 (b++[fB x])):=by
 unfold jo mP
 cases x
 ·rw [bk (by simp),qz b _ (by simp;omega),bG];rfl
 ·rw [bJ rfl,qz b _ (by simp;omega),bG];rfl
def Jk: ∀(l:List av) (b:List Int),(∀n∈l,n.Value.S.length<=100)->(∀n∈l,n.Tag=1->kp n.Value=true)->b.length+118*l.length<=50000000000->eI l (W0 b)=some (W0 (b++l.flatMap nB))
 |[],b,_,_,_=>by unfold eI;simp
 |n::l,b,hs,hv,h=>by
  have ih:=fun b H=>Jk l b (fun m hm=>hs m (ry _ hm)) (fun m hm=>hv m (ry _ hm)) H
  have hn:=hs n (qa ..)
  have hnv:=hv n (qa ..)
  have hln:=LO hn
  simp only [iG,xQ]at h
  have key: ∀t:List Int,IntKind.u8.wrap n.Tag::t=nB n->eI l (W0 ((b++yU [n.Tag])++t))=some (W0 (b++(n::l).flatMap nB)):=fun t D=>by
   rw [pe,show yU [n.Tag]++t=nB n from D,ih _ (by simp;omega),pe,zt]
  unfold eI
  rw [qz b _ (by simp;omega),bG]
  by_cases K:n.Tag=2
  ·rw [bJ (by simp [K]),qz _ _ (by simp [yU];omega),bG]
   exact key _ (by unfold nB;rw [bJ K];rfl)
  ·rw [bk (by simpa using K)]
   by_cases X:n.Tag=1
   ·have hvl:=Ld n.Value
    rw [bJ (by simp [X]),Fi _ (by omega),bJ (hnv X),bG]
    show((app (b++yU [n.Tag]) (vB n.Value)).bind _)=_
    rw [cd (by simp [yU];omega),bG]
    exact key _ (by unfold nB;rw [bk K,bJ X])
   ·rw [bk (by simpa using X)]
    have:=key [] (by unfold nB;rw [bk K,bk X])
    rwa [qC]at this
def ZB{n:Nat}(h:n<=60000):IntKind.u64.wrap (IntKind.u16.wrap (n:Int))=(n:Int):=by rw [IntKind.wrap_u16,xL];omega
def MQ(b:List Int)(e:aW)(hs:PB e)(hv:VE e)(h:b.length<=40000000000):jp (W0 b) e=some (W0 (b++eB e)):=by
 have:=hs.len
 unfold jp
 show((rm b _).bind _)=_
 rw [EJ b _ (by omega),bG,ZB (by omega)]
 show eI e.Nodes (W0 _)=_
 rw [Jk e.Nodes _ hs.str hv (by simp [iq];omega),pe]
 rfl
def Gr: ∀(l:List fU) (b:List Int),(∀a∈l,PB a.Arg)->(∀a∈l,VE a.Arg)->b.length+11803*l.length<=30000000000->iz l (W0 b)=some (W0 (b++l.flatMap SO))
 |[],b,_,_,_=>by unfold iz;simp
 |a::l,b,hs,hv,h=>by
  have hl:=N0 (hs a (qa ..))
  simp only [iG,xQ]at h
  unfold iz
  rw [qz b _ (by simp;omega),bG,MQ _ a.Arg (hs a (qa ..)) (hv a (qa ..)) (by simp [yU];omega),bG,pe]
  rw [show yU [a.Tag]++eB a.Arg=SO a from rfl,Gr l _ (fun m hm=>hs m (ry _ hm)) (fun m hm=>hv m (ry _ hm)) (by simp;omega),pe,zt]
def Wn(b:List Int)(n:tV)(hs:MB n)(hv: ∀a∈n.Aggs,VE a.Arg)(h:b.length<=20000000000):eT (W0 b) n=some (W0 (b++(Nq n.Keys++IntKind.u8.wrap (n.Aggs.length:Int)::n.Aggs.flatMap SO))):=by
 have:=hs.keys;have:=hs.aggs
 unfold eT
 rw [Qg b _ (by omega),bG,qz _ _ (by simp [pi];omega),bG,Gr n.Aggs _ hs.arg hv (by simp [pi,yU];omega),pe,pe]
 rfl
def CR: ∀(l:List aW) (b:List Int),(∀a∈l,PB a)->(∀a∈l,VE a)->b.length+11802*l.length<=30000000000->gU l (W0 b)=some (W0 (b++l.flatMap eB))
 |[],b,_,_,_=>by unfold gU;simp
 |a::l,b,hs,hv,h=>by
  have hl:=AC (hs a (qa ..))
  simp only [iG,xQ]at h
  unfold gU
  rw [MQ _ a (hs a (qa ..)) (hv a (qa ..)) (by omega),bG]
  rw [CR l _ (fun m hm=>hs m (ry _ hm)) (fun m hm=>hv m (ry _ hm)) (by simp;omega),pe,zt]
def Qf(b:List Int)(n:tV)(hs:MB n)(hv: ∀a∈n.Items,VE a)(h:b.length<=20000000000):g9 (W0 b) n=some (W0 (b++IntKind.u8.wrap (n.Items.length:Int)::n.Items.flatMap eB)):=by
 have:=hs.items
 unfold g9
 rw [qz _ _ (by simp;omega),bG,CR n.Items _ hs.item hv (by simp [yU];omega),pe]
 rfl
def Ri(n:tV):ib (IntKind.u64.wrap (IntKind.u32.wrap (IntKind.i64.wrap (n.Limit+1)))) 4=F5 n:=by
 unfold F5
 generalize IntKind.i64.wrap (n.Limit+1)=x
 obtain⟨m,_,hm⟩:=HH (IntKind.u32.wrap x)
 obtain⟨k,_,hk⟩:=HH x
 rw [hm,hk,xj,xj]
 refine BR 4 ?_
 rw [xL,IntKind.wrap_u32]at hm
 rw [xL]at hk
 show m%4294967296=k%4294967296
 omega
def Gq(n:tV): ∀(l:List kF) (b:List Int),b.length+2*l.length<=30000000000->iy n l (W0 b)=some (W0 (b++(l.flatMap WG++F5 n)))
 |[],b,h=>by
  unfold iy
  show((pQ b _).bind _)=_
  rw [EI b _ (by simp at h;omega),bG,Ri]
  rfl
 |o::l,b,h=>by
  simp only [iG]at h
  unfold iy
  rw [qz b _ (by simp;omega),bG,Vu _ _ (by simp [yU];omega),bG,Gq n l _ (by simp [yU];omega),pe,pe]
  rfl
def Wl(b:List Int)(n:tV)(hs:MB n)(h:b.length<=20000000000):iP (W0 b) n=some (W0 (b++IntKind.u8.wrap (n.Order.length:Int)::(n.Order.flatMap WG++F5 n))):=by
 have:=hs.order
 unfold iP
 rw [qz _ _ (by simp;omega),bG,Gq n n.Order _ (by simp [yU];omega),pe]
 rfl
def Zy{β:Type}(f1 f9 f2 f3 f4 f10 f11 f5 f8:β)(k:Int):uY (hX (hX (hX (hX (hX (hX (hX (hX (hX ([]:List (Int×β)) 1 f1) 9 f9) 2 f2) 3 f3) 4 f4) 10 f10) 11 f11) 5 f5) 8 f8) k=
  if k=1 then some f1 else if k=9 then some f9 else if k=2 then some f2 else if k=3 then some f3 else if k=4 then some f4 else if k=10 then some f10 else if k=11 then some f11 else if k=5 then some f5 else if k=8 then some f8 else none:=by
 have e:hX (hX (hX (hX (hX (hX (hX (hX (hX ([]:List (Int×β)) 1 f1) 9 f9) 2 f2) 3 f3) 4 f4) 10 f10) 11 f11) 5 f5) 8 f8=[(1,f1),(9,f9),(2,f2),(3,f3),(4,f4),(10,f10),(11,f11),(5,f5),(8,f8)]:=rfl
 rw [e]
 simp only [uY,eq_comm (b:=k)]
def map_some{α β:Type}{x:Option α}{y:α}(h:x=some y)(f:α->β):x.map f=some (f y):=by rw [h];rfl
def Jf(nx:bg->Option bg): ∀(l:List tV) (b:List Int),(∀n∈l,MB n)->(∀n∈l,VN n)->b.length+236101*l.length<=15000000000->fm nx l (W0 b)=nx (W0 (b++l.flatMap tQ))
 |[],b,_,_,_=>by unfold fm;simp
 |n::l,b,hs,hv,h=>by
  have ih:=fun b H=>Jf nx l b (fun m hm=>hs m (ry _ hm)) (fun m hm=>hv m (ry _ hm)) H
  have hn:=hs n (qa ..)
  have hnv:=hv n (qa ..)
  have hln:=ED hn
  have hkinds:=hn.kinds
  simp only [iG,xQ]at h
  have hb0:(b++yU [n.Op]).length=b.length+1:=by simp [yU]
  have key: ∀t:List Int,t=AD n->fm nx l (W0 ((b++yU [n.Op])++t))=nx (W0 (b++(n::l).flatMap tQ)):=fun t D=>by
   subst D
   rw [pe,show yU [n.Op]++AD n=tQ n from rfl,ih _ (by simp;omega),pe,zt]
  unfold fm
  rw [qz b _ (by simp;omega),bG,Zy]
  generalize hc:b++yU [n.Op]=c at hb0 key ⊢
  by_cases X:n.Op=1
  ·rw [bJ X,bJ (by rfl)]
   show(((fZ (W0 c) n).map _).bind _)=_
   rw [map_some (Vt c n (by omega)),bG]
   exact key _ (by unfold AD;rw [bJ (.inl X)])
  by_cases h9:n.Op=9
  ·rw [bk X,bJ h9,bJ (by rfl)]
   show(((fZ (W0 c) n).map _).bind _)=_
   rw [map_some (Vt c n (by omega)),bG]
   exact key _ (by unfold AD;rw [bJ (.inr h9)])
  have h19: ¬(n.Op=1\/n.Op=9):=by omega
  by_cases K:n.Op=2
  ·rw [bk X,bk h9,bJ K,bJ (by rfl)]
   show(((jn (W0 c) n).map _).bind _)=_
   have hj:jn (W0 c) n=some (W0 (c++fB n.Left::eB n.Cond)):=by
    unfold jn
    rw [Vu c _ (by omega),bG,MQ _ _ hn.cond (hnv.cond (.inl K)) (by simp;omega),bG,pe];rfl
   rw [map_some hj,bG]
   exact key _ (by unfold AD;rw [bk h19,bJ K])
  by_cases h3:n.Op=3
  ·rw [bk X,bk h9,bk K,bJ h3,bJ (by rfl)]
   show(((im (W0 c) n).map _).bind _)=_
   have hj:im (W0 c) n=some (W0 (c++eB n.Cond)):=by
    unfold im
    rw [MQ _ _ hn.cond (hnv.cond (.inr h3)) (by omega),bG]
   rw [map_some hj,bG]
   exact key _ (by unfold AD;rw [bk h19,bk K,bJ h3])
  have Y:(n.Op=4\/n.Op=10\/n.Op=11)->((eT (W0 c) n).map fun mr=>((),mr)).bind (fun r5=>(fm nx l) r5.2)=nx (W0 (b++(n::l).flatMap tQ)):=fun Y=>by
   rw [map_some (Wn c n hn (hnv.arg Y) (by omega)),bG]
   exact key _ (by unfold AD;rw [bk h19,bk K,bk h3,bJ Y])
  by_cases h4:n.Op=4
  ·rw [bk X,bk h9,bk K,bk h3,bJ h4,bJ (by rfl)]
   exact Y (.inl h4)
  by_cases h10:n.Op=10
  ·rw [bk X,bk h9,bk K,bk h3,bk h4,bJ h10,bJ (by rfl)]
   exact Y (.inr (.inl h10))
  by_cases h11:n.Op=11
  ·rw [bk X,bk h9,bk K,bk h3,bk h4,bk h10,bJ h11,bJ (by rfl)]
   exact Y (.inr (.inr h11))
  have h4n: ¬(n.Op=4\/n.Op=10\/n.Op=11):=by omega
  by_cases h5:n.Op=5
  ·rw [bk X,bk h9,bk K,bk h3,bk h4,bk h10,bk h11,bJ h5,bJ (by rfl)]
   show(((g9 (W0 c) n).map _).bind _)=_
   rw [map_some (Qf c n hn (hnv.item h5) (by omega)),bG]
   exact key _ (by unfold AD;rw [bk h19,bk K,bk h3,bk h4n,bJ h5])
  by_cases h8:n.Op=8
  ·rw [bk X,bk h9,bk K,bk h3,bk h4,bk h10,bk h11,bk h5,bJ h8,bJ (by rfl)]
   show(((iP (W0 c) n).map _).bind _)=_
   rw [map_some (Wl c n hn (by omega)),bG]
   exact key _ (by unfold AD;rw [bk h19,bk K,bk h3,bk h4n,bk h5,bJ h8])
  ·rw [bk X,bk h9,bk K,bk h3,bk h4,bk h10,bk h11,bk h5,bk h8,bk (by simp)]
   have:=key [] (by unfold AD;rw [bk h19,bk K,bk h3,bk h4n,bk h5,bk h8])
   rwa [qC]at this
def Jg: ∀(l:List dv) (b:List Int),(∀f∈l,SQ f)->(∀f∈l,∀n∈f.Nodes,VN n)->b.length+16527200*l.length<=10000000000->hD l (W0 b)=some (W0 (b++l.flatMap Po))
 |[],b,_,_,_=>by unfold hD;simp
 |f::l,b,hs,hv,h=>by
  have hf:=hs f (qa ..)
  have hfl:=Iq hf
  have X:=hf.cols;have K:=hf.len
  simp only [iG,xQ]at h
  unfold hD
  rw [qz b _ (by simp;omega),bG,Qg _ _ (by simp [yU];omega),bG,qz _ _ (by simp [yU,pi];omega),bG,Jf _ f.Nodes _ hf.n (hv f (qa ..)) (by simp [yU,pi];omega)]
  rw [show((b++yU [f.At,f.Way])++Nq f.Cols++yU [(f.Nodes.length:Int)])++f.Nodes.flatMap tQ=b++Po f by simp [Po,yU]]
  rw [Jg l _ (fun m hm=>hs m (ry _ hm)) (fun m hm=>hv m (ry _ hm)) (by simp;omega),pe,zt]
def YT(b:List Int)(p:eV)(hs:Sy p)(hv: ∀f∈p.Frags,∀n∈f.Nodes,VN n)(h:b.length<=1000000000):kO (W0 b) p=some (W0 (b++Tz p)):=by
 have:=hs.len
 unfold kO
 rw [qz _ _ (by simp;omega),bG,Jg p.Frags _ hs.f hv (by simp [yU];omega),pe]
 rfl
end Go.Proofs.YtdohlidddcgfjaaGreat


/- cE of this claim: G3. -/
set_option linter.all false
namespace Go.Proofs.YtdohlidddcgfjaaGreat
open Go

def RA(t:Tr): ∀ac,t.wf-> ∀n∈t.flat ac,C7 n=true:=by
 induction t with
 |lf n=>
  intro ac h m hm
  rw [zW.1 hm,IJ];exact h.2.1
 |un n a ih=>
  intro ac h m hm
  rcases uW.1 hm with hm|hm
  ·exact ih ac h.2 m hm
  ·rw [zW.1 hm,IJ];exact h.1.2.1
 |bi n a b iha ihb=>
  intro ac h m hm
  rcases uW.1 hm with hm|hm
  ·rcases uW.1 hm with hm|hm
   ·exact iha ac h.2.1 m hm
   ·exact ihb _ h.2.2 m hm
  ·rw [zW.1 hm,IJ];exact h.1.2.1
def OS{ns:List av}(h:nw ns=true): ∀n∈ns,C7 n=true:=by
 unfold nw at h
 obtain⟨t,D⟩:=MO.1 h
 obtain⟨X,K,_⟩:=nR D
 rw [K]
 exact RA t 0 X
def QH{e:aW}(h:nw e.Nodes=true):VE e:=fun n hn X=>by
 have:=OS h n hn
 unfold C7 ka at this
 rw [bJ (by simp [X]),pM]at this
 simp [vM]at this
 grind
def rn{e:aW}{ks:List Int}(h:(gT e ks).2=0):nw e.Nodes=true:=by
 unfold gT at h
 split at h
 ·assumption
 ·cases h
def yr{e:aW}{ks:List Int}(h:(gT e ks).2=0):VE e:=QH (rn h)
def KB{e:aW}(h:e.Nodes.length=0):VE e:=fun n hn=>by
 rw [tH h]at hn;cases hn
def Jp{e:aW}{ks:List Int}(hl:e.Nodes.length<=5000){b:Bool}(h:kY e ks=some b)(H:b=true):VE e:=by
 rw [D3 e ks hl]at h
 cases h
 unfold HI at H
 simp only [pt,vC]at H
 exact yr H.1
def M7: ∀(items:List aW) (ob:aq) {r:Bool×aq},(∀e∈items,e.Nodes.length<=5000)->fi items ob=some r->r.1=true-> ∀e∈items,VE e
 |[],_,_,_,_,_=>fun e he=>by cases he
 |e::tl,ob,r,hl,h,hr=>by
  unfold fi at h
  rw [oj e _ (by have:=hl e (qa ..);omega),bG]at h
  by_cases hk:(gT e ob.a_).2=0
  ·rw [bk (by simp [hk])]at h
   obtain⟨l4,_,h⟩:=bs h
   intro x V
   rcases kj.1 V with rfl|V
   ·exact yr hk
   ·exact M7 tl _ (fun y hy=>hl y (ry _ hy)) h hr x V
  ·rw [bJ (by simpa using hk)]at h
   cases h
   cases hr
def YB{g:fU}{a:List Int}(h:(BU g a).2=true):VE g.Arg:=by
 unfold BU at h
 split at h
 ·exact KB (by simpa using h)
 ·split at h
  ·simp only [pt,vC]at h;exact yr h.1.1.1
  ·split at h
   ·simp only [pt,vC]at h;exact yr h.1.1
   ·simp only [pt,vC]at h;exact yr h.1.1
def EU{l:aq}(Y: ∀g∈l.n.Aggs,g.Arg.Nodes.length<=5000)(hgl:l.n.Aggs.length<=5000): ∀(ks R:List Int) {r:Bool×aq},R.length+ks.length<=5000->dV l ks {l with result:=R}=some r->r.1=true-> ∀g∈l.n.Aggs,VE g.Arg
 |[],R,r,hR,h,hr=>by
  unfold dV at h
  rw [LV l.n.Aggs _ R Y (by simp at hR;omega)]at h
  cases h
  simp only [pt]at hr
  exact fun g hg' =>YB (mo.1 hr.2 g hg')
 |k::tl,R,r,hR,h,hr=>by
  simp only [iG]at hR
  unfold dV at h
  split at h
  ·cases h;cases hr
  ·obtain⟨e2,_,h⟩:=bs h
   obtain⟨l9,h9,h⟩:=bs h
   have h9' :app R [e2]=some l9:=h9
   rw [cd (by simp;omega)]at h9'
   cases h9'
   exact EU Y hgl tl (R++[e2]) (by simp;omega) h hr
def BF{nx:Nat->Bool->aq->Option (Bool×aq)}{i:Nat}{e:fU}{ok:Bool}{ob:aq}{e3:Int}{x:Bool}{r:Bool×aq}(h:iN nx i e ok ob e3 x=some r): ∃ok' ob',nx (i+1) ok' ob' =some r/\(ok' =true->ok=true/\e.Arg.Nodes.length=0):=by
 unfold iN at h
 split at h
 ·exact⟨_,_,h,fun h=>by simp at h;exact⟨h.1.1,by rw [h.1.2];rfl⟩⟩
 ·exact⟨_,_,h,fun h=>by cases h⟩
def BG{l:aq}{nx:Nat->Bool->aq->Option (Bool×aq)}{i:Nat}{e:fU}{ok:Bool}{ob:aq}{e3:Int}{x:Bool}{r:Bool×aq}(h:gj l nx i e ok ob e3 x=some r): ∃ok' ob',nx (i+1) ok' ob' =some r/\(ok' =true->ok=true/\e.Arg.Nodes.length=0):=by
 unfold gj at h
 split at h
 ·exact⟨_,_,h,fun h=>by simp at h;exact⟨h.1.1,by rw [h.1.2];rfl⟩⟩
 ·split at h
  ·obtain⟨e4,_,h⟩:=bs h
   obtain⟨st,_,h⟩:=bs h
   exact⟨_,_,h,fun h=>by simp at h;exact⟨h.1.1,by rw [h.1.2];rfl⟩⟩
  ·split at h
   ·exact BF h
   ·exact BF h
def BD{l:aq}: ∀(gs:List fU) (i:Nat) (ok:Bool) (ob:aq) {r:Bool×aq},cz l gs i ok ob=some r->r.1=true->ok=true/\ ∀g∈gs,g.Arg.Nodes.length=0
 |[],i,ok,ob,r,h,hr=>by
  unfold cz at h
  cases h
  exact⟨hr,fun g Y=>by cases Y⟩
 |g::gs,i,ok,ob,r,h,hr=>by
  unfold cz at h
  obtain⟨e3,_,h⟩:=bs h
  have: ∃ok' ob',cz l gs (i+1) ok' ob' =some r/\(ok' =true->ok=true/\g.Arg.Nodes.length=0):=by
   split at h
   ·exact BG h
   ·exact BG h
  obtain⟨ok',ob',X,K⟩:=this
  obtain⟨h3,h4⟩:=BD gs _ _ _ X hr
  obtain⟨h5,h6⟩:=K h3
  refine⟨h5,fun x V=>?_⟩
  rcases kj.1 V with rfl|V
  ·exact h6
  ·exact h4 x V
def BE{l:aq}{R:List Int}: ∀(ks:List Int) (i:Nat) (ok:Bool) {r:Bool×aq},eP l R ks i ok=some r->r.1=true-> ∀g∈l.n.Aggs,g.Arg.Nodes.length=0
 |[],i,ok,r,h,hr=>by
  unfold eP at h
  exact(BD _ _ _ _ h hr).2
 |k::ks,i,ok,r,h,hr=>by
  unfold eP at h
  obtain⟨t,_,h⟩:=bs h
  exact BE ks _ _ h hr
def Yx{n:tV}(hn:jJ n){l:aq}(hl:l.n=n){r:Bool×aq}(h:px n.Op l ()=some r)(hr:r.1=true):VN n:=by
 subst hl
 refine⟨fun ho=>?_,fun ho=>?_,fun ho=>?_⟩
 ·rcases ho with ho|ho
  ·rw [ho]at h
   have h:iD l=some r:=h
   unfold iD at h
   obtain⟨c,_,h⟩:=bs h
   obtain⟨b,X,h⟩:=bs h
   cases h
   exact Jp hn.cond X hr
  ·rw [ho]at h
   have h:gu l=some r:=h
   unfold gu at h
   obtain⟨b,X,h⟩:=bs h
   cases h
   exact Jp hn.cond X hr
 ·rcases ho with ho|ho|ho
  ·rw [ho]at h
   have h:fd l=some r:=h
   exact EU hn.args hn.aggs l.n.Keys [] (by have:=hn.keys;simpa using this) h hr
  ·rw [ho]at h
   have h:eO l=some r:=h
   unfold eO at h
   obtain⟨q,X,h⟩:=bs h
   by_cases hq:q.1=true
   ·exact EU hn.args hn.aggs l.n.Keys [] (by have:=hn.keys;simpa using this) X hq
   ·rw [bJ (by simpa using hq)]at h
    cases h;cases hr
  ·rw [ho]at h
   have h:d7 l=some r:=h
   unfold d7 at h
   obtain⟨e,_,h⟩:=bs h
   split at h
   ·cases h;cases hr
   ·obtain⟨c,_,h⟩:=bs h
    exact fun g Y=>KB (BE _ _ _ h hr g Y)
 ·rw [ho]at h
  have h:jk l=some r:=h
  exact M7 l.n.Items _ hn.exprs h hr
def wI{l:aq}{i:Int}{ask:aq->Unit->Option (Bool×aq)}{e:tV}{r:Int}: ∀(tl:List Int) (i5:Nat) (a b:List Int) {q:Bool×aq},bw l i ask e r tl i5 a b=some q->q.1=true-> ∃l0 r2,l0.n=e/\ask l0 ()=some r2/\r2.1=true
 |[],i5,a,b,q,h,hq=>by
  unfold bw at h
  split at h
  ·cases h;cases hq
  ·obtain⟨r2,K,h⟩:=bs h
   by_cases hr:r2.1=true
   ·exact⟨_,r2,rfl,K,hr⟩
   ·rw [bJ (by simp [hr])]at h
    cases h;cases hq
 |p::tl,i5,a,b,q,h,hq=>by
  unfold bw at h
  obtain⟨e2,_,h⟩:=bs h
  obtain⟨t1,_,h⟩:=bs h
  split at h
  ·cases h;cases hq
  ·split at h
   ·exact wI tl _ _ _ h hq
   ·exact wI tl _ _ _ h hq
def Oz{l:aq}{i:Int}{ask:aq->Unit->Option (Bool×aq)}{q:Bool×aq}(h:dC l i ask=some q)(hq:q.1=true){e:tV}(he:gB l.nodes i=some e): ∃l0 r2,l0.n=e/\ask l0 ()=some r2/\r2.1=true:=by
 unfold dC at h
 rw [he,bG]at h
 obtain⟨r,_,h⟩:=bs h
 obtain⟨t,_,h⟩:=bs h
 split at h
 ·cases h;cases hq
 ·obtain⟨y,_,h⟩:=bs h
  split at h
  ·cases h;cases hq
  ·obtain⟨y1,_,h⟩:=bs h
   exact wI _ _ _ _ h hq
def Nk{ns:List tV}(hs:om ns): ∀(tl:List tV) (i:Nat) (l:aq),ns.drop i=tl->PD ns l i-> ∀{out:List (List Int)} {w:Int},fY ns ((mD).getD []) tl i (-1) l=some (out,w,0)-> ∀n∈tl,VN n
 |[],_,_,_,_,_,_,_=>fun n hn=>by cases hn
 |e::tl,i,l,hd,hS,out,w,h=>by
  obtain⟨hidx,hi,hd'⟩:=jb hd
  have hidx' :=hidx
  rw [eu]at hidx
  obtain⟨ok,l',g1,g2,g3⟩:=Ca hS hs hidx tl
  unfold fY at h
  have g1' :dC l (i:Int) ((uY ((mD).getD []) e.Op).getD (fun _ _=>none))=some (ok,l'):=g1
  rw [g1',bG]at h
  cases ok with
  |false=>
   rw [bJ (by rfl)]at h
   unfold kc at h
   rw [bk (by simp;omega),qw l' (by omega)]at h
   cases h
  |true=>
   rw [bk (by simp)]at h
   have hse:=hs.n e (rC hidx)
   obtain⟨l0,r2,k1,k2,k3⟩:=Oz g1 rfl (by rw [hS.k.nodes];exact hidx')
   intro n hn
   rcases kj.1 hn with rfl|hn
   ·exact Yx hse k1 k2 k3
   ·exact Nk hs tl (i+1) l' hd' (g2 rfl).1 h n hn
def SF{ns:List tV}(hs:om ns){out:List (List Int)}{w:Int}(h:jV ns=some (out,w,0)): ∀n∈ns,VN n:=by
 unfold jV at h
 split at h
 ·cases h
 ·exact Nk hs ns 0 ⟨ns,[],[],⟨0,0,0,0,[],false,⟨[]⟩,[],[],[],[],0⟩,[],[],[]⟩ rfl ⟨⟨rfl,rfl,fun p hp=>(by cases hp),eJ _,fun k hk=>(by cases hk),fun j hj=>by omega⟩,.nil,fun k hk=>by cases hk⟩ h
end Go.Proofs.YtdohlidddcgfjaaGreat


/- cE of this claim: G4. -/
set_option linter.all false
namespace Go.Proofs.YtdohlidddcgfjaaGreat
open Go

def Z1{α:Type} [DecidableEq α]{g:List α->Nat->Option Bool}{s2:List α}{P:α->Prop}(h0: ∀i,g [] i=some true)(X: ∀e tl i,P e->g (e::tl) i=(gB s2 (i:Int)).bind fun e1=>if e=e1 then g tl (i+1)else some false): ∀(l:List α) (i:Nat),(∀e∈l,P e)->i+l.length=s2.length->g l i=some (decide (l=s2.drop i))
 |[],i,_,hl=>by
  rw [h0]
  simp only [vX]at hl
  rw [Hy (by omega)]
  simp
 |e::tl,i,hp,hl=>by
  simp only [iG]at hl
  have hi:i<s2.length:=by omega
  rw [X e tl i (hp e (qa ..)),eu,lI hi,bG,AO hi]
  by_cases h:e=s2[i]
  ·rw [bJ h,Z1 h0 X tl (i+1) (fun x V=>hp x (ry _ V)) (by omega),<-h]
   congr 1
   rw [Gg]
   exact⟨fun hh=>by rw [<-hh],fun hh=>(zA hh).2⟩
  ·rw [bk h,Dc (fun hh=>h (zA hh).1)]
def eqW{α:Type} [DecidableEq α]{g:List α->Nat->Option Bool}{s1 s2:List α}(h:s1.length=s2.length->g s1 0=some (decide (s1=s2.drop 0))):(if((s1.length:Int) !=(s2.length:Int))then some false else g s1 0)=some (decide (s1=s2)):=by
 by_cases hl:s1.length=s2.length
 ·rw [bk (by simp [hl]),h hl,zr]
 ·rw [bJ (by simp;omega),Dc (fun hh=>hl (by rw [hh]))]
def zd{α:Type}{p:Prop} [Decidable p](x y:α):(if(!decide p)=true then x else y)=if p then y else x:=by
 by_cases h:p<;>simp [h]
def Vh{α:Type} [DecidableEq α]{f:α->α->Option Bool}{e e1:α}{x y:Option Bool}(h:f e e1=some (decide (e=e1))):((f e e1).bind fun r=>if(!r)=true then y else x)=if e=e1 then x else y:=by
 rw [h,bG];exact zd _ _
def Sv{p q:Bool}{x:Option Bool}(h:x=some q):(if p=true then(x.bind fun r=>some r)else some false)=some (p&&q):=by
 subst h
 cases p<;>rfl
def wX(a b:aW):sy a b=some (decide (a=b)):=by
 unfold sy
 have:=eqW (s1:=a.Nodes) (s2:=b.Nodes) (g:=qI b) fun hl=>Z1 (P:=fun _=>True) (fun _=>rfl) (fun e tl i _=>by
  conv=>lhs;unfold qI
  congr 1;funext e1
  exact zd _ _) a.Nodes 0 (fun _ _=>trivial) (by simpa using hl)
 rw [this]
 cases a;cases b;simp
def Dk(a b:List aW):sX a b=some (decide (a=b)):=by
 unfold sX
 refine eqW fun hl=>Z1 (P:=fun _=>True) (fun _=>rfl) (fun e tl i _=>?_) a 0 (fun _ _=>trivial) (by simpa using hl)
 conv=>lhs;unfold qi
 congr 1;funext e1
 exact Vh (wX e e1)
def AG(a b:List Int):nA a b=some (decide (a=b)):=by
 unfold nA
 refine eqW fun hl=>Z1 (P:=fun _=>True) (fun _=>rfl) (fun e tl i _=>?_) a 0 (fun _ _=>trivial) (by simpa using hl)
 conv=>lhs;unfold pf
 congr 1;funext e1
 by_cases h:e=e1<;>simp [h]
def yl{p q:Bool}{x:Option Bool}(h:x=some q):(if(!p)=true then(x.bind fun r=>some (!r))else some true)=some (p|| !q):=by
 subst h
 cases p<;>rfl
def EK(a b:tV)(ha:a.Order.length<=1000)(H:a.Order.length=b.Order.length): ∀(tl:List kF) (i f:Nat),a.Order.drop i=tl->tl.length<f->kI a b f (i:Int)=some (decide (tl=b.Order.drop i)&&(decide (a.Cond=b.Cond)&&decide (a.Items=b.Items)))
 |[],i,f+1,hd,_=>by
  have h0:a.Order.length<=i:=xO.1 hd
  unfold kI
  rw [bk (by simp;omega),wX,bG,Sv (Dk _ _),bG,Hy (by omega)]
  simp
 |e::tl,i,f+1,hd,hf=>by
  obtain⟨X,K,h3⟩:=jb hd
  have hi:i<b.Order.length:=by omega
  unfold kI
  rw [bJ (by simp;omega),X,bG,eu,lI hi,bG,zd,AO hi]
  by_cases h:e=b.Order[i]
  ·rw [bJ h,show IntKind.i64.wrap ((i:Int)+1)=((i+1:Nat):Int) by rw [fg (by omega) (by omega)];omega,EK a b ha H tl (i+1) f h3 (by simp at hf;omega),<-h]
   simp
  ·rw [bk h,Dc (fun hh=>h (zA hh).1)]
   simp
def EL(a b:tV)(ha:a.Aggs.length<=1000)(ho:a.Order.length<=1000)(H:a.Aggs.length=b.Aggs.length)(hbo:a.Order.length=b.Order.length): ∀(tl:List fU) (i f:Nat),a.Aggs.drop i=tl->tl.length<f->kJ a b f (i:Int)=some (decide (tl=b.Aggs.drop i)&&(decide (a.Order=b.Order)&&(decide (a.Cond=b.Cond)&&decide (a.Items=b.Items))))
 |[],i,f+1,hd,_=>by
  have h0:a.Aggs.length<=i:=xO.1 hd
  unfold kJ
  rw [bk (by simp;omega)]
  have:=EK a b ho hbo a.Order 0 dk rfl (il (by omega))
  rw [zr]at this
  rw [Hy (show b.Aggs.length<=i by omega)]
  simpa using this
 |e::tl,i,f+1,hd,hf=>by
  obtain⟨X,K,h3⟩:=jb hd
  have hi:i<b.Aggs.length:=by omega
  unfold kJ
  rw [bJ (by simp;omega),X,bG,eu,lI hi,bG,yl (wX _ _),bG,AO hi]
  have V:((e.Tag !=b.Aggs[i].Tag)|| !decide (e.Arg=b.Aggs[i].Arg))= !decide (e=b.Aggs[i]):=by
   generalize b.Aggs[i]=y
   cases e;cases y
   rw [AJ];simp
  rw [V,zd]
  by_cases h:e=b.Aggs[i]
  ·rw [bJ h,show IntKind.i64.wrap ((i:Int)+1)=((i+1:Nat):Int) by rw [fg (by omega) (by omega)];omega,EL a b ha ho H hbo tl (i+1) f h3 (by simp at hf;omega),<-h]
   simp
  ·rw [bk h,Dc (fun hh=>h (zA hh).1)]
   simp
def MC(a b:tV)(ha:a.Aggs.length<=1000)(ho:a.Order.length<=1000):rN a b=some (decide (a=b)):=by
 unfold rN
 by_cases hc:((((((a.Op !=b.Op)||(a.A !=b.A))||(a.B !=b.B))||(a.Table !=b.Table))||(a.Left !=b.Left))||(a.Limit !=b.Limit))=true
 ·rw [bJ hc,Dc]
  rintro rfl
  simp at hc
 ·rw [bk hc,yl (AG _ _),bG,yl (AG _ _),bG]
  by_cases hd:((((a.Aggs.length:Int) !=(b.Aggs.length:Int))||((a.Order.length:Int) !=(b.Order.length:Int))|| !decide (a.Kinds=b.Kinds))|| !decide (a.Keys=b.Keys))=true
  ·rw [bJ hd,Dc]
   rintro rfl
   simp at hd
  ·rw [bk hd]
   simp at hc hd
   obtain⟨⟨⟨d1,d2⟩,d3⟩,d4⟩:=hd
   have:=EL a b ha ho (by omega) (by omega) a.Aggs 0 dk rfl (il (by omega))
   rw [zr]at this
   rw [show((0:Int))=((0:Nat):Int)from rfl,this]
   congr 1
   rw [AJ]
   simp only [pt,mp]
   cases a;cases b
   simp only [tV.mk.injEq]at*
   grind
def BW(a b:dZ)(hl:a.Nodes.length<=1000)(hs: ∀n∈a.Nodes,MB n)(H:a.Nodes.length=b.Nodes.length): ∀(tl:List tV) (i f:Nat),a.Nodes.drop i=tl->tl.length<f->oI a b f (i:Int)=some (decide (tl=b.Nodes.drop i))
 |[],i,f+1,hd,_=>by
  have h0:a.Nodes.length<=i:=xO.1 hd
  unfold oI
  rw [bk (by simp;omega),Hy (by omega)]
  simp
 |e::tl,i,f+1,hd,hf=>by
  obtain⟨X,K,h3⟩:=jb hd
  have hi:i<b.Nodes.length:=by omega
  have he:=hs e (by rw [eu]at X;exact rC X)
  have:=he.aggs;have:=he.order
  unfold oI
  rw [bJ (by simp;omega),X,bG,eu,lI hi,bG,MC e _ (by omega) (by omega),bG,zd,AO hi]
  by_cases h:e=b.Nodes[i]
  ·rw [bJ h,show IntKind.i64.wrap ((i:Int)+1)=((i+1:Nat):Int) by rw [fg (by omega) (by omega)];omega,BW a b hl hs H tl (i+1) f h3 (by simp at hf;omega),<-h]
   simp
  ·rw [bk h,Dc (fun hh=>h (zA hh).1)]
def PC(a b:List tV)(hl:a.length<=1000)(hs: ∀n∈a,MB n):wW ⟨a⟩ ⟨b⟩=some (decide (a=b)):=by
 unfold wW
 by_cases h:a.length=b.length
 ·rw [bk (by simp [h])]
  have:=BW ⟨a⟩ ⟨b⟩ hl hs h a 0 dk rfl (il (by omega))
  rw [zr]at this
  exact this
 ·rw [bJ (by simp;omega),Dc (fun hh=>h (by rw [hh]))]
def FV(a b:eV)(hs:Sy a):wV a b=some (decide (a=b)):=by
 unfold wV
 have:=eqW (s1:=a.Frags) (s2:=b.Frags) (g:=qH b) fun hl=>Z1 (P:=SQ) (fun _=>rfl) (fun e tl i he=>by
  conv=>lhs;unfold qH
  congr 1;funext e1
  rw [yl (AG _ _),bG,yl (PC _ _ (by have:=he.len;omega) he.n),bG]
  have V:((((e.At !=e1.At)||(e.Way !=e1.Way))|| !decide (e.Cols=e1.Cols))|| !decide (e.Nodes=e1.Nodes))= !decide (e=e1):=by
   cases e;cases e1
   rw [AJ];simp;grind
  rw [V]
  exact zd _ _) a.Frags 0 hs.f (by simpa using hl)
 rw [this]
 cases a;cases b;simp
end Go.Proofs.YtdohlidddcgfjaaGreat


/- cE of this claim: G5. -/
set_option linter.all false
namespace Go.Proofs.YtdohlidddcgfjaaGreat
open Go

def ta{i:Nat}(h:i<=1000000):IntKind.i64.wrap ((i:Int)+1)=((i+1:Nat):Int):=by rw [rF];omega
def zP: ∀(l out:List Int),out.length+l.length<=60000000000->lC l out=some (out++yU l)
 |[],out,_=>by unfold lC;simp [yU]
 |x::l,out,h=>by
  simp only [iG]at h
  unfold lC
  rw [cd (by simp;omega),bG,zP l _ (by simp;omega),pe]
  rfl
def yc(l:List Int)(h:l.length<=1000):oz l=some (Nq l):=by
 unfold oz
 rw [zP l _ (by simp;omega)]
 rfl
def abV{n:Nat}(h:n<=1000000):IntKind.u64.wrap (n:Int)=(n:Int):=by rw [xL];omega
def M3(e:aW)(hs:PB e): ∀(tl:List av) (i f:Nat) (out:List Int),e.Nodes.drop i=tl->tl.length<f->out.length+118*tl.length<=50000000000->j9 e f out (i:Int)=some (out++tl.flatMap nB)
 |[],i,f+1,out,hd,_,_=>by
  have h0:e.Nodes.length<=i:=xO.1 hd
  unfold j9
  rw [bk (by simp;omega)];simp
 |n::tl,i,f+1,out,hd,hf,ho=>by
  obtain⟨X,K,h3⟩:=jb hd
  have hlen:=hs.len
  have hn:=hs.str n (by rw [eu]at X;exact rC X)
  have hln:=LO hn
  have hvl:=Ld n.Value
  simp only [iG,xQ]at hf ho
  have key: ∀t:List Int,IntKind.u8.wrap n.Tag::t=nB n->j9 e f ((out++[IntKind.u8.wrap n.Tag])++t) (IntKind.i64.wrap ((i:Int)+1))=some (out++(n::tl).flatMap nB):=fun t D=>by
   rw [ta (by omega),pe,show [IntKind.u8.wrap n.Tag]++t=nB n from D,M3 e hs tl (i+1) f _ h3 (by omega) (by simp;omega),pe,zt]
  unfold j9 sV
  rw [bJ (by simp;omega),X,bG,cd (by simp;omega),bG]
  by_cases t2:n.Tag=2
  ·rw [bJ (by simp [t2]),cd (by simp;omega),bG,bk (by simp [t2])]
   exact key _ (by unfold nB;rw [bJ t2])
  ·rw [bk (by simpa using t2)]
   by_cases t1:n.Tag=1
   ·rw [bJ (by simp [t1]),Ev _ (by omega),bG,cd (by simp;omega),bG]
    exact key _ (by unfold nB;rw [bk t2,bJ t1])
   ·rw [bk (by simpa using t1)]
    have:=key [] (by unfold nB;rw [bk t2,bk t1])
    rwa [qC]at this
def Tn(e:aW)(hs:PB e):qZ e=some (eB e):=by
 have hl:=hs.len
 unfold qZ
 rw [abV (by omega)]
 have X:n6 (e.Nodes.length:Int) 2=some (ib (e.Nodes.length:Int) 2):=xq e.Nodes.length 2 (by omega) (by omega)
 rw [X,bG]
 have:=M3 e hs e.Nodes 0 dk (ib (e.Nodes.length:Int) 2) rfl (il (by omega)) (by simp [iq];omega)
 exact this
def JM(n:tV)(hs:MB n): ∀(tl:List fU) (i f:Nat) (out:List Int),n.Aggs.drop i=tl->tl.length<f->out.length+11803*tl.length<=50000000000->oD n f out (i:Int)=some (out++tl.flatMap SO)
 |[],i,f+1,out,hd,_,_=>by
  have h0:n.Aggs.length<=i:=xO.1 hd
  unfold oD
  rw [bk (by simp;omega)];simp
 |a::tl,i,f+1,out,hd,hf,ho=>by
  obtain⟨X,K,h3⟩:=jb hd
  have hlen:=hs.aggs
  have ha:=hs.arg a (by rw [eu]at X;exact rC X)
  have hla:=AC ha
  simp only [iG,xQ]at hf ho
  unfold oD
  rw [bJ (by simp;omega),X,bG,cd (by simp;omega),bG,Tn _ ha,bG,cd (by simp;omega),bG,ta (by omega),JM n hs tl (i+1) f _ h3 (by omega) (by simp;omega),pe,pe]
  rfl
def JL(n:tV)(hs:MB n): ∀(tl:List aW) (i f:Nat) (out:List Int),n.Items.drop i=tl->tl.length<f->out.length+11802*tl.length<=50000000000->oC n f out (i:Int)=some (out++tl.flatMap eB)
 |[],i,f+1,out,hd,_,_=>by
  have h0:n.Items.length<=i:=xO.1 hd
  unfold oC
  rw [bk (by simp;omega)];simp
 |a::tl,i,f+1,out,hd,hf,ho=>by
  obtain⟨X,K,h3⟩:=jb hd
  have hlen:=hs.items
  have ha:=hs.item a (by rw [eu]at X;exact rC X)
  have hla:=AC ha
  simp only [iG,xQ]at hf ho
  unfold oC
  rw [bJ (by simp;omega),X,bG,Tn _ ha,bG,cd (by omega),bG,ta (by omega),JL n hs tl (i+1) f _ h3 (by omega) (by simp;omega),pe]
  rfl
def M1(b:Bool):wP b=some (fB b):=by cases b<;>rfl
def JK(n:tV)(hs:MB n): ∀(tl:List kF) (i f:Nat) (out:List Int),n.Order.drop i=tl->tl.length<f->out.length+2*tl.length<=50000000000->oB n f out (i:Int)=some (out++(tl.flatMap WG++F5 n))
 |[],i,f+1,out,hd,_,ho=>by
  have h0:n.Order.length<=i:=xO.1 hd
  simp only [vX]at ho
  unfold oB
  rw [bk (by simp;omega)]
  obtain⟨m,hm,he⟩:=HH (IntKind.i64.wrap (n.Limit+1))
  have X:n6 (m:Int) 4=some (ib (m:Int) 4):=xq m 4 hm (by omega)
  rw [he,X,bG,cd (by simp [iq];omega),bG]
  unfold F5
  rw [he];simp
 |a::tl,i,f+1,out,hd,hf,ho=>by
  obtain⟨X,K,h3⟩:=jb hd
  have hlen:=hs.order
  simp only [iG]at hf ho
  unfold oB
  rw [bJ (by simp;omega),X,bG,M1,bG,cd (by simp;omega),bG,ta (by omega),JK n hs tl (i+1) f _ h3 (by omega) (by simp;omega),pe,zt,pe]
  rfl
def Tm(n:tV)(hs:MB n):wS n=some (tQ n):=by
 have hk:=hs.kinds;have hkk:=hs.keys;have ho:=hs.order;have hi:=hs.items;have ha:=hs.aggs
 have hce:=AC hs.cond
 have hfr:n.Op=1\/n.Op=9->oE n true=some (tQ n):=fun h=>by
  unfold oE
  rw [bJ rfl,cd (by simp),bG,yc _ (by omega),bG,cd (by simp [pi];omega),bG]
  unfold tQ AD
  rw [bJ h];rfl
 have hgr:n.Op=4\/n.Op=10\/n.Op=11->m2 n true=some (tQ n):=fun h=>by
  unfold m2
  rw [bJ rfl,yc _ (by omega),bG,cd (by simp [pi];omega),bG,cd (by simp [pi];omega),bG]
  have:=JM n hs n.Aggs 0 dk ([IntKind.u8.wrap n.Op]++Nq n.Keys++[IntKind.u8.wrap (n.Aggs.length:Int)]) rfl (il (by omega)) (by simp [pi];omega)
  rw [show((0:Int))=((0:Nat):Int)from rfl,this]
  unfold tQ AD
  rw [bk (by omega),bk (by omega),bk (by omega),bJ h]
  simp
 unfold wS
 by_cases X:n.Op=1
 ·rw [bJ (by simp [X]),show(n.Op==(1:Int))=true by simp [X]];exact hfr (.inl X)
 rw [bk (by simpa using X)]
 by_cases h9:n.Op=9
 ·rw [show(n.Op==(9:Int))=true by simp [h9]];exact hfr (.inr h9)
 rw [show(n.Op==(9:Int))=false by simp [h9]]
 unfold oE
 rw [bk (by simp)]
 by_cases K:n.Op=2
 ·rw [bJ (by simp [K]),M1,bG,cd (by simp),bG,Tn _ hs.cond,bG,cd (by simp;omega),bG]
  unfold tQ AD
  rw [bk (by omega),bJ K];rfl
 rw [bk (by simpa using K)]
 by_cases h3:n.Op=3
 ·rw [bJ (by simp [h3]),Tn _ hs.cond,bG,cd (by simp;omega),bG]
  unfold tQ AD
  rw [bk (by omega),bk K,bJ h3];rfl
 rw [bk (by simpa using h3)]
 by_cases h4:n.Op=4
 ·rw [bJ (by simp [h4]),show(n.Op==(4:Int))=true by simp [h4]];exact hgr (.inl h4)
 rw [bk (by simpa using h4)]
 by_cases h10:n.Op=10
 ·rw [bJ (by simp [h10]),show(n.Op==(10:Int))=true by simp [h10]];exact hgr (.inr (.inl h10))
 rw [bk (by simpa using h10)]
 by_cases h11:n.Op=11
 ·rw [show(n.Op==(11:Int))=true by simp [h11]];exact hgr (.inr (.inr h11))
 rw [show(n.Op==(11:Int))=false by simp [h11]]
 unfold m2
 rw [bk (by simp)]
 by_cases h5:n.Op=5
 ·rw [bJ (by simp [h5]),cd (by simp),bG]
  have:=JL n hs n.Items 0 dk ([IntKind.u8.wrap n.Op]++[IntKind.u8.wrap (n.Items.length:Int)]) rfl (il (by omega)) (by simp;omega)
  rw [show((0:Int))=((0:Nat):Int)from rfl,this]
  unfold tQ AD
  rw [bk (by omega),bk K,bk h3,bk (by omega),bJ h5]
  simp
 rw [bk (by simpa using h5)]
 by_cases h8:n.Op=8
 ·rw [bJ (by simp [h8]),cd (by simp),bG]
  have:=JK n hs n.Order 0 dk ([IntKind.u8.wrap n.Op]++[IntKind.u8.wrap (n.Order.length:Int)]) rfl (il (by omega)) (by simp;omega)
  rw [show((0:Int))=((0:Nat):Int)from rfl,this]
  unfold tQ AD
  rw [bk (by omega),bk K,bk h3,bk (by omega),bk h5,bJ h8]
  simp
 rw [bk (by simpa using h8)]
 unfold tQ AD
 rw [bk (by omega),bk K,bk h3,bk (by omega),bk h5,bk h8]
def JI(nx:List Int->Int->Option (List Int))(i:Nat)(hi:i<=1000)(e:dv)(hs:SQ e): ∀(tl:List tV) (k f:Nat) (out:List Int),e.Nodes.drop k=tl->tl.length<f->out.length+236101*tl.length<=40000000000->oA nx (i:Int) e f out (k:Int)=nx (out++tl.flatMap tQ) ((i+1:Nat):Int)
 |[],k,f+1,out,hd,_,_=>by
  have h0:e.Nodes.length<=k:=xO.1 hd
  unfold oA
  rw [bk (by simp;omega),ta (by omega)];simp
 |n::tl,k,f+1,out,hd,hf,ho=>by
  obtain⟨X,K,h3⟩:=jb hd
  have hlen:=hs.len
  have hn:=hs.n n (by rw [eu]at X;exact rC X)
  have hln:=ED hn
  simp only [iG,xQ]at hf ho
  unfold oA
  rw [bJ (by simp;omega),X,bG,Tm _ hn,bG,cd (by omega),bG,ta (by omega),JI nx i hi e hs tl (k+1) f _ h3 (by omega) (by simp;omega),pe]
  rfl
def JJ(p:eV)(hs:Sy p): ∀(tl:List dv) (i f:Nat) (out:List Int),p.Frags.drop i=tl->tl.length<f->out.length+16527200*tl.length<=30000000000->m1 p f out (i:Int)=some (out++tl.flatMap Po)
 |[],i,f+1,out,hd,_,_=>by
  have h0:p.Frags.length<=i:=xO.1 hd
  unfold m1
  rw [bk (by simp;omega)];simp
 |e::tl,i,f+1,out,hd,hf,ho=>by
  obtain⟨X,K,h3⟩:=jb hd
  have hlen:=hs.len
  have he:=hs.f e (by rw [eu]at X;exact rC X)
  have hle:=Iq he
  have hc:=he.cols;have hn:=he.len
  simp only [iG,xQ]at hf ho
  unfold m1
  rw [bJ (by simp;omega),X,bG,cd (by simp;omega),bG,yc _ (by omega),bG,cd (by simp [pi];omega),bG,cd (by simp [pi];omega),bG]
  rw [show((0:Int))=((0:Nat):Int)from rfl,JI _ i (by omega) e he e.Nodes 0 dk _ rfl (il (by omega)) (by simp [pi];omega)]
  rw [show(out++[IntKind.u8.wrap e.At,IntKind.u8.wrap e.Way]++Nq e.Cols++[IntKind.u8.wrap (e.Nodes.length:Int)])++e.Nodes.flatMap tQ=out++Po e by simp [Po]]
  rw [JJ p hs tl (i+1) f _ h3 (by omega) (by simp;omega),pe,zt]
def Tl(p:eV)(hs:Sy p):wQ p=some (Tz p):=by
 have:=hs.len
 exact JJ p hs p.Frags 0 dk [IntKind.u8.wrap (p.Frags.length:Int)] rfl (il (by omega)) (by simp;omega)
structure SmR(l:List (List aC)):Prop where
 len:l.length<=10
 r: ∀r∈l,r.length<=20/\ ∀v∈r,v.S.length<=100
def Ec{f:dv}(h:SQ f):om f.Nodes:=by
 refine⟨by have:=h.len;omega,fun n hn=>?_⟩
 have k:=h.n n hn
 have:=k.cond.len;have:=k.kinds;have:=k.keys;have:=k.order;have:=k.items;have:=k.aggs
 exact⟨by omega,by omega,by omega,by omega,by omega,by omega,fun g Y=>by have:=(k.arg g Y).len;omega,fun e he=>by have:=(k.item e he).len;omega⟩
def Pd(ns:List tV):Bool:=match jV ns with
 |some r=>r.2.2==0
 |none=>false
def CB(c:Int):Bool:=decide (c<0)||decide (16<=c)
def wr(f:dv):Bool:=Pd f.Nodes&&((f.At==1)||(f.At==2))&&((decide (1<=f.Way)&&decide (f.Way<=4))&&decide ((f.Cols.length:Int)<=16)&& !(f.Cols.any CB))
def CY(p:eV):Bool:=(decide ((1:Int)<=(p.Frags.length:Int))&&decide ((p.Frags.length:Int)<=30))&&p.Frags.all wr
def yp{f:dv}(h:SQ f): ∃out w e,jV f.Nodes=some (out,w,e)/\((e=0/\Pd f.Nodes=true/\(∀n∈f.Nodes,VN n)/\pJ f.Nodes=some (out,-1))\/(e=291/\Pd f.Nodes=false/\ ∃a:Nat,pJ f.Nodes=some ([],(a:Int)))):=by
 obtain⟨out,w,e,X,K⟩:=ME (Ec h)
 refine⟨out,w,e,X,?_⟩
 rcases K with⟨e0,_,h3,_⟩|⟨e0,_,h3⟩
 ·subst e0
  exact .inl ⟨rfl,by unfold Pd;rw [X];rfl,SF (Ec h) X,h3⟩
 ·subst e0
  exact .inr ⟨rfl,by unfold Pd;rw [X];rfl,h3⟩
def IP{p q:Bool}{x:Option Bool}(h:x=some q):(if p=true then(x.bind fun r=>some (!r))else some false)=some (p&& !q):=by
 subst h
 cases p<;>rfl
def EQ(p:eV): ∀l:List dv,(∀f∈l,SQ f)->oR p l=some ((decide ((1:Int)<=(p.Frags.length:Int))&&decide ((p.Frags.length:Int)<=30))&&l.all wr)
 |[],_=>by unfold oR;simp
 |f::l,hs=>by
  obtain⟨out,w,e,X,K⟩:=yp (hs f (qa ..))
  have hk:Pd f.Nodes=(e==0):=by unfold Pd;rw [X]
  unfold oR
  rw [X,bG,lj (f:=rU) (g:=CB) (fun _=>rfl)]
  have D:=IP (p:=((decide ((1:Int)<=f.Way))&&(decide (f.Way<=(4:Int))))&&(decide ((f.Cols.length:Int)<=(16:Int)))) (rfl:some (f.Cols.any CB)=some (f.Cols.any CB))
  rw [D,bG,EQ p l fun x V=>hs x (ry _ V)]
  have V:(((e !=(0:Int))||(!((f.At==(1:Int))||(f.At==(2:Int)))))||(!((((decide ((1:Int)<=f.Way))&&(decide (f.Way<=(4:Int))))&&(decide ((f.Cols.length:Int)<=(16:Int))))&& !(f.Cols.any CB))))= !(wr f):=by
   unfold wr
   rw [hk]
   simp only [bne,Bool.not_and,Bool.not_not]
  show(if _ then _ else _)=_
  rw [V,zB]
  cases wr f<;>simp
def Bu(p:eV)(hs:Sy p):pV p=some (CY p):=EQ p p.Frags hs.f
def JG(nx:Int->Option Bool)(i:Nat)(hi:i<=1000)(e:dv)(hs:SQ e): ∀(tl:List Int) (k f:Nat),e.Cols.drop k=tl->tl.length<f->oF nx (i:Int) e f (k:Int)=if(tl.any CB|| !(Pd e.Nodes))=true then some false else nx ((i+1:Nat):Int)
 |[],k,f+1,hd,_=>by
  have h0:e.Cols.length<=k:=xO.1 hd
  obtain⟨out,w,er,X,K⟩:=yp hs
  unfold oF
  rw [bk (by simp;omega),ta (by omega)]
  rcases K with⟨_,h3,_,h4⟩|⟨_,h3,a,h4⟩
  ·rw [h4,h3,bG,bk (by simp)];simp
  ·rw [h4,h3,bG,bJ (by simp)];simp
 |c::tl,k,f+1,hd,hf=>by
  obtain⟨X,K,h3⟩:=jb hd
  have hlen:=hs.cols
  simp only [iG]at hf
  unfold oF
  rw [bJ (by simp;omega),X,bG]
  have hc:((decide (c<(0:Int)))||(decide ((15:Int)<c)))=CB c:=by
   unfold CB
   rw [AJ];simp;omega
  rw [hc,List.any_cons]
  cases CB c with
  |true=>simp
  |false=>rw [bk (by simp),ta (by omega),JG nx i hi e hs tl (k+1) f h3 (by omega),vE]
def JH(p:eV)(hs:Sy p): ∀(tl:List dv) (i f:Nat),p.Frags.drop i=tl->tl.length<f->m3 p f (i:Int)=some (tl.all wr)
 |[],i,f+1,hd,_=>by
  have h0:p.Frags.length<=i:=xO.1 hd
  unfold m3
  rw [bk (by simp;omega)];rfl
 |e::tl,i,f+1,hd,hf=>by
  obtain⟨X,K,h3⟩:=jb hd
  have hlen:=hs.len
  have he:=hs.f e (by rw [eu]at X;exact rC X)
  have hc:=he.cols
  simp only [iG]at hf
  unfold m3
  rw [bJ (by simp;omega),X,bG,zB]
  by_cases H:(((((e.At !=(1:Int))&&(e.At !=(2:Int)))||(decide (e.Way<(1:Int))))||(decide ((4:Int)<e.Way)))||(decide ((16:Int)<(e.Cols.length:Int))))=true
  ·rw [bJ H]
   have:wr e=false:=by
    unfold wr
    rw [AX]
    intro hh
    simp at H hh
    omega
   rw [this];rfl
  ·rw [bk H,show((0:Int))=((0:Nat):Int)from rfl,JG _ i (by omega) e he e.Cols 0 dk rfl (il (by omega)),JH p hs tl (i+1) f h3 (by omega)]
   have V:wr e= !(e.Cols.any CB|| !(Pd e.Nodes)):=by
    unfold wr
    have h5:((e.At==(1:Int))||(e.At==(2:Int)))=true:=by simp at H ⊢;omega
    have h6:((decide (1<=e.Way)&&decide (e.Way<=4))&&decide ((e.Cols.length:Int)<=16))=true:=by simp at H ⊢;omega
    rw [h5,h6]
    cases e.Cols.any CB<;>cases Pd e.Nodes<;>rfl
   rw [V]
   cases (e.Cols.any CB|| !(Pd e.Nodes))<;>simp
def HW(p:eV)(hs:Sy p):wT p=some (CY p):=by
 have:=hs.len
 unfold wT CY
 have X:=JH p hs p.Frags 0 dk rfl (il (by omega))
 rw [show((0:Int))=((0:Nat):Int)from rfl,X]
 by_cases h:((decide ((p.Frags.length:Int)<(1:Int)))||(decide ((30:Int)<(p.Frags.length:Int))))=true
 ·rw [bJ h]
  have:(decide ((1:Int)<=(p.Frags.length:Int))&&decide ((p.Frags.length:Int)<=30))=false:=by
   rw [AX];intro hh;simp at h hh;omega
  rw [this];rfl
 ·rw [bk h]
  have:(decide ((1:Int)<=(p.Frags.length:Int))&&decide ((p.Frags.length:Int)<=30))=true:=by simp at h ⊢;omega
  rw [this];rfl
def TL{p:eV}(hs:Sy p)(h:CY p=true): ∀f∈p.Frags,∀n∈f.Nodes,VN n:=fun f hf=>by
 unfold CY at h
 rw [pt]at h
 have X:=mo.1 h.2 f hf
 unfold wr at X
 simp only [pt]at X
 obtain⟨out,w,e,K,h3⟩:=yp (hs.f f hf)
 rcases h3 with⟨_,_,h4,_⟩|⟨_,h4,_⟩
 ·exact h4
 ·rw [h4]at X;exact absurd X.1.1 (by simp)
end Go.Proofs.YtdohlidddcgfjaaGreat


/- cE of this claim: G6. -/
set_option linter.all false
namespace Go.Proofs.YtdohlidddcgfjaaGreat
open Go

def yj: ∀l:List av,kN l=some true\/(kN l=some false/\ ∀n∈l,n.Value.S.length<=100)
 |[]=> .inr ⟨rfl,fun n hn=>by cases hn⟩
 |x::l=>by
  unfold kN
  by_cases h:(decide ((100:Int)<(x.Value.S.length:Int)))=true
  ·rw [bJ h];exact .inl rfl
  ·rw [bk h]
   refine(yj l).imp id fun⟨X,K⟩=>⟨X,fun n hn=>?_⟩
   rcases kj.1 hn with rfl|hn
   ·simp at h;omega
   ·exact K n hn
def Aj(e:aW):lV e=some true\/(lV e=some false/\PB e):=by
 unfold lV
 by_cases h:(decide ((100:Int)<(e.Nodes.length:Int)))=true
 ·rw [bJ h];exact .inl rfl
 ·rw [bk h]
  exact(yj e.Nodes).imp id fun⟨X,K⟩=>⟨X,by simp at h;omega,K⟩
def xr(nx:Option Bool): ∀l:List fU,iO nx l=some true\/(iO nx l=nx/\ ∀a∈l,PB a.Arg)
 |[]=> .inr ⟨rfl,fun n hn=>by cases hn⟩
 |x::l=>by
  unfold iO
  rcases Aj x.Arg with h|⟨h,hs⟩
  ·rw [h,bG,bJ rfl];exact .inl rfl
  ·rw [h,bG,bk (by simp)]
   refine(xr nx l).imp id fun⟨X,K⟩=>⟨X,fun n hn=>?_⟩
   rcases kj.1 hn with rfl|hn
   ·exact hs
   ·exact K n hn
def xu(nx:Option Bool)(e:tV): ∀l:List aW,jX nx e l=some true\/(jX nx e l=iO nx e.Aggs/\ ∀a∈l,PB a)
 |[]=> .inr ⟨rfl,fun n hn=>by cases hn⟩
 |x::l=>by
  unfold jX
  rcases Aj x with h|⟨h,hs⟩
  ·rw [h,bG,bJ rfl];exact .inl rfl
  ·rw [h,bG,bk (by simp)]
   refine(xu nx e l).imp id fun⟨X,K⟩=>⟨X,fun n hn=>?_⟩
   rcases kj.1 hn with rfl|hn
   ·exact hs
   ·exact K n hn
def xv: ∀l:List tV,fC l=some true\/(fC l=some false/\ ∀n∈l,MB n)
  |[]=> .inr ⟨rfl,fun n hn=>by cases hn⟩
  | x :: l => by
    unfold fC
    by_cases hc:(!(((((decide ((20:Int)<(x.Kinds.length:Int)))||(decide ((20:Int)<(x.Keys.length:Int))))||(decide ((20:Int)<(x.Order.length:Int))))||(decide ((20:Int)<(x.Items.length:Int))))||(decide ((20:Int)<(x.Aggs.length:Int)))))=true
    · rw [bJ hc]
      rcases Aj x.Cond with h|⟨h,hs⟩
      · rw [h,bG,bG,bJ rfl];exact .inl rfl
      · rw [h,bG,bG,bk (by simp)]
        rcases xu (fC l) x x.Items with K|⟨K,h3⟩
        · exact .inl K
        · rw [K]
          rcases xr (fC l) x.Aggs with h4|⟨h4,h5⟩
          · exact .inl h4
          · rw [h4]
            refine(xv l).imp id fun⟨h6,h7⟩=>⟨h6,fun n hn=>?_⟩
            rcases kj.1 hn with rfl|hn
            · simp at hc
              exact⟨by omega,by omega,by omega,by omega,by omega,hs,h3,h5⟩
            · exact h7 n hn
    · rw [bk hc,bG,bJ rfl];exact .inl rfl
def JW(l:List tV):ov l=some true\/(ov l=some false/\l.length<=70/\ ∀n∈l,MB n):=by
 unfold ov
 by_cases h:(decide ((70:Int)<(l.length:Int)))=true
 ·rw [bJ h];exact .inl rfl
 ·rw [bk h]
  exact(xv l).imp id fun⟨X,K⟩=>⟨X,by simp at h;omega,K⟩
def yi: ∀l:List dv,kM l=some true\/(kM l=some false/\ ∀f∈l,SQ f)
 |[]=> .inr ⟨rfl,fun n hn=>by cases hn⟩
 |x::l=>by
  unfold kM
  by_cases hc:(!(decide ((40:Int)<(x.Cols.length:Int))))=true
  ·rw [bJ hc]
   rcases JW x.Nodes with h|⟨h,X,K⟩
   ·rw [h,bG,bG,bJ rfl];exact .inl rfl
   ·rw [h,bG,bG,bk (by simp)]
    refine(yi l).imp id fun⟨h6,h7⟩=>⟨h6,fun n hn=>?_⟩
    rcases kj.1 hn with rfl|hn
    ·exact⟨by simp at hc;omega,X,K⟩
    ·exact h7 n hn
  ·rw [bk hc,bG,bJ rfl];exact .inl rfl
def LC(p:eV):pT p=some true\/(pT p=some false/\Sy p):=by
 unfold pT
 by_cases h:(decide ((40:Int)<(p.Frags.length:Int)))=true
 ·rw [bJ h];exact .inl rfl
 ·rw [bk h]
  exact(yi p.Frags).imp id fun⟨X,K⟩=>⟨X,by simp at h;omega,K⟩
structure SmM(m:rY):Prop where
 p:Sy m.Plan
 r:SmR m.Packet.Batch.Rows
def S8:yo=some true:=by kernel_rfl
def CD(b:List Int):tm b b=some true:=by unfold tm;simp
end Go.Proofs.YtdohlidddcgfjaaGreat


/- cE of this claim: H1. -/
set_option linter.all false
namespace Go.Proofs.YtdohlidddcgfjaaGreat
open Go

def Bt{n:Nat}(h:n<=900000000):n<dk:=by unfold dk;omega
def rd(b:List Int)(k:Nat)(y:Int):an:=⟨⟨(k:Int),y⟩,b⟩
def yQ(b:List Int)(k:Nat)(y:Int):iX (rd b k y)=some y:=by unfold iX;simp [rd]
def BY{b:List Int}{k:Nat}(y:Int)(hk:k<=b.length)(H:b.length<=50000000000):iu (rd b k y)=some ((b.length-k:Nat):Int):=by
 unfold iu
 simp only [rd,r0,oV]
 rw [rF];congr 1;omega
def Ns{α:Type}{b tl:List α}{k:Nat}{e:α}(h:b.drop k=e::tl):gB b (k:Int)=some e:=dJ h
def Hh{α:Type}{b:List α}{k:Nat}(h:k<b.length): ∃e,b.drop k=e::b.drop (k+1):=⟨b[k],AO h⟩
def Ea{i:Nat}(h:i<=50000000000):IntKind.i64.wrap ((i:Int)+1)=((i+1:Nat):Int):=by rw [rF];omega
def Vs(x c:Int):Int:=IntKind.u64.wrap ((IntKind.u64.wrap (x*2^(min (Int.toNat (8:Int)) IntKind.u64.bits)))+(IntKind.u64.wrap c))
def Rf{b:List Int}(H:b.length<=50000000000): ∀(m n i k f:Nat) (x:Int),i+m=n->n<=50000000000->k+m<=b.length->m<f->
  gw (n:Int) f (i:Int) x (rd b k 0)=some (rd b (k+m) 0,((b.drop k).take m).foldl Vs x)
 |0,n,i,k,f+1,x,X,_,_,_=>by
  unfold gw
  rw [bk (by rw [mp];omega)]
  simp
 |m+1,n,i,k,f+1,x,X,hn,K,h3=>by
  obtain⟨e,he⟩:=Hh (b:=b) (k:=k) (by omega)
  unfold gw
  rw [bJ (by rw [mp];omega)]
  have e1:gB (rd b k 0).own (rd b k 0).place.at_=some e:=Ns he
  rw [e1,bG]
  show(some (Vs x e)).bind _=_
  rw [bG,Ea (by omega)]
  have e2:({rd b k 0 with place:=({(rd b k 0).place with at_:=IntKind.i64.wrap ((rd b k 0).place.at_+1)}:na)}:an)=rd b (k+1) 0:=by
   show(⟨⟨IntKind.i64.wrap ((k:Int)+1),0⟩,b⟩:an)=_
   rw [Ea (by omega)];rfl
  rw [e2,Rf H m n (i+1) (k+1) f (Vs x e) (by omega) hn (by omega) (by omega),he,show k+1+m=k+(m+1)from by omega]
  rfl
def Gs{b:List Int}{k n:Nat}(y:Int)(hk:k<=b.length)(H:b.length<=900000000):cL (rd b k y) (n:Int)=
  some (if y≠0 then(0,rd b k y)else if b.length-k<n then(0,rd b k 7)else(((b.drop k).take n).foldl Vs 0,rd b (k+n) 0)):=by
 unfold cL o9
 by_cases hy:y=0
 ·subst hy
  rw [bk (by simp [rd]),bk (by rw [mp];omega),BY 0 hk (by omega),bG]
  by_cases hn:b.length-k<n
  ·rw [bJ (by rw [mp];omega),bk (by simp),bJ hn];rfl
  ·rw [bk (by rw [mp];omega),bk (by simp),bk hn]
   have:=Rf (b:=b) (by omega) n n 0 k dk 0 (by omega) (by omega) (by omega) (Bt (by omega))
   rw [show((0:Nat):Int)=(0:Int)from rfl]at this
   rw [this];rfl
 ·rw [bJ (by simp [rd,hy]),bJ hy];rfl
def Rg{b:List Int}(H:b.length<=50000000000): ∀(m n i k f:Nat) (x:List Int),i+m=n->n<=50000000000->k+m<=b.length->m<f->x.length+m<=60000000000->
  gv (n:Int) f (i:Int) x (rd b k 0)=some (rd b (k+m) 0,x++(b.drop k).take m)
 |0,n,i,k,f+1,x,X,_,_,_,_=>by
  unfold gv
  rw [bk (by rw [mp];omega)]
  simp
 |m+1,n,i,k,f+1,x,X,hn,K,h3,h4=>by
  obtain⟨e,he⟩:=Hh (b:=b) (k:=k) (by omega)
  unfold gv
  rw [bJ (by rw [mp];omega)]
  have e1:gB (rd b k 0).own (rd b k 0).place.at_=some e:=Ns he
  rw [e1,bG]
  unfold q5
  rw [cd (by simp;omega),bG,bG,Ea (by omega)]
  have e2:({rd b k 0 with place:=({(rd b k 0).place with at_:=IntKind.i64.wrap ((rd b k 0).place.at_+1)}:na)}:an)=rd b (k+1) 0:=by
   show(⟨⟨IntKind.i64.wrap ((k:Int)+1),0⟩,b⟩:an)=_
   rw [Ea (by omega)];rfl
  rw [e2,Rg H m n (i+1) (k+1) f (x++[e]) (by omega) hn (by omega) (by omega) (by simp;omega),he,show k+1+m=k+(m+1)from by omega,pe]
  rfl
def IR{b:List Int}{k n:Nat}(y:Int)(hk:k<=b.length)(H:b.length<=900000000):jW (rd b k y) (n:Int)=
  some (if y≠0 then([],rd b k y)else if b.length-k<n then([],rd b k 7)else((b.drop k).take n,rd b (k+n) 0)):=by
 unfold jW o8
 by_cases hy:y=0
 ·subst hy
  rw [bk (by simp [rd]),bk (by rw [mp];omega),BY 0 hk (by omega),bG]
  by_cases hn:b.length-k<n
  ·rw [bJ (by rw [mp];omega),bk (by simp),bJ hn];rfl
  ·rw [bk (by rw [mp];omega),bk (by simp),bk hn]
   have:=Rg (b:=b) (by omega) n n 0 k dk [] (by omega) (by omega) (by omega) (Bt (by omega)) (by simp;omega)
   rw [show((0:Nat):Int)=(0:Int)from rfl]at this
   rw [this];rfl
 ·rw [bJ (by simp [rd,hy]),bJ hy];rfl
def bn:List Int->Int
 |[]=>0
 |c::l=>c*256^l.length+bn l
def So{c:Int}{l:List Int}(h:vV (c::l)):(∃n:Nat,n<256/\c=(n:Int))/\vV l:=⟨h c (.head _),fun x V=>h x (.tail _ V)⟩
def Wk{x c:Int}(V:0<=x)(hx' :x<256^7)(hc:0<=c)(hc' :c<256):Vs x c=x*256+c:=by
 unfold Vs
 rw [show(2:Int)^(min (Int.toNat (8:Int)) IntKind.u64.bits)=256 from rfl,xL,xL,xL]
 omega
def Ko: ∀(l:List Int) (x:Int) (j:Nat),vV l->0<=x->x<256^j->j+l.length<=8->l.foldl Vs x=x*256^l.length+bn l
 |[],x,_,_,_,_,_=>by show x=x*256^0+0;rw [Int.pow_zero,Int.mul_one,Int.add_zero]
 |c::l,x,j,h,h0,V,hj=>by
  obtain⟨⟨n,X,rfl⟩,K⟩:=So h
  have h7:x<256^7:=by
   have h8:(256:Int)^j<=256^7:=by
    have:(256:Nat)^j<=256^7:=Nat.pow_le_pow_right (by omega) (by simp at hj;omega)
    have h9:((256:Nat):Int)^j<=((256:Nat):Int)^7:=by rw [<-Int.natCast_pow,<-Int.natCast_pow];exact Int.ofNat_le.2 this
    exact h9
   omega
  rw [List.foldl_cons,Wk h0 h7 (by omega) (by omega),Ko l (x*256+n) (j+1) K (by omega) (by rw [Int.pow_succ];omega) (by simp at hj ⊢;omega)]
  simp only [bn,iG,Int.pow_succ]
  rw [Int.add_mul,Int.mul_assoc,Int.mul_comm 256 (256^l.length),Int.add_assoc]
def TR{l:List Int}(h:vV l)(hl:l.length<=8):l.foldl Vs 0=bn l:=by
 have:=Ko l 0 0 h (by omega) (by rw [Int.pow_zero];omega) (by omega)
 rw [Int.zero_mul,Int.zero_add]at this;exact this
def Fl{l:List Int}(h:vV l)(k:Nat):vV (l.drop k):=fun x V=>h x (List.mem_of_mem_drop V)
def Sn{l:List Int}(h:vV l)(k:Nat):vV (l.take k):=fun x V=>h x (List.mem_of_mem_take V)
end Go.Proofs.YtdohlidddcgfjaaGreat


/- cE of this claim: H2. -/
set_option linter.all false
namespace Go.Proofs.YtdohlidddcgfjaaGreat
open Go

class IZ(ρ:Type) where
 inv:List Int->ρ->Prop
 bad:ρ->Bool
instance rstR:IZ be:=⟨fun b r=>r.all=b,fun r=>r.bad⟩
instance rstT:IZ ea:=⟨fun b t=>t.all=(b.length:Int),fun t=>t.bad⟩
variable{ρ:Type} [IZ ρ]
def Ok(b:List Int)(k:Nat)(r:ρ)(o:an):Prop:=IZ.inv b r/\IZ.bad r=false/\o=rd b k 0/\k<=b.length
def No(b:List Int)(r:ρ)(o:an):Prop:=IZ.inv b r/\ ∃k y,o=rd b k y/\k<=b.length/\(IZ.bad r=true\/y≠0)
abbrev Pr(α:Type):=List Int->Option (α×List Int)
def Oe(b:List Int){α:Type}(q:Option (α×List Int))(x:α)(r:ρ)(o:an):Prop:=
 match q with
 |some (v,rest)=>x=v/\ ∃k,Ok b k r o/\b.drop k=rest
 |none=>No b r o
structure Rd(b:List Int){α:Type}(f:ρ->an->Option (α×ρ×an))(p:Pr α):Prop where
 ok: ∀k r o,Ok b k r o-> ∃x r' o',f r o=some (x,r',o')/\Oe b (p (b.drop k)) x r' o'
 no: ∀r o,No b r o-> ∃x r' o',f r o=some (x,r',o')/\No b r' o'
def ge{α β:Type}(p:Pr α)(q:α->Pr β):Pr β:=fun l=>(p l).bind fun u=>q u.1 u.2
def w4{α β:Type}(h:α->β)(p:Pr α):Pr β:=fun l=>(p l).map fun u=>(h u.1,u.2)
def Rd.congr{b:List Int}{α:Type}{f g:ρ->an->Option (α×ρ×an)}{p:Pr α}(h:Rd b f p)(e: ∀r o,g r o=f r o):Rd b g p:=
 ⟨fun k r o hk=>by rw [e];exact h.ok k r o hk,fun r o hn=>by rw [e];exact h.no r o hn⟩
def Rd.bind{b:List Int}{α β:Type}{f:ρ->an->Option (α×ρ×an)}{p:Pr α}{g:α->ρ->an->Option (β×ρ×an)}{q:α->Pr β}(hf:Rd b f p)(Y: ∀x,Rd b (g x) (q x)):
  Rd b (fun r o=>(f r o).bind fun u=>g u.1 u.2.1 u.2.2) (ge p q):=by
 refine⟨fun k r o hk=>?_,fun r o hn=>?_⟩
 ·obtain⟨x,r1,o1,X,K⟩:=hf.ok k r o hk
  rw [X,bG]
  unfold Oe at K
  unfold ge
  cases hp:p (b.drop k)with
  |none=>
   rw [hp]at K
   obtain⟨y,r2,o2,h3,h4⟩:=(Y x).no r1 o1 K
   exact⟨y,r2,o2,h3,h4⟩
  |some v=>
   rw [hp]at K
   obtain⟨rfl,k1,h3,h4⟩:=K
   obtain⟨y,r2,o2,h5,h6⟩:=(Y v.1).ok k1 r1 o1 h3
   rw [h4]at h6
   exact⟨y,r2,o2,h5,h6⟩
 ·obtain⟨x,r1,o1,X,K⟩:=hf.no r o hn
  rw [X,bG]
  exact(Y x).no r1 o1 K
def N4{b:List Int}{α:Type}(x:α):Rd b (fun(r:ρ) o=>some (x,r,o)) (fun l=>some (x,l)):=
 ⟨fun k r o hk=>⟨x,r,o,rfl,rfl,k,hk,rfl⟩,fun r o hn=>⟨x,r,o,rfl,hn⟩⟩
def Rd.map{b:List Int}{α β:Type}{f:ρ->an->Option (α×ρ×an)}{p:Pr α}(h:α->β)(hf:Rd b f p):
  Rd b (fun r o=>(f r o).bind fun u=>some (h u.1,u.2.1,u.2.2)) (w4 h p):=by
 have:=hf.bind (g:=fun x r o=>some (h x,r,o)) (q:=fun x l=>some (h x,l)) fun x=>N4 (h x)
 have e:w4 h p=ge p (fun x l=>some (h x,l)):=by
  funext l;unfold w4 ge;cases p l<;>rfl
 rw [e];exact this
def J7{b:List Int}{k:Nat}{r:be}{o:an}(h:Ok b k r o):d8 r o=some true:=by
 obtain⟨_,K,rfl,_⟩:=h
 have K:r.bad=false:=K
 unfold d8
 rw [K,bJ (show(!false)=true from rfl),yQ];rfl
def J8{b:List Int}{r:be}{o:an}(h:No b r o):d8 r o=some false:=by
 obtain⟨_,k,y,rfl,_,K⟩:=h
 have K:r.bad=true\/y≠0:=K
 unfold d8
 cases H:r.bad with
 |true=>simp
 |false=>
  have hy:y≠0:=by rcases K with h|h;rw [H]at h;cases h;exact h
  rw [bJ (show(!false)=true from rfl),yQ]
  simp [hy]
def Q5{b:List Int}{k:Nat}{r:ea}{o:an}(h:Ok b k r o):hT r o=some true:=by
 obtain⟨_,K,rfl,_⟩:=h
 have K:r.bad=false:=K
 unfold hT
 rw [K,bJ (show(!false)=true from rfl),yQ];rfl
def Q6{b:List Int}{r:ea}{o:an}(h:No b r o):hT r o=some false:=by
 obtain⟨_,k,y,rfl,_,K⟩:=h
 have K:r.bad=true\/y≠0:=K
 unfold hT
 cases H:r.bad with
 |true=>simp
 |false=>
  have hy:y≠0:=by rcases K with h|h;rw [H]at h;cases h;exact h
  rw [bJ (show(!false)=true from rfl),yQ]
  simp [hy]
structure wD(b:List Int){α E:Type}(I:Nat->E->Prop)(f:E->ρ->an->Option (α×ρ×an×E))(p:E->Pr (α×E)):Prop where
 ok: ∀j e k r o,j<=70000->I j e->Ok b k r o-> ∃x r' o' e',f e r o=some (x,r',o',e')/\I (j+1) e' /\Oe b (p e (b.drop k)) (x,e') r' o'
 no: ∀j e r o,j<=70000->I j e->No b r o-> ∃x r' o' e',f e r o=some (x,r',o',e')/\I (j+1) e' /\No b r' o'
def si{α E:Type}(p:E->Pr (α×E)):Nat->E->Pr (List α×E)
 |0,e,l=>some (([],e),l)
 |n+1,e,l=>(p e l).bind fun u=>(si p n u.1.2 u.2).bind fun v=>some ((u.1.1::v.1.1,v.1.2),v.2)
def Pa{b:List Int}{α E:Type}{I:Nat->E->Prop}{f:E->ρ->an->Option (α×ρ×an×E)}{p:E->Pr (α×E)}(hf:wD b I f p){okf:ρ->an->Option Bool}(ok1: ∀k r o,Ok b k r o->okf r o=some true)(ok0: ∀r o,No b r o->okf r o=some false)(N:Int)(hN:N<=65535)
  {L:Nat->List α->Int->ρ->an->E->Option (List α×ρ×an×E)}
  (hL: ∀fu out x r o e,L (fu+1) out x r o e=if decide (x<N)=true then(okf r o).bind fun c=>if(!c)=true then some (out,r,o,e)else(f e r o).bind fun u=>(app out [u.1]).bind fun out2=>L fu out2 (IntKind.i64.wrap (x+1)) u.2.1 u.2.2.1 u.2.2.2 else some (out,r,o,e)):
  ∀(m i fu:Nat) (out:List α) (k:Nat) (r:ρ) (o:an) (e:E),(i:Int)+m=N->m<fu->out.length<=i->I i e->Ok b k r o->
   ∃ys r' o' e',L fu out i r o e=some (ys,r',o',e')/\Oe b ((si p m e (b.drop k)).map fun u=>((out++u.1.1,u.1.2),u.2)) (ys,e') r' o' :=by
 intro m
 induction m with
 |zero=>
  intro i fu out k r o e X K h3 h4 h5
  cases fu with
  |zero=>omega
  |succ fu=>
   refine⟨out,r,o,e,?_,by simp [si],k,h5,rfl⟩
   rw [hL,bk (by rw [mp];omega)]
 |succ m ih=>
  intro i fu out k r o e X K h3 h4 h5
  cases fu with
  |zero=>omega
  |succ fu=>
   obtain⟨x,r1,o1,e1,g1,g2,g3⟩:=hf.ok i e k r o (by omega) h4 h5
   rw [hL,bJ (by rw [mp];omega),ok1 k r o h5,bG,bk (by simp),g1,bG,cd (by simp;omega),bG,Ea (by omega)]
   unfold si
   unfold Oe at g3
   cases hp:p e (b.drop k)with
   |none=>
    rw [hp]at g3
    cases fu with
    |zero=>omega
    |succ fu=>
     refine⟨out++[x],r1,o1,e1,?_,g3⟩
     rw [hL,ok0 r1 o1 g3]
     split<;>simp
   |some v=>
    obtain⟨⟨v1,v2⟩,v3⟩:=v
    rw [hp]at g3
    obtain⟨hv,k1,g4,g5⟩:=g3
    cases hv
    obtain⟨ys,r2,o2,e2,q1,q2⟩:=ih (i+1) fu (out++[x]) k1 r1 o1 e1 (by omega) (by omega) (by simp;omega) g2 g4
    refine⟨ys,r2,o2,e2,q1,?_⟩
    rw [g5]at q2
    simp only [bG]
    cases hq:si p m e1 v3 with
    |none=>rw [hq]at q2;exact q2
    |some w=>rw [hq]at q2;simpa using q2
def TJ{b:List Int}{α E:Type}{okf:ρ->an->Option Bool}(ok0: ∀r o,No b r o->okf r o=some false)(N:Int){L:Nat->List α->Int->ρ->an->E->Option (List α×ρ×an×E)}{g:E->ρ->an->List α->Int->Nat->Option (List α×ρ×an×E)}
  (hL: ∀fu out x r o e,L (fu+1) out x r o e=if decide (x<N)=true then(okf r o).bind fun c=>if(!c)=true then some (out,r,o,e)else g e r o out x fu else some (out,r,o,e))(fu:Nat)(out:List α)(x:Int)(r:ρ)(o:an)(e:E)(h:No b r o):
  L (fu+1) out x r o e=some (out,r,o,e):=by
 rw [hL,ok0 r o h]
 split<;>simp
end Go.Proofs.YtdohlidddcgfjaaGreat


/- cE of this claim: H3. -/
set_option linter.all false
namespace Go.Proofs.YtdohlidddcgfjaaGreat
open Go

def Kn: ∃n,dk=n+1:=⟨dk-1,by have:=Bt (n:=0) (by omega);omega⟩
def Dx{ρ:Type} [IZ ρ]{b:List Int}{α E:Type}{I:Nat->E->Prop}{f:E->ρ->an->Option (α×ρ×an×E)}{p:E->Pr (α×E)}(hf:wD b I f p){okf:ρ->an->Option Bool}(ok1: ∀k r o,Ok b k r o->okf r o=some true)(ok0: ∀r o,No b r o->okf r o=some false)(N:Int)(hN:N<=65535)(e0:E)(h0:I 0 e0)
  {L:Nat->List α->Int->ρ->an->E->Option (List α×ρ×an×E)}
  (hL: ∀fu out x r o e,L (fu+1) out x r o e=if decide (x<N)=true then(okf r o).bind fun c=>if(!c)=true then some (out,r,o,e)else(f e r o).bind fun u=>(app out [u.1]).bind fun out2=>L fu out2 (IntKind.i64.wrap (x+1)) u.2.1 u.2.2.1 u.2.2.2 else some (out,r,o,e)):
  Rd b (fun r o=>(L dk [] 0 r o e0).bind fun q=>some (q.1,q.2.1,q.2.2.1)) (fun l=>(si p N.toNat e0 l).map fun u=>(u.1.1,u.2)):=by
 refine⟨fun k r o hk=>?_,fun r o hn=>?_⟩
 ·rcases Int.lt_or_le N 0 with hneg|hpos
  ·obtain⟨n,hn⟩:=Kn
   rw [hn,hL,bk (by rw [mp];omega),show N.toNat=0 from by omega]
   exact⟨[],r,o,rfl,rfl,k,hk,rfl⟩
  ·obtain⟨ys,r',o',e',X,K⟩:=Pa hf ok1 ok0 N hN hL N.toNat 0 dk [] k r o e0 (by omega) (Bt (by omega)) (by simp) h0 hk
   rw [show((0:Nat):Int)=(0:Int)from rfl]at X
   rw [X]
   refine⟨ys,r',o',rfl,?_⟩
   cases hq:si p N.toNat e0 (b.drop k)with
   |none=>rw [hq]at K;exact K
   |some w=>
    rw [hq]at K
    obtain⟨h3,h4⟩:=K
    exact⟨by have:=congrArg Prod.fst h3;simpa using this,h4⟩
 ·obtain⟨n,hn'⟩:=Kn
  rw [hn',TJ ok0 N (g:=fun e r o out x fu=>(f e r o).bind fun u=>(app out [u.1]).bind fun out2=>L fu out2 (IntKind.i64.wrap (x+1)) u.2.1 u.2.2.1 u.2.2.2) hL n [] 0 r o e0 hn]
  exact⟨[],r,o,rfl,hn⟩
def pw(n:Nat):Pr Int:=fun l=>if l.length<n then none else some (bn (l.take n),l.drop n)
def wR{ρ:Type}(n:Nat)(r:ρ)(o:an):Option (Int×ρ×an):=(cL o (n:Int)).map fun q=>(q.1,r,q.2)
section
variable{b:List Int}(H:b.length<=900000000)(hby:vV b)
include H hby
def Jl{ρ:Type} [IZ ρ](n:Nat)(hn:n<=8):Rd b (wR (ρ:=ρ) n) (pw n):=by
 refine⟨fun k r o ⟨X,K,h3,h4⟩=>?_,fun r o ⟨X,k,y,h3,h4,h5⟩=>?_⟩
 ·subst h3
  unfold wR pw
  rw [Gs 0 h4 H,bk (by simp),De]
  by_cases h:b.length-k<n
  ·rw [bJ h,bJ h]
   exact⟨0,r,rd b k 7,rfl,X,k,7,rfl,h4,.inr (by decide)⟩
  ·rw [bk h,bk h]
   refine⟨_,r,_,rfl,TR (Sn (Fl hby k) n) (by simp;omega),k+n,⟨X,K,rfl,by omega⟩,by rw [uV]⟩
 ·subst h3
  unfold wR
  rw [Gs y h4 H]
  split
  ·exact⟨_,_,_,rfl,X,k,y,rfl,h4,h5⟩
  ·rename_i hy
   have hbad:IZ.bad r=true:=h5.resolve_right hy
   split
   ·exact⟨_,_,_,rfl,X,k,7,rfl,h4,.inl hbad⟩
   ·exact⟨_,_,_,rfl,X,k+n,0,rfl,by omega,.inl hbad⟩
end
def h8(x:Int):Int:=IntKind.u8.wrap x
def p8:Pr Int:=w4 (fun x=>IntKind.i64.wrap (IntKind.u8.wrap x)) (pw 1)
def nt(r:be)(o:an):Option (Int×be×an):=(bS r o).map fun q=>(q.1,r,q.2)
section
variable{b:List Int}(H:b.length<=900000000)(hby:vV b)
include H hby
def qG:Rd b nt p8:=((Jl H hby 1 (by omega)).map _).congr fun r o=>by
 unfold nt wR bS cY
 rw [show((1:Nat):Int)=1 from rfl]
 cases cL o 1<;>rfl
def Qp{ρ:Type}(r:ρ)(o:an):Option (Int×ρ×an):=(lE o).map fun q=>(IntKind.i64.wrap q.1,r,q.2)
def p16:Pr Int:=w4 (fun x=>IntKind.i64.wrap (IntKind.u16.wrap x)) (pw 2)
def Wq{ρ:Type} [IZ ρ]:Rd b (Qp (ρ:=ρ)) p16:=((Jl H hby 2 (by omega)).map _).congr fun r o=>by
 unfold Qp wR lE
 rw [show((2:Nat):Int)=2 from rfl]
 cases cL o 2<;>rfl
def S9{ρ:Type}(r:ρ)(o:an):Option (Int×ρ×an):=(ql o).map fun q=>(q.1,r,q.2)
def p32:Pr Int:=w4 IntKind.u32.wrap (pw 4)
def Wp{ρ:Type} [IZ ρ]:Rd b (S9 (ρ:=ρ)) p32:=((Jl H hby 4 (by omega)).map _).congr fun r o=>by
 unfold S9 wR ql
 rw [show((4:Nat):Int)=4 from rfl]
 cases cL o 4<;>rfl
def Jo{ρ:Type}(r:ρ)(o:an):Option (Int×ρ×an):=(ia o).map fun q=>(q.1,r,q.2)
def Lh{ρ:Type} [IZ ρ]:Rd b (Jo (ρ:=ρ)) (pw 8):=(Jl H hby 8 (by omega)).congr fun r o=>by
 unfold Jo wR ia
 rw [show((8:Nat):Int)=8 from rfl]
 cases cL o 8<;>rfl
def EB:Pr Bool:=fun l=>(p8 l).bind fun u=>if 1<u.1 then none else some (u.1==1,u.2)
def Nv:Rd b kR EB:=by
 have hs:=qG H hby
 have e: ∀r o,kR r o=(cY o).bind fun r1=>some ((r1.1==(1:Int)),({r with bad:=(r.bad||(decide ((1:Int)<r1.1)))}:be),r1.2):=fun _ _=>rfl
 have u8: ∀r o x r' o',nt r o=some (x,r',o')-> ∃c,cY o=some (c,o')/\r' =r/\x=IntKind.i64.wrap c/\IntKind.u8.wrap c=c:=by
  intro r o x r' o' h
  unfold nt bS cY at h
  unfold cY
  cases hq:cL o 1 with
  |none=>rw [hq]at h;cases h
  |some q=>
   rw [hq]at h
   cases h
   exact⟨_,rfl,rfl,rfl,by rw [zD,zD];omega⟩
 have wc: ∀c,IntKind.u8.wrap c=c->IntKind.i64.wrap c=c:=fun c h=>by rw [zD]at h;rw [rF];omega
 refine⟨fun k r o hk=>?_,fun r o hn=>?_⟩
 ·obtain⟨x,r1,o1,X,K⟩:=hs.ok k r o hk
  obtain⟨c,h3,rfl,rfl,h4⟩:=u8 r o x r1 o1 X
  rw [e,h3,bG]
  rw [wc c h4]at K
  refine⟨_,_,_,rfl,?_⟩
  unfold EB
  unfold Oe at K
  cases hp:p8 (b.drop k)with
  |none=>
   rw [hp]at K
   obtain⟨g1,k',y,g2,g3,g4⟩:=K
   exact⟨g1,k',y,g2,g3,g4.imp (fun(h:r1.bad=true)=>show(r1.bad||_)=true by rw [h];rfl) id⟩
  |some v=>
   rw [hp]at K
   obtain⟨rfl,k',⟨g1,g2,g3,g4⟩,g5⟩:=K
   by_cases h1c:1<v.1
   ·simp only [bG,bJ h1c]
    exact⟨g1,k',0,g3,g4,.inl (show(r1.bad||decide (1<v.1))=true by simp [h1c])⟩
   ·simp only [bG,bk h1c]
    exact⟨rfl,k',⟨g1,(show(r1.bad||decide (1<v.1))=false by rw [show r1.bad=false from g2];simp [h1c]),g3,g4⟩,g5⟩
 ·obtain⟨x,r1,o1,X,K⟩:=hs.no r o hn
  obtain⟨c,h3,rfl,rfl,h4⟩:=u8 r o x r1 o1 X
  rw [e,h3,bG]
  obtain⟨g1,k',y,g2,g3,g4⟩:=K
  exact⟨_,_,_,rfl,g1,k',y,g2,g3,g4.imp (fun(h:r1.bad=true)=>show(r1.bad||_)=true by rw [h];rfl) id⟩
end
def Rd.toE{ρ:Type} [IZ ρ]{b:List Int}{α:Type}{f:ρ->an->Option (α×ρ×an)}{p:Pr α}(h:Rd b f p):wD b (fun _ _=>True) (fun(_:Unit) r o=>(f r o).map fun q=>(q.1,q.2.1,q.2.2,())) (fun _ l=>(p l).map fun u=>((u.1,()),u.2)):=by
 refine⟨fun j e k r o _ _ hk=>?_,fun j e r o _ _ hn=>?_⟩
 ·obtain⟨x,r1,o1,X,K⟩:=h.ok k r o hk
  refine⟨x,r1,o1,(),by rw [X];rfl,trivial,?_⟩
  unfold Oe at K ⊢
  cases hp:p (b.drop k)with
  |none=>rw [hp]at K;exact K
  |some v=>rw [hp]at K;exact⟨by rw [K.1],K.2⟩
 ·obtain⟨x,r1,o1,X,K⟩:=h.no r o hn
  exact⟨x,r1,o1,(),by rw [X];rfl,trivial,K⟩
def pl{α:Type}(p:Pr α):Nat->Pr (List α)
 |0,l=>some ([],l)
 |n+1,l=>(p l).bind fun u=>(pl p n u.2).bind fun v=>some (u.1::v.1,v.2)
def Ib{α:Type}(p:Pr α): ∀(n:Nat) (l:List Int),(si (fun(_:Unit) l=>(p l).map fun u=>((u.1,()),u.2)) n () l).map (fun u=>(u.1.1,u.2))=pl p n l
 |0,_=>rfl
 |n+1,l=>by
  unfold si pl
  cases p l with
  |none=>rfl
  |some u=>
   simp only [xB,bG]
   rw [<-Ib p n u.2]
   cases si (fun(_:Unit) l=>(p l).map fun u=>((u.1,()),u.2)) n () u.2<;>rfl
end Go.Proofs.YtdohlidddcgfjaaGreat


/- cE of this claim: H4. -/
set_option linter.all false
namespace Go.Proofs.YtdohlidddcgfjaaGreat
open Go

variable{ρ:Type} [IZ ρ]
def Vx(r:ρ)(o:an):Option (Int×ρ×an):=(cY o).map fun q=>(IntKind.i64.wrap q.1,r,q.2)
def QP(n:Nat)(r:ρ)(o:an):Option (List Int×ρ×an):=(jW o (n:Int)).map fun q=>(q.1,r,q.2)
def QT(n:Nat):Pr (List Int):=fun l=>if l.length<n then none else some (l.take n,l.drop n)
def Bk(c:Bool)(t:ea)(o:an):Option (Unit×ea×an):=(dx t o c).map fun t' =>((),t',o)
def CW(c:Bool):Pr Unit:=fun l=>if c then some ((),l)else none
def DZ{α:Type}(okf:ρ->an->Option Bool)(x0:α)(f:ρ->an->Option (α×ρ×an))(r:ρ)(o:an):Option (α×ρ×an):=(okf r o).bind fun c=>if c then f r o else some (x0,r,o)
section
variable{b:List Int}(H:b.length<=900000000)(hby:vV b)
include H hby
def Qn:Rd b (Vx (ρ:=ρ)) p8:=((Jl H hby 1 (by omega)).map _).congr fun r o=>by
 unfold Vx wR cY
 rw [show((1:Nat):Int)=1 from rfl]
 cases cL o 1<;>rfl
omit hby in
def WA(n:Nat):Rd b (QP (ρ:=ρ) n) (QT n):=by
 refine⟨fun k r o ⟨X,K,h3,h4⟩=>?_,fun r o ⟨X,k,y,h3,h4,h5⟩=>?_⟩
 ·subst h3
  unfold QP QT
  rw [IR 0 h4 H,bk (by simp),De]
  by_cases h:b.length-k<n
  ·rw [bJ h,bJ h]
   exact⟨[],r,rd b k 7,rfl,X,k,7,rfl,h4,.inr (by decide)⟩
  ·rw [bk h,bk h]
   exact⟨_,r,_,rfl,rfl,k+n,⟨X,K,rfl,by omega⟩,by rw [uV]⟩
 ·subst h3
  unfold QP
  rw [IR y h4 H]
  split
  ·exact⟨_,_,_,rfl,X,k,y,rfl,h4,h5⟩
  ·rename_i hy
   have hbad:IZ.bad r=true:=h5.resolve_right hy
   split
   ·exact⟨_,_,_,rfl,X,k,7,rfl,h4,.inl hbad⟩
   ·exact⟨_,_,_,rfl,X,k+n,0,rfl,by omega,.inl hbad⟩
end
def Ij{b:List Int}(c:Bool):Rd b (Bk c) (CW c):=by
 refine⟨fun k r o ⟨X,K,h3,h4⟩=>?_,fun r o ⟨X,k,y,h3,h4,h5⟩=>?_⟩
 ·subst h3
  have K:r.bad=false:=K
  unfold Bk dx CW
  rw [K,bk (by simp),yQ]
  cases c with
  |true=>exact⟨(),_,_,rfl,rfl,k,⟨X,rfl,rfl,h4⟩,rfl⟩
  |false=>exact⟨(),_,_,rfl,X,k,0,rfl,h4,.inl rfl⟩
 ·subst h3
  have h5:r.bad=true\/y≠0:=h5
  unfold Bk dx
  cases H:r.bad with
  |true=>exact⟨(),_,_,rfl,X,k,y,rfl,h4,.inl rfl⟩
  |false=>
   have hy:y≠0:=by rcases h5 with h|h;rw [H]at h;cases h;exact h
   rw [bk (by simp),yQ]
   exact⟨(),_,_,rfl,X,k,y,rfl,h4,.inr hy⟩
def N3{b:List Int}{α:Type}{okf:ρ->an->Option Bool}(ok1: ∀k r o,Ok b k r o->okf r o=some true)(ok0: ∀r o,No b r o->okf r o=some false)(x0:α){f:ρ->an->Option (α×ρ×an)}{p:Pr α}(hf:Rd b f p):Rd b (DZ okf x0 f) p:=by
 refine⟨fun k r o hk=>?_,fun r o hn=>?_⟩
 ·unfold DZ
  rw [ok1 k r o hk]
  exact hf.ok k r o hk
 ·unfold DZ
  rw [ok0 r o hn]
  exact⟨x0,r,o,rfl,hn⟩
def Ff(v:aC):ea->an->Option (aC×ea×an):=fun t o=>(Bk (kp v) t o).bind fun u=>some (v,u.2.1,u.2.2)
def uy(v:aC):Pr aC:=ge (CW (kp v)) fun _ l=>some (v,l)
def BN{b:List Int}(v:aC):Rd b (Ff v) (uy v):=(Ij _).bind (g:=fun _ t o=>some (v,t,o)) fun _=>N4 v
def v0:aC:=⟨0,0,0,[]⟩
def i64(x:Int):Int:=IntKind.i64.wrap x
def dN(c x:Int):ea->an->Option (aC×ea×an):=Ff ⟨c,x,0,[]⟩
def WI(c:Int)(t:ea)(o:an):Option (aC×ea×an):=(Vx t o).bind fun u=>dN c u.1 u.2.1 u.2.2
def WZ(c:Int)(t:ea)(o:an):Option (aC×ea×an):=(Jo t o).bind fun u=>dN c (i64 u.1) u.2.1 u.2.2
def dS(c:Int)(ac:List Int):ea->an->Option (aC×ea×an):=Ff ⟨c,0,0,sf ac⟩
def Th(c u:Int)(t:ea)(o:an):Option (aC×ea×an):=(DZ hT [] (QP u.toNat) t o).bind fun ac=>dS c ac.1 ac.2.1 ac.2.2
def Tg(c u:Int)(t:ea)(o:an):Option (aC×ea×an):=(Bk (decide (u<=40)) t o).bind fun w=>Th c u w.2.1 w.2.2
def Wr(c:Int)(t:ea)(o:an):Option (aC×ea×an):=(Vx t o).bind fun u=>Tg c u.1 u.2.1 u.2.2
def dU(c u w:Int):ea->an->Option (aC×ea×an):=Ff ⟨c,i64 u,w,[]⟩
def Te(c u:Int)(t:ea)(o:an):Option (aC×ea×an):=(Jo t o).bind fun w=>dU c u w.1 w.2.1 w.2.2
def Wx(c:Int)(t:ea)(o:an):Option (aC×ea×an):=(Jo t o).bind fun u=>Te c u.1 u.2.1 u.2.2
def NY(c:Int):ea->an->Option (aC×ea×an):=if c==1 then WI c else if c==2 then WZ c else if c==3 then Wr c else if c==4 then Wx c else Ff ⟨c,0,0,[]⟩
def Zt(c:Int):Pr aC:=ge p8 fun u=>uy ⟨c,u,0,[]⟩
def Zv(c:Int):Pr aC:=ge (pw 8) fun u=>uy ⟨c,i64 u,0,[]⟩
def QR(c u:Int):Pr aC:=ge (QT u.toNat) fun ac=>uy ⟨c,0,0,sf ac⟩
def QQ(c u:Int):Pr aC:=ge (CW (decide (u<=40))) fun _=>QR c u
def Zs(c:Int):Pr aC:=ge p8 (QQ c)
def M5(c u:Int):Pr aC:=ge (pw 8) fun w=>uy ⟨c,i64 u,w,[]⟩
def Zr(c:Int):Pr aC:=ge (pw 8) (M5 c)
def GS(c:Int):Pr aC:=if c==1 then Zt c else if c==2 then Zv c else if c==3 then Zs c else if c==4 then Zr c else uy ⟨c,0,0,[]⟩
section
variable{b:List Int}(H:b.length<=900000000)(hby:vV b)
include H hby
def Vg(c:Int):Rd b (NY c) (GS c):=by
 have a1:Rd b (WI c) (Zt c):=Rd.bind (g:=fun u=>dN c u) (Qn H hby) fun u=>BN _
 have a2:Rd b (WZ c) (Zv c):=Rd.bind (g:=fun u=>dN c (i64 u)) (Lh H hby) fun u=>BN _
 have a3: ∀u,Rd b (Th c u) (QR c u):=fun u=>Rd.bind (g:=fun ac=>dS c ac) (N3 (fun _ _ _=>Q5) (fun _ _=>Q6) [] (WA H _)) fun ac=>BN _
 have a4: ∀u,Rd b (Tg c u) (QQ c u):=fun u=>Rd.bind (g:=fun _=>Th c u) (Ij _) fun _=>a3 u
 have a5:Rd b (Wr c) (Zs c):=Rd.bind (g:=Tg c) (Qn H hby) a4
 have a6: ∀u,Rd b (Te c u) (M5 c u):=fun u=>Rd.bind (g:=fun w=>dU c u w) (Lh H hby) fun w=>BN _
 have a7:Rd b (Wx c) (Zr c):=Rd.bind (g:=Te c) (Lh H hby) a6
 unfold NY GS
 split
 ·exact a1
 split
 ·exact a2
 split
 ·exact a5
 split
 ·exact a7
 ·exact BN _
end
def pv:Pr aC:=ge p8 fun c=>ge (CW (decide (c<=4))) fun _=>GS c
def MU(c:Int):ea->an->Option (aC×ea×an):=DZ hT ⟨c,0,0,[]⟩ (NY c)
def MT(c:Int)(t:ea)(o:an):Option (aC×ea×an):=(Bk (decide (c<=4)) t o).bind fun u=>MU c u.2.1 u.2.2
def Wo(t:ea)(o:an):Option (aC×ea×an):=(Vx t o).bind fun u=>MT u.1 u.2.1 u.2.2
def ab8(x:Bool):((if x then(0:Int)else 120)==0)=x:=by cases x<;>rfl
def zc(v:aC)(t:ea)(o:an):((iU v).bind fun r=>(dx t o (r==(0:Int))).bind fun t' =>some (v,t',o))=Ff v t o:=by
 rw [uq,bG,ab8]
 unfold Ff Bk
 cases dx t o (kp v)<;>rfl
def YW{o:an}{q:Int×an}(h:cY o=some q):0<=IntKind.i64.wrap q.1:=by
 unfold cY at h
 cases hw:cL o 1 with
 |none=>rw [hw]at h;cases h
 |some w=>
  rw [hw]at h
  cases h
  rw [zD,rF]
  omega
def Qk(t:ea)(o:an):mU t o=Wo t o:=by
 unfold mU Wo Vx
 cases X:cY o with
 |none=>rfl
 |some r=>
  simp only [xB,bG]
  unfold MT Bk
  cases K:dx t r.2 (decide (IntKind.i64.wrap r.1<=4))with
  |none=>rfl
  |some t1=>
   simp only [xB,bG]
   unfold MU DZ
   cases h3:hT t1 r.2 with
   |none=>rfl
   |some c=>
    cases c with
    |false=>rfl
    |true=>
     simp only [bG,ug,r0,oV,mG]
     unfold NY
     generalize IntKind.i64.wrap r.1=k
     by_cases e1:(k==1)=true
     ·rw [bJ e1,bJ e1]
      unfold WI Vx
      cases cY r.2 with
      |none=>rfl
      |some q=>exact zc _ _ _
     rw [bk e1,bk e1]
     by_cases e2:(k==2)=true
     ·rw [bJ e2,bJ e2]
      unfold WZ Jo
      cases ia r.2 with
      |none=>rfl
      |some q=>exact zc _ _ _
     rw [bk e2,bk e2]
     by_cases e3:(k==3)=true
     ·rw [bJ e3,bJ e3]
      unfold Wr Vx
      cases hq:cY r.2 with
      |none=>rfl
      |some q=>
       simp only [xB,bG]
       unfold Tg Bk
       cases dx t1 q.2 (decide (IntKind.i64.wrap q.1<=40))with
       |none=>rfl
       |some t2=>
        simp only [xB,bG]
        unfold Th DZ
        cases hT t2 q.2 with
        |none=>rfl
        |some c=>
         cases c with
         |false=>exact zc _ _ _
         |true=>
          simp only [bG,mG]
          unfold QP
          rw [Int.toNat_of_nonneg (YW hq)]
          cases jW q.2 (IntKind.i64.wrap q.1)with
          |none=>rfl
          |some ac=>exact zc _ _ _
     rw [bk e3,bk e3]
     by_cases e4:(k==4)=true
     ·rw [bJ e4,bJ e4]
      unfold Wx Jo
      cases ia r.2 with
      |none=>rfl
      |some q=>
       simp only [xB,bG]
       unfold Te Jo
       cases ia q.2 with
       |none=>rfl
       |some q2=>exact zc _ _ _
     rw [bk e4,bk e4]
     exact zc _ _ _
def Qj{b:List Int}(H:b.length<=900000000)(hby:vV b):Rd b mU pv:=by
 have a1: ∀c,Rd b (MU c) (GS c):=fun c=>N3 (fun _ _ _=>Q5) (fun _ _=>Q6) _ (Vg H hby c)
 have a2: ∀c,Rd b (MT c) (ge (CW (decide (c<=4))) fun _=>GS c):=fun c=>Rd.bind (g:=fun _=>MU c) (Ij _) fun _=>a1 c
 have a3:Rd b Wo pv:=Rd.bind (g:=MT) (Qn H hby) a2
 exact a3.congr Qk
end Go.Proofs.YtdohlidddcgfjaaGreat


/- cE of this claim: H5. -/
set_option linter.all false
namespace Go.Proofs.YtdohlidddcgfjaaGreat
open Go

def Ms{α:Type}{xs ys:List α}(h:xs.length=ys.length):qx xs ys=ys:=by
 unfold qx
 rw [h,uj (eJ _),Nat.min_self,<-h,Hx (eJ _),qC]
def N2{b:List Int}(H:b.length<=900000000):uB b=some (rd b 0 0):=by
 unfold uB
 have h:wG (b.length:Int) (0:Int)=some (List.replicate b.length 0):=by
  unfold wG
  rw [bJ (by omega)];simp
 rw [h,bG,bG,Ms (by simp)]
 rfl
def rj:an:=⟨⟨0,0⟩,[]⟩
def Ga{b:List Int}(H:b.length<=900000000):xg b=some (⟨rj,(b.length:Int),false⟩,rd b 0 0):=by
 unfold xg
 rw [N2 H];rfl
def F7{b:List Int}(H:b.length<=900000000):w7 b=some (⟨rj,b,false⟩,rd b 0 0):=by
 unfold w7
 rw [N2 H];rfl
def Sx{α:Type}(l:List Int)(p:Pr α)(q:α×Int×Int):Prop:=
 match p l with
 |some (v,rest)=> ∃k:Nat,k<=l.length/\q=(v,(k:Int),0)/\rest=l.drop k
 |none=>q.2.2≠0
def OA{l:List Int}(hl:l.length<=900000000){v:aC}{t:ea}{o:an}(h:Oe l (pv l) v t o): ∃q,mi t o v=some q/\Sx l pv q:=by
 unfold Oe at h
 unfold Sx mi
 cases hp:pv l with
 |none=>
  rw [hp]at h
  obtain⟨_,k,y,rfl,K,h3⟩:=h
  have h3:t.bad=true\/y≠0:=h3
  cases H:t.bad with
  |true=>exact⟨_,rfl,show(160:Int)≠0 by decide⟩
  |false=>
   have hy:y≠0:=by rcases h3 with h|h;rw [H]at h;cases h;exact h
   rw [bk (by simp),yQ,bG,bJ (by simpa using hy),bG]
   exact⟨_,rfl,hy⟩
 |some w=>
  rw [hp]at h
  obtain⟨rfl,k,⟨g1,g2,rfl,g4⟩,g5⟩:=h
  have g1:t.all=(l.length:Int):=g1
  have g2:t.bad=false:=g2
  rw [g2,bk (by simp),yQ,bG,bk (by simp),BY 0 g4 (by omega),bG]
  refine⟨_,rfl,k,g4,?_,g5.symm⟩
  rw [g1,rF]
  have:(l.length:Int)-((l.length-k:Nat):Int)=(k:Int):=by omega
  rw [this]
  have:((k:Int)+9223372036854775808)%18446744073709551616-9223372036854775808=(k:Int):=by omega
  simp [this]
def yL{l:List Int}(hl:l.length<=900000000)(hby:vV l): ∃q,qU l=some q/\Sx l pv q:=by
 unfold qU
 rw [Ga hl,bG]
 obtain⟨v,t,o,X,K⟩:=(Qj hl hby).ok 0 ⟨rj,(l.length:Int),false⟩ (rd l 0 0) ⟨rfl,rfl,rfl,by omega⟩
 rw [X,bG]
 obtain⟨q,h3,h4⟩:=OA hl K
 rw [h3]
 exact⟨q,rfl,h4⟩
def M0{b:List Int}(H:b.length<=900000000){r:be}(h:r.all=b){k:Nat}(y:Int)(hk:k<=b.length):pm r (rd b k y)=some (b.drop k):=by
 unfold pm
 rw [BY y hk (by omega),bG,h]
 have e:IntKind.i64.wrap ((b.length:Int)-((b.length-k:Nat):Int))=(k:Int):=by rw [rF];omega
 rw [e]
 have:eX b (k:Int) (b.length:Int)=some (b.drop k):=by
  rw [t7 hk (eJ _),DF]
 rw [this];rfl
def MW{b:List Int}(H:b.length<=900000000){α:Type}{p:Pr α}{q:α×Int×Int}{k:Nat}(hq:Sx (b.drop k) p q):
  (∀r:be,Ok b k r (rd b k 0)-> ∃r' o',kQ r (rd b k 0) q.2.1 q.2.2=some (r',o')/\Oe b (p (b.drop k)) q.1 r' o')/\
  (∀(r:be) (y:Int),k<=b.length->No b r (rd b k y)->(r.bad=true\/y≠0)-> ∃r' o',kQ r (rd b k y) q.2.1 q.2.2=some (r',o')/\No b r' o'):=by
 unfold Sx at hq
 constructor
 ·intro r ⟨X,K,_,h4⟩
  unfold kQ Oe
  cases hp:p (b.drop k)with
  |none=>
   rw [hp]at hq
   rw [bJ (by simpa using hq)]
   exact⟨_,_,rfl,X,k,0,rfl,h4,.inl rfl⟩
  |some w=>
   rw [hp]at hq
   obtain⟨j,hj,rfl,hr⟩:=hq
   rw [De]at hj
   rw [bk (by simp),IR 0 h4 H,bk (by simp),bk (by omega)]
   exact⟨_,_,rfl,rfl,k+j,⟨X,K,rfl,by omega⟩,by rw [hr,uV]⟩
 ·intro r y hk hn hy
  unfold kQ
  split
  ·exact⟨_,_,rfl,hn.1,k,y,rfl,hk,.inl rfl⟩
  ·rename_i he
   cases hp:p (b.drop k)with
   |none=>rw [hp]at hq;exact absurd hq (by simpa using he)
   |some w=>
    rw [hp]at hq
    obtain⟨j,hj,rfl,hr⟩:=hq
    rw [De]at hj
    rw [IR y hk H]
    split
    ·exact⟨_,_,rfl,hn.1,k,y,rfl,hk,hy⟩
    ·rename_i h0
     have hbad:r.bad=true:=hy.resolve_right h0
     split
     ·exact⟨_,_,rfl,hn.1,k,7,rfl,hk,.inl hbad⟩
     ·exact⟨_,_,rfl,hn.1,k+j,0,rfl,by omega,.inl hbad⟩
def Pm{b:List Int}(H:b.length<=900000000)(hby:vV b):Rd b jY pv:=by
 refine⟨fun k r o hk=>?_,fun r o hn=>?_⟩
 ·obtain⟨X,K,rfl,h4⟩:=hk
  obtain⟨q,g1,g2⟩:=yL (l:=b.drop k) (by simp;omega) (Fl hby k)
  obtain⟨r',o',g3,g4⟩:=(MW H g2).1 r ⟨X,K,rfl,h4⟩
  unfold jY
  rw [M0 H X 0 h4,bG,g1,bG,g3]
  exact⟨_,_,_,rfl,g4⟩
 ·have hn' :=hn
  obtain⟨X,k,y,rfl,h4,h5⟩:=hn
  obtain⟨q,g1,g2⟩:=yL (l:=b.drop k) (by simp;omega) (Fl hby k)
  obtain⟨r',o',g3,g4⟩:=(MW H g2).2 r y h4 hn' h5
  unfold jY
  rw [M0 H X y h4,bG,g1,bG,g3]
  exact⟨_,_,_,rfl,g4⟩
end Go.Proofs.YtdohlidddcgfjaaGreat


/- cE of this claim: H6. -/
set_option linter.all false
namespace Go.Proofs.YtdohlidddcgfjaaGreat
open Go

def BX{ρ:Type} [IZ ρ]{b:List Int}{α β:Type}{f:ρ->an->Option (α×ρ×an)}{p:Pr α}{g:α->ρ->an->Option (β×ρ×an)}{q:α->Pr β}(P:α->Prop)(hP: ∀r o x r' o',f r o=some (x,r',o')->P x)(hf:Rd b f p)(Y: ∀x,P x->Rd b (g x) (q x)):
  Rd b (fun r o=>(f r o).bind fun u=>g u.1 u.2.1 u.2.2) (ge p q):=by
 refine⟨fun k r o hk=>?_,fun r o hn=>?_⟩
 ·obtain⟨x,r1,o1,X,K⟩:=hf.ok k r o hk
  have V:=hP _ _ _ _ _ X
  rw [X,bG]
  unfold Oe at K
  unfold ge
  cases hp:p (b.drop k)with
  |none=>
   rw [hp]at K
   obtain⟨y,r2,o2,h3,h4⟩:=(Y x V).no r1 o1 K
   exact⟨y,r2,o2,h3,h4⟩
  |some v=>
   rw [hp]at K
   obtain⟨rfl,k1,h3,h4⟩:=K
   obtain⟨y,r2,o2,h5,h6⟩:=(Y v.1 V).ok k1 r1 o1 h3
   rw [h4]at h6
   exact⟨y,r2,o2,h5,h6⟩
 ·obtain⟨x,r1,o1,X,K⟩:=hf.no r o hn
  rw [X,bG]
  exact(Y x (hP _ _ _ _ _ X)).no r1 o1 K
def ij(x:Int):Prop:=0<=x/\x<=255
def z7{r r' :be}{o o' :an}{x:Int}(h:nt r o=some (x,r',o')):ij x:=by
 unfold nt bS at h
 cases hq:cY o with
 |none=>rw [hq]at h;cases h
 |some q=>
  rw [hq]at h
  cases h
  unfold cY at hq
  cases hw:cL o 1 with
  |none=>rw [hw]at hq;cases hq
  |some w=>
   rw [hw]at hq
   cases hq
   unfold ij
   rw [zD,rF]
   omega
def Ni(N:Int)(r:be)(o:an):Option (List Int×be×an):=(mR r o N).map fun q=>(q.1,r,q.2)
def O6(r:be)(o:an):Option (List Int×be×an):=(iY r o).map fun q=>(q.1,r,q.2)
def M9(N:Int):Pr (List Int):=pl p8 N.toNat
def Lx:Pr (List Int):=ge p8 M9
section
variable{b:List Int}(H:b.length<=900000000)(hby:vV b)
include H hby
def TH(N:Int)(hN:N<=65535):Rd b (Ni N) (M9 N):=by
 have h:=Dx (qG H hby).toE (fun _ _ _=>J7) (fun _ _=>J8) N hN () trivial (L:=fun fu out x r o _=>(iZ r N fu out x o).map fun q=>(q.1,r,q.2,())) (by
  intro fu out x r o e
  cases e
  simp only [iZ]
  by_cases V:decide (x<N)=true
  ·simp only [V,mG]
   cases d8 r o with
   |none=>rfl
   |some c=>
    cases c with
    |false=>rfl
    |true=>
     unfold nt
     simp only [bG,ug,r0,oV]
     cases bS r o with
     |none=>rfl
     |some q=>
      simp only [bG,xB]
      cases app out [q.1]<;>rfl
  ·simp only [V];rfl)
 have e:(fun l=>(si (fun(_:Unit) l=>(p8 l).map fun u=>((u.1,()),u.2)) N.toNat () l).map fun u=>(u.1.1,u.2))=M9 N:=funext fun l=>Ib p8 N.toNat l
 rw [e]at h
 refine h.congr fun r o=>?_
 unfold Ni mR
 cases iZ r N dk [] 0 o<;>rfl
def Rb:Rd b O6 Lx:=by
 have:=BX (g:=Ni) (q:=M9) ij (fun _ _ _ _ _=>z7) (qG H hby) fun x V=>TH H hby x (by unfold ij at V;omega)
 refine this.congr fun r o=>?_
 unfold O6 iY nt Ni
 cases bS r o with
 |none=>rfl
 |some q=>
  simp only [bG,xB]
  cases mR r q.2 q.1<;>rfl
end
def Dq(t:List Int)(D:t.length<=900000000):ox t=some (match t.getLast? with|none=>(-1,t)|some x=>(x,t.dropLast)):=by
 unfold ox
 rcases List.eq_nil_or_concat t with rfl|⟨l,x,rfl⟩
 ·rfl
 ·simp only [List.concat_eq_append]at*
  rw [bk (by simp;omega)]
  have e:IntKind.i64.wrap ((((l++[x]).length:Nat):Int)-1)=(l.length:Int):=by
   rw [rF];simp at D ⊢;omega
  rw [e,eu,xC (eJ _)]
  simp only [xo,Gl,bG]
  rw [show(0:Int)=((0:Nat):Int)from rfl,t7 (oW _) (by simp),bG]
  simp
def wi:Nat->List Int->Option (Int×Int×List Int)
 |0,t=>some (-1,-1,t)
 |1,t=>match t.getLast? with|none=>none|some x=>some (x,-1,t.dropLast)
 |_+2,t=>match t.getLast? with|none=>none|some y=>match t.dropLast.getLast? with|none=>none|some x=>some (x,y,t.dropLast.dropLast)
end Go.Proofs.YtdohlidddcgfjaaGreat


/- cE of this claim: H7. -/
set_option linter.all false
namespace Go.Proofs.YtdohlidddcgfjaaGreat
open Go

section
variable{ρ:Type} [IZ ρ]{b:List Int}{α β E:Type}{I:Nat->E->Prop}
def wD.congr{f g:E->ρ->an->Option (α×ρ×an×E)}{p:E->Pr (α×E)}(h:wD b I f p)(e: ∀j e r o,I j e->g e r o=f e r o):wD b I g p:=
 ⟨fun j x k r o hj hi hk=>by rw [e j x r o hi];exact h.ok j x k r o hj hi hk,fun j x r o hj hi hn=>by rw [e j x r o hi];exact h.no j x r o hj hi hn⟩
def pr{f:ρ->an->Option (α×ρ×an)}{p:Pr α}{g:α->E->ρ->an->Option (β×ρ×an×E)}{q:α->E->Pr (β×E)}(hf:Rd b f p)(Y: ∀x,wD b I (g x) (q x)):
  wD b I (fun e r o=>(f r o).bind fun u=>g u.1 e u.2.1 u.2.2) (fun e=>ge p (fun x=>q x e)):=by
 refine⟨fun j e k r o hj hi hk=>?_,fun j e r o hj hi hn=>?_⟩
 ·obtain⟨x,r1,o1,X,K⟩:=hf.ok k r o hk
  rw [X,bG]
  unfold Oe at K
  unfold ge
  cases hp:p (b.drop k)with
  |none=>
   rw [hp]at K
   obtain⟨y,r2,o2,e2,h3,h3',h4⟩:=(Y x).no j e r1 o1 hj hi K
   exact⟨y,r2,o2,e2,h3,h3',h4⟩
  |some v=>
   rw [hp]at K
   obtain⟨rfl,k1,h3,h4⟩:=K
   obtain⟨y,r2,o2,e2,h5,h5',h6⟩:=(Y v.1).ok j e k1 r1 o1 hj hi h3
   rw [h4]at h6
   exact⟨y,r2,o2,e2,h5,h5',h6⟩
 ·obtain⟨x,r1,o1,X,K⟩:=hf.no r o hn
  rw [X,bG]
  exact(Y x).no j e r1 o1 hj hi K
def tX{f g:E->ρ->an->Option (α×ρ×an×E)}{p q:E->Pr (α×E)}(c:Bool)(hf:wD b I f p)(Y:wD b I g q):
  wD b I (fun e r o=>if c=true then f e r o else g e r o) (fun e=>if c=true then p e else q e):=by
 cases c with
 |true=>exact hf
 |false=>exact Y
end
def Tp(j:Nat)(e:List Int×Int):Prop:=e.2=(j:Int)/\e.1.length<=j/\ ∀x∈e.1,0<=x
def Fo{B:Bool}{x:Int}(h:0<=x):(B||(decide (x<(0:Int))))=B:=by
 rw [Dc (by omega),CM]
def Fn{B:Bool}:(B||(decide ((-1:Int)<(0:Int))))=true:=by
 rw [decide_eq_true (by omega),CL]
def JT(r:be)(o:an){j:Nat}(hj:j<=70000){t:List Int}{a:Int}(hi:Tp j (t,a))(n:Nat)(hn:n<=2):
  ∃L R r' t',cU r o t n a=some (L,R,r',t')/\t'.length<=j+1/\(∀x∈t',0<=x)/\
   (match wi n t with|some u=>L=u.1/\R=u.2.1/\r' =r/\t' =u.2.2++[a]|none=>r' ={r with bad:=true}):=by
 obtain⟨X,K,h3⟩:=hi
 simp only at X K h3
 subst X
 have push: ∀l:List Int,l.length<=j->(∀x∈l,0<=x)->app l [(j:Int)]=some (l++[(j:Int)])/\(l++[(j:Int)]).length<=j+1/\ ∀x∈l++[(j:Int)],0<=x:=by
  intro l hl hp
  refine⟨cd (by simp;omega),by simp;omega,fun x V=>?_⟩
  rcases uW.1 V with V|V
  ·exact hp x V
  ·rw [zW.1 V];omega
 have k2: ∀(L R:Int) (l:List Int) (r:be),l.length<=j->(∀x∈l,0<=x)->jQ (j:Int) R L l r=some (L,R,r,l++[(j:Int)]):=by
  intro L R l r hl hp
  unfold jQ
  rw [(push l hl hp).1];rfl
 have nn: ∀l:List Int,(∀x∈l,0<=x)-> ∀x,l.getLast? =some x->0<=x:=fun l hp x V=>hp x (List.mem_of_getLast? V)
 have dn: ∀l:List Int,(∀x∈l,0<=x)-> ∀x∈l.dropLast,0<=x:=fun l hp x V=>hp x ((List.dropLast_sublist l).subset V)
 unfold cU mh
 match n,hn with
 |0,_=>
  rw [bk (by decide),bk (by decide),k2 _ _ _ _ K h3]
  exact⟨_,_,_,_,rfl,(push t K h3).2.1,(push t K h3).2.2,rfl,rfl,rfl,rfl⟩
 |1,_=>
  rw [bk (by decide),bJ (by decide),Dq t (by omega),bG]
  cases Y:t.getLast? with
  |none=>
   simp only
   rw [k2 _ _ _ _ K h3,Fn]
   refine⟨_,_,_,_,rfl,(push t K h3).2.1,(push t K h3).2.2,?_⟩
   simp only [wi,Y]
  |some x=>
   simp only
   rw [k2 _ _ _ _ (by simp;omega) (dn t h3),Fo (nn t h3 x Y)]
   refine⟨_,_,_,_,rfl,(push t.dropLast (by simp;omega) (dn t h3)).2.1,(push t.dropLast (by simp;omega) (dn t h3)).2.2,?_⟩
   simp only [wi,Y]
   exact⟨trivial,trivial,trivial,trivial⟩
 |2,_=>
  rw [bJ (by decide),Dq t (by omega),bG]
  cases Y:t.getLast? with
  |none=>
   simp only
   rw [bJ (by decide),Dq t (by omega),bG,Y]
   simp only
   rw [k2 _ _ _ _ K h3,Fn]
   refine⟨_,_,_,_,rfl,(push t K h3).2.1,(push t K h3).2.2,?_⟩
   simp only [wi,Y]
  |some y=>
   simp only
   rw [bJ (by decide),Dq t.dropLast (by simp;omega),bG,Fo (nn t h3 y Y)]
   cases hg2:t.dropLast.getLast? with
   |none=>
    simp only
    rw [k2 _ _ _ _ (by simp;omega) (dn t h3),Fn]
    refine⟨_,_,_,_,rfl,(push t.dropLast (by simp;omega) (dn t h3)).2.1,(push t.dropLast (by simp;omega) (dn t h3)).2.2,?_⟩
    simp only [wi,Y,hg2]
   |some x=>
    simp only
    rw [k2 _ _ _ _ (by simp;omega) (dn _ (dn t h3)),Fo (nn _ (dn t h3) x hg2)]
    refine⟨_,_,_,_,rfl,(push t.dropLast.dropLast (by simp;omega) (dn _ (dn t h3))).2.1,(push t.dropLast.dropLast (by simp;omega) (dn _ (dn t h3))).2.2,?_⟩
    simp only [wi,Y,hg2]
    exact⟨trivial,trivial,trivial,trivial⟩
def qB{α:Type}(n:Nat)(h:Int->Int->α)(e:List Int×Int)(r:be)(o:an):Option (α×be×an×List Int×Int):=
 (cU r o e.1 n e.2).bind fun u=>some (h u.1 u.2.1,u.2.2.1,o,u.2.2.2,IntKind.i64.wrap (e.2+1))
def lU{α:Type}(n:Nat)(h:Int->Int->α)(e:List Int×Int):Pr (α×List Int×Int):=fun l=>(wi n e.1).map fun u=>((h u.1 u.2.1,u.2.2++[e.2],e.2+1),l)
def pN{b:List Int}{α:Type}(n:Nat)(hn:n<=2)(h:Int->Int->α):wD b Tp (qB n h) (lU n h):=by
 refine⟨fun j e k r o hj hi hk=>?_,fun j e r o hj hi hN=>?_⟩
 ·obtain⟨t,a⟩:=e
  obtain⟨L,R,r',t',X,K,h3,h4⟩:=JT r o hj hi n hn
  have ha:a=(j:Int):=hi.1
  have hw:IntKind.i64.wrap (a+1)=a+1:=by rw [rF];omega
  unfold qB lU
  simp only
  rw [X,bG]
  refine⟨_,_,_,_,rfl,⟨by simp only;rw [hw,ha];omega,K,h3⟩,?_⟩
  cases hq:wi n t with
  |none=>
   rw [hq]at h4
   simp only at h4
   subst h4
   obtain⟨g1,g2,g3,g4⟩:=hk
   exact⟨g1,k,0,g3,g4,.inl rfl⟩
  |some u=>
   rw [hq]at h4
   obtain⟨rfl,rfl,rfl,rfl⟩:=h4
   exact⟨by simp only;rw [hw],k,hk,rfl⟩
 ·obtain⟨t,a⟩:=e
  obtain⟨L,R,r',t',X,K,h3,h4⟩:=JT r o hj hi n hn
  have ha:a=(j:Int):=hi.1
  have hw:IntKind.i64.wrap (a+1)=a+1:=by rw [rF];omega
  unfold qB
  simp only
  rw [X,bG]
  refine⟨_,_,_,_,rfl,⟨by simp only;rw [hw,ha];omega,K,h3⟩,?_⟩
  have hr:r' =r\/r' ={r with bad:=true}:=by
   cases hq:wi n t with
   |none=>rw [hq]at h4;exact .inr h4
   |some u=>rw [hq]at h4;exact .inl h4.2.2.1
  obtain⟨g1,k,y,g2,g3,g4⟩:=hN
  rcases hr with rfl|rfl
  ·exact⟨g1,k,y,g2,g3,g4⟩
  ·exact⟨g1,k,y,g2,g3,.inl rfl⟩
end Go.Proofs.YtdohlidddcgfjaaGreat


/- cE of this claim: H8. -/
set_option linter.all false
namespace Go.Proofs.YtdohlidddcgfjaaGreat
open Go

def ar(tag:Int):Nat:=if tag==1||tag==2 then 0 else if 12<=tag then 2 else 1
def Sr(x:Int):ar x<=2:=by
 unfold ar;repeat' split
 all_goals omega
def Sq(x:Int):rp x=some (ar x:Int):=by
 unfold rp ar
 by_cases h:(x==1||x==2)=true
 ·rw [bJ h,bJ h];rfl
 ·rw [bk h,bk h]
  by_cases K:(12:Int)<=x
  ·rw [bJ (by simpa using K),bJ K];rfl
  ·rw [bk (by simpa using K),bk K];rfl
def vZ:aC:=⟨0,0,0,[]⟩
def RZ(e:List Int×Int)(r:be)(o:an):Option (av×be×an×List Int×Int):=
 (nt r o).bind fun u=>if(u.1==2)=true then(nt u.2.1 u.2.2).bind fun w=>qB (ar u.1) (fun L R=>⟨u.1,L,R,w.1,vZ⟩) e w.2.1 w.2.2
  else if(u.1==1)=true then(jY u.2.1 u.2.2).bind fun w=>qB (ar u.1) (fun L R=>⟨u.1,L,R,0,w.1⟩) e w.2.1 w.2.2
  else qB (ar u.1) (fun L R=>⟨u.1,L,R,0,vZ⟩) e u.2.1 u.2.2
def pE(e:List Int×Int):Pr (av×List Int×Int):=
 ge p8 fun x=>if(x==2)=true then ge p8 fun c=>lU (ar x) (fun L R=>⟨x,L,R,c,vZ⟩) e
  else if(x==1)=true then ge pv fun v=>lU (ar x) (fun L R=>⟨x,L,R,0,v⟩) e
  else lU (ar x) (fun L R=>⟨x,L,R,0,vZ⟩) e
def Ey(N:Int):Pr (List av):=fun l=>(si pE N.toNat ([],0) l).map fun u=>(u.1.1,u.2)
def Bd:Pr aW:=ge p16 fun n=>w4 aW.mk (Ey n)
def S6(x:Int):Prop:=0<=x/\x<=65535
def Qo{ρ:Type}{r r' :ρ}{o o' :an}{x:Int}(h:Qp r o=some (x,r',o')):S6 x:=by
 unfold Qp lE at h
 cases hw:cL o 2 with
 |none=>rw [hw]at h;cases h
 |some w=>
  rw [hw]at h
  cases h
  unfold S6
  rw [IntKind.wrap_u16,rF]
  omega
section
variable{b:List Int}(H:b.length<=900000000)(hby:vV b)
include H hby
def RY:wD b Tp RZ pE:=by
  have hs:=qG H hby
  have X:=pr (I:=Tp) hs fun x=>tX (b:=b) (x==2)
    (pr hs fun c=>pN (b:=b) (ar x) (Sr x) (fun L R=>(⟨x,L,R,c,vZ⟩:av)))
    (tX (x==1) (pr (Pm H hby) fun v=>pN (b:=b) (ar x) (Sr x) (fun L R=>(⟨x,L,R,0,v⟩:av)))
      (pN (b:=b) (ar x) (Sr x) (fun L R=>(⟨x,L,R,0,vZ⟩:av))))
  refine X.congr fun j e r o _=>?_
  rfl
omit H hby in
def R1(e:List Int×Int)(r:be)(o:an):nk r o e.1 e.2=RZ e r o:=by
 unfold nk RZ nt qB
 cases bS r o with
 |none=>rfl
 |some u=>
  simp only [bG,xB,Sq]
  by_cases h:(u.1==2)=true
  ·rw [bJ h,bJ h]
   cases bS r u.2 with
   |none=>rfl
   |some w=>
    simp only [bG,xB]
    cases cU r w.2 e.1 (ar u.1) e.2<;>rfl
  ·rw [bk h,bk h]
   by_cases h:(u.1==1)=true
   ·rw [bJ h,bJ h]
   ·rw [bk h,bk h]
    cases cU r u.2 e.1 (ar u.1) e.2<;>rfl
def LL(N:Int)(r:be)(o:an):Option (List av×be×an):=(kg r o N [] 0).bind fun q=>some (q.1,q.2.1,q.2.2.1)
def Rc(N:Int)(hN:N<=65535):Rd b (LL N) (Ey N):=
 Dx (RY H hby) (fun _ _ _=>J7) (fun _ _=>J8) N hN ([],0) ⟨rfl,eJ 0,by simp⟩ (L:=fun fu out x r o e=>gL N fu out x e.2 e.1 r o) (by
  intro fu out x r o e
  simp only [gL,R1]
  rfl)
def IF:Rd b gJ Bd:=by
 have:=BX (g:=fun n r o=>(LL n r o).bind fun u=>some (aW.mk u.1,u.2.1,u.2.2)) S6 (fun _ _ _ _ _=>Qo) (Wq H hby) fun n hn=>(Rc H hby n hn.2).map aW.mk
 refine this.congr fun r o=>?_
 unfold gJ Qp LL
 cases lE o with
 |none=>rfl
 |some q=>
  simp only [bG,xB]
  cases kg r q.2 (IntKind.i64.wrap q.1) [] 0<;>rfl
def QX:Pr fU:=ge p8 fun f=>w4 (fU.mk f) Bd
def Tu:Pr kF:=ge p8 fun c=>w4 (kF.mk c) EB
def Yz:Rd b qq QX:=by
 refine((qG H hby).bind fun f=>(IF H hby).map (fU.mk f)).congr fun r o=>?_
 unfold qq nt
 cases bS r o<;>rfl
def WE:Rd b qp Tu:=by
 refine((qG H hby).bind fun f=>(Nv H hby).map (kF.mk f)).congr fun r o=>?_
 unfold qp nt
 cases bS r o<;>rfl
omit H hby in
def w5{α:Type}{f:be->an->Option (α×be×an)}{p:Pr α}(hf:Rd b f p)(N:Int)(hN:N<=65535){L:Nat->List α->Int->be->an->Option (List α×be×an)}
  (hL: ∀fu out x r o,L (fu+1) out x r o=if decide (x<N)=true then(d8 r o).bind fun c=>if(!c)=true then some (out,r,o)else(f r o).bind fun u=>(app out [u.1]).bind fun out2=>L fu out2 (IntKind.i64.wrap (x+1)) u.2.1 u.2.2 else some (out,r,o)):
  Rd b (fun r o=>L dk [] 0 r o) (pl p N.toNat):=by
 have h:=Dx hf.toE (fun _ _ _=>J7) (fun _ _=>J8) N hN () trivial (L:=fun fu out x r o _=>(L fu out x r o).map fun q=>(q.1,q.2.1,q.2.2,())) (by
  intro fu out x r o e
  cases e
  simp only [hL]
  by_cases V:decide (x<N)=true
  ·simp only [V,mG]
   cases d8 r o with
   |none=>rfl
   |some c=>
    cases c with
    |false=>rfl
    |true=>
     simp only [bG,ug,r0,oV]
     cases f r o with
     |none=>rfl
     |some q=>
      simp only [bG,xB]
      cases app out [q.1]<;>rfl
  ·simp only [V];rfl)
 have e:(fun l=>(si (fun(_:Unit) l=>(p l).map fun u=>((u.1,()),u.2)) N.toNat () l).map fun u=>(u.1.1,u.2))=pl p N.toNat:=funext fun l=>Ib p N.toNat l
 rw [e]at h
 refine h.congr fun r o=>?_
 cases L dk [] 0 r o<;>rfl
def Vk(N:Int)(hN:N<=65535):Rd b (fun r o=>lr r o N) (pl QX N.toNat):=
 w5 (Yz H hby) N hN (L:=jN N) fun _ _ _ _ _=>rfl
def RX(N:Int)(hN:N<=65535):Rd b (fun r o=>kS r o N) (pl Bd N.toNat):=
 w5 (IF H hby) N hN (L:=jr N) fun _ _ _ _ _=>rfl
def TB(N:Int)(hN:N<=65535):Rd b (fun r o=>ln r o N) (pl Tu N.toNat):=
 w5 (WE H hby) N hN (L:=jM N) fun _ _ _ _ _=>rfl
end
end Go.Proofs.YtdohlidddcgfjaaGreat


/- cE of this claim: H9. -/
set_option linter.all false
namespace Go.Proofs.YtdohlidddcgfjaaGreat
open Go

def Lz{α:Type}(p:Pr α):Pr (List α):=ge p8 fun n=>pl p n.toNat
def Py{α:Type}(f:be->an->Int->Option (List α×be×an))(r:be)(o:an):Option (List α×be×an):=(nt r o).bind fun n=>f n.2.1 n.2.2 n.1
section
variable{b:List Int}(H:b.length<=900000000)(hby:vV b)
include H hby
def II{α:Type}{p:Pr α}{f:be->an->Int->Option (List α×be×an)}(h: ∀N:Int,N<=65535->Rd b (fun r o=>f r o N) (pl p N.toNat)):Rd b (Py f) (Lz p):=
 BX (g:=fun n r o=>f r o n) (q:=fun n=>pl p n.toNat) ij (fun _ _ _ _ _=>z7) (qG H hby) fun x V=>h x (by unfold ij at V;omega)
end
def Il(x:Int):Int:=IntKind.i64.wrap (IntKind.i64.wrap x-1)
def K8(x:Int)(e:List Int×Int)(r:be)(o:an):Option (tV×be×an×List Int×Int):=
 if(x==1||x==9)=true then(nt r o).bind fun t=>(O6 t.2.1 t.2.2).bind fun ks=>qB 0 (fun L R=>⟨x,L,R,t.1,ks.1,false,⟨[]⟩,[],[],[],[],0⟩) e ks.2.1 ks.2.2
 else if(x==2)=true then(kR r o).bind fun f=>(gJ f.2.1 f.2.2).bind fun c=>qB 2 (fun L R=>⟨x,L,R,0,[],f.1,c.1,[],[],[],[],0⟩) e c.2.1 c.2.2
 else if(x==3)=true then(gJ r o).bind fun c=>qB 1 (fun L R=>⟨x,L,R,0,[],false,c.1,[],[],[],[],0⟩) e c.2.1 c.2.2
 else if(x==4||x==10||x==11)=true then(O6 r o).bind fun ks=>(Py lr ks.2.1 ks.2.2).bind fun a=>qB 1 (fun L R=>⟨x,L,R,0,[],false,⟨[]⟩,ks.1,a.1,[],[],0⟩) e a.2.1 a.2.2
 else if(x==5)=true then(Py kS r o).bind fun a=>qB 1 (fun L R=>⟨x,L,R,0,[],false,⟨[]⟩,[],[],a.1,[],0⟩) e a.2.1 a.2.2
 else if(x==8)=true then(Py ln r o).bind fun a=>(S9 a.2.1 a.2.2).bind fun l=>qB 1 (fun L R=>⟨x,L,R,0,[],false,⟨[]⟩,[],[],[],a.1,Il l.1⟩) e l.2.1 l.2.2
 else if(x==7)=true then qB 2 (fun L R=>⟨x,L,R,0,[],false,⟨[]⟩,[],[],[],[],0⟩) e r o
 else qB 1 (fun L R=>⟨x,L,R,0,[],false,⟨[]⟩,[],[],[],[],0⟩) e r o
def Ez(x:Int)(e:List Int×Int):Pr (tV×List Int×Int):=
 if(x==1||x==9)=true then ge p8 fun t=>ge Lx fun ks=>lU 0 (fun L R=>⟨x,L,R,t,ks,false,⟨[]⟩,[],[],[],[],0⟩) e
 else if(x==2)=true then ge EB fun f=>ge Bd fun c=>lU 2 (fun L R=>⟨x,L,R,0,[],f,c,[],[],[],[],0⟩) e
 else if(x==3)=true then ge Bd fun c=>lU 1 (fun L R=>⟨x,L,R,0,[],false,c,[],[],[],[],0⟩) e
 else if(x==4||x==10||x==11)=true then ge Lx fun ks=>ge (Lz QX) fun a=>lU 1 (fun L R=>⟨x,L,R,0,[],false,⟨[]⟩,ks,a,[],[],0⟩) e
 else if(x==5)=true then ge (Lz Bd) fun a=>lU 1 (fun L R=>⟨x,L,R,0,[],false,⟨[]⟩,[],[],a,[],0⟩) e
 else if(x==8)=true then ge (Lz Tu) fun a=>ge p32 fun l=>lU 1 (fun L R=>⟨x,L,R,0,[],false,⟨[]⟩,[],[],[],a,Il l⟩) e
 else if(x==7)=true then lU 2 (fun L R=>⟨x,L,R,0,[],false,⟨[]⟩,[],[],[],[],0⟩) e
 else lU 1 (fun L R=>⟨x,L,R,0,[],false,⟨[]⟩,[],[],[],[],0⟩) e
def K7(e:List Int×Int)(r:be)(o:an):Option (tV×be×an×List Int×Int):=(nt r o).bind fun u=>K8 u.1 e u.2.1 u.2.2
def Na(e:List Int×Int):Pr (tV×List Int×Int):=ge p8 fun x=>Ez x e
def Rz(e:List Int×Int)(r:be)(o:an):nj r o e.1 e.2=K7 e r o:=by
 unfold nj rR K7 nt
 cases bS r o with
 |none=>rfl
 |some u=>
  simp only [bG,xB]
  obtain⟨x,o1⟩:=u
  simp only
  unfold K8 mQ ky Py nt O6 S9 qB Il
  cases X:(x==1)<;>cases h9:(x==9)<;>simp only [CL,CM,DK,vE,mG,r0,oV,AY,bG,AV,AW,Int.ofNat_zero,Int.natCast_zero]<;>try rfl
  cases K:(x==2)<;>simp only [CL,CM,DK,vE,mG,r0,oV,AY,bG,AV,AW]<;>try rfl
  cases h3:(x==3)<;>simp only [CL,CM,DK,vE,mG,r0,oV,AY,bG,AV,AW]<;>try rfl
  cases h4:(x==4)<;>cases h10:(x==10)<;>cases h11:(x==11)<;>simp only [CL,CM,DK,vE,mG,r0,oV,AY,bG,AV,AW]<;>try rfl
  cases h5:(x==5)<;>simp only [CL,CM,DK,vE,mG,r0,oV,AY,bG,AV,AW]<;>try rfl
  cases h8:(x==8)<;>simp only [CL,CM,DK,vE,mG,r0,oV,AY,bG,AV,AW]<;>try rfl
  cases h7:(x==7)<;>simp only [CL,CM,DK,vE,mG,r0,oV,AY,bG,AV,AW]<;>try rfl
section
variable{b:List Int}(H:b.length<=900000000)(hby:vV b)
include H hby
def On(x:Int):wD b Tp (K8 x) (Ez x):=by
  have hs:=qG H hby
  have hn:=Rb H hby
  have he:=IF H hby
  have:=tX (b:=b) (I:=Tp) (x==1||x==9) (pr hs fun t=>pr hn fun ks=>pN 0 (by omega) (fun L R=>(⟨x,L,R,t,ks,false,⟨[]⟩,[],[],[],[],0⟩:tV)))
    (tX (x==2) (pr (Nv H hby) fun f=>pr he fun c=>pN 2 (by omega) (fun L R=>(⟨x,L,R,0,[],f,c,[],[],[],[],0⟩:tV)))
    (tX (x==3) (pr he fun c=>pN 1 (by omega) (fun L R=>(⟨x,L,R,0,[],false,c,[],[],[],[],0⟩:tV)))
    (tX (x==4||x==10||x==11) (pr hn fun ks=>pr (II H hby (Vk H hby)) fun a=>pN 1 (by omega) (fun L R=>(⟨x,L,R,0,[],false,⟨[]⟩,ks,a,[],[],0⟩:tV)))
    (tX (x==5) (pr (II H hby (RX H hby)) fun a=>pN 1 (by omega) (fun L R=>(⟨x,L,R,0,[],false,⟨[]⟩,[],[],a,[],0⟩:tV)))
    (tX (x==8) (pr (II H hby (TB H hby)) fun a=>pr (Wp H hby) fun l=>pN 1 (by omega) (fun L R=>(⟨x,L,R,0,[],false,⟨[]⟩,[],[],[],a,Il l⟩:tV)))
    (tX (x==7) (pN 2 (by omega) (fun L R=>(⟨x,L,R,0,[],false,⟨[]⟩,[],[],[],[],0⟩:tV)))
      (pN 1 (by omega) (fun L R=>(⟨x,L,R,0,[],false,⟨[]⟩,[],[],[],[],0⟩:tV)))))))))
  exact this
def Ol:wD b Tp K7 Na:=pr (qG H hby) fun x=>On H hby x
def Ba(N:Int):Pr (List tV):=fun l=>(si Na N.toNat ([],0) l).map fun u=>(u.1.1,u.2)
def Ik(r:be)(o:an)(N:Int):Option (List tV×be×an):=(m7 r o N [] 0).bind fun q=>some (q.1,q.2.1,q.2.2.1)
def Pc(N:Int)(hN:N<=65535):Rd b (fun r o=>Ik r o N) (Ba N):=
 Dx (Ol H hby) (fun _ _ _=>J7) (fun _ _=>J8) N hN ([],0) ⟨rfl,eJ 0,by simp⟩ (L:=fun fu out x r o e=>gK N fu out x e.2 e.1 r o) (by
  intro fu out x r o e
  simp only [gK,Rz]
  rfl)
def Nb:Pr dv:=ge p8 fun a=>ge p8 fun w=>ge Lx fun cs=>ge p8 fun n=>w4 (fun ns=>dv.mk ns a w cs) (Ba n)
def TQ:Rd b po Nb:=by
 have hs:=qG H hby
 have:=hs.bind fun a=>hs.bind fun w=>(Rb H hby).bind fun cs=>BX (g:=fun n r o=>(Ik r o n).bind fun u=>some (dv.mk u.1 a w cs,u.2.1,u.2.2)) ij (fun _ _ _ _ _=>z7) hs fun n hn=>(Pc H hby n (by unfold ij at hn;omega)).map fun ns=>dv.mk ns a w cs
 refine this.congr fun r o=>?_
 unfold po nt O6 Ik
 simp only [AY,bG,AV,AW]
def Ry(N:Int)(hN:N<=65535):Rd b (fun r o=>nH r o N) (pl Nb N.toNat):=
 w5 (TQ H hby) N hN (L:=jq N) fun _ _ _ _ _=>rfl
def M8:Pr eV:=w4 eV.mk (Lz Nb)
def Tw:Rd b pn M8:=by
 refine((II H hby (Ry H hby)).map eV.mk).congr fun r o=>?_
 unfold pn Py nt
 simp only [AY,bG,AV,AW]
end
end Go.Proofs.YtdohlidddcgfjaaGreat


/- cE of this claim: H10. -/
set_option linter.all false
namespace Go.Proofs.YtdohlidddcgfjaaGreat
open Go

def R7{b:List Int}(H:b.length<=900000000){k:Nat}{r:be}{o:an}(h:Ok b k r o):jZ r o=some (b.drop k==[]):=by
 unfold jZ
 rw [J7 h,bG,bJ rfl]
 obtain⟨_,_,rfl,h4⟩:=h
 rw [BY 0 h4 (by omega),bG]
 congr 1
 by_cases hk:k=b.length
 ·subst hk;simp
 ·have X:b.drop k≠[]:=by
   intro hc
   have:=congrArg List.length hc
   rw [De]at this
   simp at this
   omega
  have K:((b.length-k:Nat):Int)≠0:=by omega
  rw [show(b.drop k==[])=false from by simpa using X]
  simpa using K
def R8{b:List Int}{r:be}{o:an}(h:No b r o):jZ r o=some false:=by
 unfold jZ
 rw [J8 h,bG,bk (by simp)]
def Re:eV×Int:=(⟨[]⟩,331)
def Gc{b:List Int}(H:b.length<=900000000)(hby:vV b):lF b=match M8 b with
  |some (p,[])=>(pV p).bind fun q=>some (if q then(p,0)else Re)
  |_=>some Re:=by
 unfold lF
 have h0:Ok b 0 (⟨rj,b,false⟩:be) (rd b 0 0):=⟨rfl,rfl,rfl,oW _⟩
 obtain⟨x,r1,o1,X,K⟩:=(Tw H hby).ok 0 _ _ h0
 rw [F7 H,bG,X,bG]
 rw [zr]at K
 simp only
 unfold Oe at K
 cases hp:M8 b with
 |none=>
  rw [hp]at K
  rw [R8 K]
  rfl
 |some v=>
  obtain⟨v,rest⟩:=v
  rw [hp]at K
  obtain⟨rfl,k,h3,h4⟩:=K
  rw [R7 H h3,h4]
  cases rest with
  |nil=>
   simp only [bG]
   cases pV x with
   |none=>rfl
   |some q=>cases q<;>rfl
  |cons c l=>rfl
end Go.Proofs.YtdohlidddcgfjaaGreat


/- cE of this claim: H11. -/
set_option linter.all false
namespace Go.Proofs.YtdohlidddcgfjaaGreat
open Go

def bys(l:List Int):Prop:=vV l/\l.length<=5000
def SP{α:Type}(p:Pr α)(enc:α->List Int)(good:α->Prop):Prop:= ∀l x r,bys l->p l=some (x,r)->l=enc x++r/\good x/\bys r
def SP.size{α:Type}{p:Pr α}{enc:α->List Int}{good:α->Prop}(h:SP p enc good):SP p enc (fun x=>good x/\(enc x).length<=5000):=by
 intro l x r hl V
 obtain⟨g1,g2,g3⟩:=h l x r hl V
 refine⟨g1,⟨g2,?_⟩,g3⟩
 have:=hl.2
 rw [g1,mq]at this
 omega
def SP.bind{α β:Type}{p:Pr α}{q:α->Pr β}{e1:α->List Int}{P1:α->Prop}{e2:α->β->List Int}{P2:α->β->Prop}{enc:β->List Int}{good:β->Prop}(X:SP p e1 P1)(K: ∀x,P1 x->SP (q x) (e2 x) (P2 x))(h3: ∀x y,P1 x->P2 x y->enc y=e1 x++e2 x y/\good y):SP (ge p q) enc good:=by
 intro l y r hl h
 unfold ge at h
 cases hp:p l with
 |none=>rw [hp]at h;cases h
 |some u=>
  rw [hp,bG]at h
  obtain⟨g1,g2,g3⟩:=X l u.1 u.2 hl hp
  obtain⟨g4,g5,g6⟩:=K u.1 g2 u.2 y r g3 h
  obtain⟨g7,g8⟩:=h3 u.1 y g2 g5
  exact⟨by rw [g1,g4,g7,pe],g8,g6⟩
def SP.map{α β:Type}{p:Pr α}{f:α->β}{e1:α->List Int}{P1:α->Prop}{enc:β->List Int}{good:β->Prop}(X:SP p e1 P1)(h3: ∀x,P1 x->enc (f x)=e1 x/\good (f x)):SP (w4 f p) enc good:=by
 intro l y r hl h
 unfold w4 at h
 cases hp:p l with
 |none=>rw [hp]at h;cases h
 |some u=>
  rw [hp]at h
  cases h
  obtain⟨g1,g2,g3⟩:=X l u.1 u.2 hl hp
  obtain⟨g7,g8⟩:=h3 u.1 g2
  exact⟨by rw [g7];exact g1,g8,g3⟩
def Kp{f:Int->Int}: ∀l:List Int,l.flatMap (fun x=>[f x])=l.map f
 |[]=>rfl
 |x::l=>by rw [zt,Kp l];rfl
end Go.Proofs.YtdohlidddcgfjaaGreat


/- cE of this claim: H12. -/
set_option linter.all false
namespace Go.Proofs.YtdohlidddcgfjaaGreat
open Go

def gS(n:av):Prop:=n.Value.S.length<=40
def gX(e:aW):Prop:=e.Nodes.length<=5000/\ ∀n∈e.Nodes,gS n
structure gD(n:tV):Prop where
 kinds:n.Kinds.length<=255
 keys:n.Keys.length<=255
 order:n.Order.length<=255
 items:n.Items.length<=255
 aggs:n.Aggs.length<=255
 cond:gX n.Cond
 item: ∀e∈n.Items,gX e
 arg: ∀a∈n.Aggs,gX a.Arg
structure gF(f:dv):Prop where
 cols:f.Cols.length<=255
 len:f.Nodes.length<=255
 n: ∀n∈f.Nodes,gD n
structure gP(p:eV):Prop where
 len:p.Frags.length<=255
 f: ∀f∈p.Frags,gF f
end Go.Proofs.YtdohlidddcgfjaaGreat


/- cE of this claim: H16. -/
set_option linter.all false
namespace Go.Proofs.YtdohlidddcgfjaaGreat
open Go

def Cm{α:Type}(p:Pr α)(l:List Int)(x:α):Prop:= ∀r,p (l++r)=some (x,r)
def Cm.bind{α β:Type}{p:Pr α}{q:α->Pr β}{l m:List Int}{x:α}{y:β}(X:Cm p l x)(K:Cm (q x) m y):Cm (ge p q) (l++m) y:=fun r=>by
 unfold ge
 rw [pe,X,bG]
 exact K r
def Cm.map{α β:Type}{p:Pr α}{l:List Int}{x:α}(f:α->β)(X:Cm p l x):Cm (w4 f p) l (f x):=fun r=>by
 unfold w4
 rw [X];rfl
def Vr{α:Type}(x:α):Cm (fun l=>some (x,l)) [] x:=fun _=>rfl
def Cm.need{c:Bool}(h:c=true):Cm (CW c) [] ():=fun r=>by
 unfold CW
 rw [bJ h];rfl
def Cm.eq{α:Type}{p:Pr α}{l m:List Int}{x:α}(h:Cm p l x)(e:m=l):Cm p m x:=e▸h
def Hn(v:Int): ∀k,bn (ib v k)=v%2^(8*k)
 |0=>by
  show(0:Int)=v%2^(8*0)
  rw [Nat.mul_zero,Int.pow_zero];omega
 |k+1=>by
  unfold ib bn
  rw [iq,Hn v k]
  have hp:(0:Int)<2^(8*k):=Int.pow_pos (by omega)
  rw [Int.fdiv_eq_ediv_of_nonneg _ (by omega),zD,show(256:Int)^k=2^(8*k)from by rw [show(256:Int)=2^8 from rfl,<-Int.pow_mul],show 8*(k+1)=8*k+8 from by omega,Int.pow_add,show(2:Int)^8=256 from rfl]
  generalize (2:Int)^(8*k)=m at hp
  rw [Int.mul_comm (v/m%256) m]
  have e1:m*(v/m)+v%m=v:=Int.mul_ediv_add_emod v m
  have e2:256*(v/m/256)+v/m%256=v/m:=Int.mul_ediv_add_emod (v/m) 256
  have X:=Int.emod_nonneg v (show m≠0 by omega)
  have K:=Int.emod_lt_of_pos v hp
  have h3:=Int.emod_nonneg (v/m) (show(256:Int)≠0 by omega)
  have h4:=Int.emod_lt_of_pos (v/m) (show(0:Int)<256 by omega)
  have e3:v=(m*(v/m%256)+v%m)+(m*256)*(v/m/256):=by
   have e4:m*(v/m)=m*(256*(v/m/256))+m*(v/m%256):=by rw [<-Int.mul_add,e2]
   rw [Int.mul_assoc];omega
  have h5:m*(v/m%256)<=m*255:=Int.mul_le_mul_of_nonneg_left (by omega) (by omega)
  have h6:0<=m*(v/m%256):=Int.mul_nonneg (by omega) h3
  generalize v/m%256=q at*
  generalize v%m=w at*
  have e5:(m*q+w+m*256*(v/m/256))%(m*256)=m*q+w:=by
   rw [Int.add_mul_emod_self_left,Int.emod_eq_of_lt (by omega) (by omega)]
  rw [<-e3]at e5
  exact e5.symm
def GQ(n:Nat){v:Int}(h0:0<=v)(X:v<2^(8*n)):Cm (pw n) (ib v n) v:=fun r=>by
 unfold pw
 rw [bk (by rw [mq,iq];omega),List.take_left' (iq v n),List.drop_left' (iq v n),Hn,Int.emod_eq_of_lt h0 X]
def uz{x:Int}(h:ij x):Cm p8 [IntKind.u8.wrap x] x:=fun r=>by
 obtain⟨X,K⟩:=h
 have h3:Cm (pw 1) (ib x 1) x:=GQ 1 X (show x<256 by omega)
 have h4:=(h3.map fun x=>IntKind.i64.wrap (IntKind.u8.wrap x)) r
 have e:IntKind.i64.wrap (IntKind.u8.wrap x)=x:=by rw [zD,rF];omega
 simp only [e]at h4
 have e2:ib x 1=[IntKind.u8.wrap x]:=by simp [ib]
 rw [e2]at h4
 exact h4
def WC{x:Int}(h:S6 x):Cm p16 (ib x 2) x:=fun r=>by
 obtain⟨X,K⟩:=h
 have h4:=((GQ 2 X (show x<65536 by omega)).map fun x=>IntKind.i64.wrap (IntKind.u16.wrap x)) r
 have e:IntKind.i64.wrap (IntKind.u16.wrap x)=x:=by rw [IntKind.wrap_u16,rF];omega
 simp only [e]at h4
 exact h4
def WB{x:Int}(X:0<=x)(K:x<4294967296):Cm p32 (ib x 4) x:=fun r=>by
 have h4:=((GQ 4 X (show x<4294967296 by omega)).map IntKind.u32.wrap) r
 have e:IntKind.u32.wrap x=x:=by rw [IntKind.wrap_u32];omega
 rw [e]at h4
 exact h4
def JS(b:Bool):Cm EB [fB b] b:=fun r=>by
 unfold EB
 have e:[fB b]=[IntKind.u8.wrap (fB b)]:=by cases b<;>rfl
 have:Cm p8 [IntKind.u8.wrap (fB b)] (fB b):=uz (by unfold ij;cases b<;>decide)
 rw [e,this,bG]
 cases b<;>rfl
def Tt(ac:List Int):Cm (QT ac.length) ac ac:=fun r=>by
 unfold QT
 rw [bk (by rw [mq];omega),List.take_left' rfl,List.drop_left' rfl]
def VB{α:Type}{p:Pr α}{enc:α->List Int}: ∀xs:List α,(∀x∈xs,Cm p (enc x) x)->Cm (pl p xs.length) (xs.flatMap enc) xs
 |[],_=>fun r=>rfl
 |x::xs,h=>fun r=>by
  have X:=h x (qa ..)
  have K:=VB xs fun y hy=>h y (ry _ hy)
  show pl p (xs.length+1) _=_
  unfold pl
  rw [zt,pe,X,bG,K,bG]
def Be{α:Type}{p:Pr α}{enc:α->List Int}(xs:List α)(hl:xs.length<=255)(h: ∀x∈xs,Cm p (enc x) x):Cm (Lz p) (IntKind.u8.wrap (xs.length:Int)::xs.flatMap enc) xs:=
 Cm.bind (l:=[IntKind.u8.wrap (xs.length:Int)]) (uz ⟨by omega,by omega⟩) (by rw [xM];exact VB xs h)
def Ia(xs:List Int)(hl:xs.length<=255)(h: ∀x∈xs,ij x):Cm Lx (Nq xs) xs:=by
 have:=Be (p:=p8) (enc:=fun x=>[IntKind.u8.wrap x]) xs hl fun x V=>uz (h x V)
 rw [Kp]at this
 exact this
def abZ(x:Int):Prop:= -9223372036854775808<=x/\x<=9223372036854775807
def abY(x:Int):Prop:=0<=x/\x<=18446744073709551615
structure VA(v:aC):Prop where
 n:abZ v.N
 u:abY v.U
def FQ(ac:N1):sf (mj ac)=ac:=by
 unfold sf mj
 rw [List.map_map]
 conv=>rhs;rw [<-List.map_id ac]
 refine Gi fun x _=>?_
 show UInt8.ofNat ((x.toNat:Int).toNat)=x
 rw [xM,UInt8.ofNat_toNat]
def yh{v:aC}(h:kp v=true):Cm (uy v) [] v:=Cm.bind (l:=[]) (Cm.need h) (Vr v)
def QL{v:aC}(h:kp v=true)(hk:v.Kind=1):v.U=0/\v.S=[]/\(v.N=0\/v.N=1):=by
 obtain⟨k,n,u,ac⟩:=v
 subst hk
 simp only [kp,jD]at h
 grind
def QK{v:aC}(h:kp v=true)(hk:v.Kind=2):v.U=0/\v.S=[]:=by
 obtain⟨k,n,u,ac⟩:=v
 subst hk
 simp only [kp,jD]at h
 grind
def QJ{v:aC}(h:kp v=true)(hk:v.Kind=3):v.N=0/\v.U=0/\v.S.length<=40:=by
 obtain⟨k,n,u,ac⟩:=v
 subst hk
 simp only [kp,jD]at h
 grind
def QI{v:aC}(h:kp v=true)(X:v.Kind≠1)(K:v.Kind≠2)(h3:v.Kind≠3):(v.Kind=0/\v.N=0/\v.U=0/\v.S=[])\/(v.Kind=4/\v.S=[]):=by
 obtain⟨k,n,u,ac⟩:=v
 simp only at X K h3
 by_cases h0:k=0
 ·subst h0
  simp [kp,jD]at h
  grind
 ·simp [kp,jD,h0,X,K,h3]at h
  grind
def Zq{v:aC}(h:kp v=true)(hr:VA v):Cm pv (vB v) v:=by
 obtain⟨⟨n1,n2⟩,u1,u2⟩:=hr
 have go: ∀c l,v.Kind=c->0<=c->c<=4->Cm (GS c) l v->Cm pv (IntKind.u8.wrap c::l) v:=fun c l _ h0 h4 H=>
  Cm.bind (l:=[IntKind.u8.wrap c]) (uz ⟨h0,by omega⟩) (Cm.bind (l:=[]) (Cm.need (by simpa using h4)) H)
 unfold vB
 by_cases X:v.Kind=1
 ·obtain⟨e1,e2,e3⟩:=QL h X
  have ev:v=⟨1,v.N,0,[]⟩:=by obtain⟨k,n,u,ac⟩:=v;simp only at X e1 e2;rw [X,e1,e2]
  rw [bJ X,X]
  refine go 1 _ X (by omega) (by omega) ?_
  have H:ij v.N:=by unfold ij;omega
  have hd:Cm (uy ⟨1,v.N,0,[]⟩) [] v:=by rw [<-ev];exact yh h
  exact Cm.bind (l:=[IntKind.u8.wrap v.N]) (q:=fun u=>uy ⟨1,u,0,[]⟩) (uz H) hd
 rw [bk X]
 by_cases K:v.Kind=2
 ·obtain⟨e1,e2⟩:=QK h K
  rw [bJ K,K]
  refine go 2 _ K (by omega) (by omega) ?_
  have e:i64 (IntKind.u64.wrap v.N)=v.N:=by unfold i64;rw [xL,rF];omega
  have ev:v=⟨2,i64 (IntKind.u64.wrap v.N),0,[]⟩:=by rw [e];obtain⟨k,n,u,ac⟩:=v;simp only at K e1 e2;rw [K,e1,e2]
  have hd:Cm (uy ⟨2,i64 (IntKind.u64.wrap v.N),0,[]⟩) [] v:=by rw [<-ev];exact yh h
  have hw:IntKind.u64.wrap v.N<2^(8*8):=by rw [xL];show _<(18446744073709551616:Int);omega
  have:=Cm.bind (q:=fun u=>uy ⟨2,i64 u,0,[]⟩) (GQ 8 (v:=IntKind.u64.wrap v.N) (by rw [xL];omega) hw) hd
  rw [qC]at this
  exact this
 rw [bk K]
 by_cases h3:v.Kind=3
 ·obtain⟨e1,e2,e3⟩:=QJ h h3
  rw [bJ h3,h3]
  refine go 3 _ h3 (by omega) (by omega) ?_
  have hl:=vy v.S
  have ev:v=⟨3,0,0,sf (mj v.S)⟩:=by rw [FQ];obtain⟨k,n,u,ac⟩:=v;simp only at h3 e1 e2;rw [h3,e1,e2]
  have hd:Cm (uy ⟨3,0,0,sf (mj v.S)⟩) [] v:=by rw [<-ev];exact yh h
  have a1:Cm (QR 3 (v.S.length:Int)) (mj v.S++[]) v:=Cm.bind (by rw [xM,<-hl];exact Tt _) hd
  rw [qC]at a1
  have a2:Cm (QQ 3 (v.S.length:Int)) ([]++mj v.S) v:=Cm.bind (Cm.need (by rw [mp];omega)) a1
  exact Cm.bind (l:=[IntKind.u8.wrap (v.S.length:Int)]) (uz ⟨by omega,by omega⟩) a2
 rw [bk h3]
 rcases QI h X K h3 with⟨k0,e1,e2,e3⟩|⟨k4,e1⟩
 ·rw [bk (by omega),k0]
  refine go 0 _ k0 (by omega) (by omega) ?_
  have ev:v=⟨0,0,0,[]⟩:=by obtain⟨k,n,u,ac⟩:=v;simp only at k0 e1 e2 e3;rw [k0,e1,e2,e3]
  have hd:Cm (uy ⟨0,0,0,[]⟩) [] v:=by rw [<-ev];exact yh h
  exact hd
 ·rw [bJ k4,k4]
  refine go 4 _ k4 (by omega) (by omega) ?_
  have e:i64 (IntKind.u64.wrap v.N)=v.N:=by unfold i64;rw [xL,rF];omega
  have ev:v=⟨4,i64 (IntKind.u64.wrap v.N),v.U,[]⟩:=by rw [e];obtain⟨k,n,u,ac⟩:=v;simp only at k4 e1;rw [k4,e1]
  have hd:Cm (uy ⟨4,i64 (IntKind.u64.wrap v.N),v.U,[]⟩) [] v:=by rw [<-ev];exact yh h
  have hw:IntKind.u64.wrap v.N<2^(8*8):=by rw [xL];show _<(18446744073709551616:Int);omega
  have a1:Cm (M5 4 (IntKind.u64.wrap v.N)) (ib v.U 8++[]) v:=Cm.bind (q:=fun w=>uy ⟨4,i64 (IntKind.u64.wrap v.N),w,[]⟩) (GQ 8 u1 (show v.U<(18446744073709551616:Int) by omega)) hd
  rw [qC]at a1
  exact Cm.bind (q:=M5 4) (GQ 8 (v:=IntKind.u64.wrap v.N) (by rw [xL];omega) hw) a1
def CmE{α E:Type}(p:E->Pr (α×E))(e:E)(l:List Int)(x:α)(e' :E):Prop:=Cm (p e) l (x,e')
def MI{α E:Type}(p:E->Pr (α×E))(n:Nat)(e:E)(l:List Int)(xs:List α)(e' :E):Prop:=Cm (si p n e) l (xs,e')
def MI.one{α E:Type}{p:E->Pr (α×E)}{e e' :E}{l:List Int}{x:α}(h:CmE p e l x e'):MI p 1 e l [x] e' :=fun r=>by
 unfold si
 rw [h,bG]
 rfl
def MI.nil{α E:Type}{p:E->Pr (α×E)}{e:E}:MI p 0 e [] [] e:=fun r=>rfl
def MI.app{α E:Type}{p:E->Pr (α×E)}: ∀{m:Nat} {e e1:E} {l:List Int} {xs:List α} {n:Nat} {e2:E} {k:List Int} {ys:List α},MI p m e l xs e1->MI p n e1 k ys e2->xs.length=m->MI p (m+n) e (l++k) (xs++ys) e2:=by
 intro m e e1 l xs n e2 k ys X K V r
 rw [pe]
 have h1' :=X (k++r)
 clear X
 generalize l++(k++r)=z at h1' ⊢
 induction m generalizing e z xs with
 |zero=>
  cases h1'
  rw [uT]
  exact K r
 |succ m ih=>
  rw [show m+1+n=(m+n)+1 from by omega]
  unfold si at h1' ⊢
  cases hp:p e z with
  |none=>rw [hp]at h1';cases h1'
  |some u=>
   rw [hp,bG]at h1'
   rw [bG]
   cases hq:si p m u.1.2 u.2 with
   |none=>rw [hq]at h1';cases h1'
   |some v=>
    rw [hq,bG]at h1'
    obtain⟨⟨v1,v2⟩,v3⟩:=v
    cases h1'
    rw [ih (xs:=v1) (by simpa using V) u.2 hq]
    rfl
def U7{n:av}(h:C7 n=true):(n.Tag=1/\vM n.Value=true/\n.Col=0)\/(n.Tag=2/\n.Value=vZ/\0<=n.Col/\n.Col<16)\/(n.Tag≠1/\n.Tag≠2/\n.Value=vZ/\n.Col=0):=by
 unfold C7 ka at h
 rw [pM]at h
 by_cases X:n.Tag=1
 ·rw [bJ (by simp [X])]at h
  simp at h
  exact .inl ⟨X,by grind,by grind⟩
 ·rw [bk (by simpa using X)]at h
  by_cases K:n.Tag=2
  ·rw [bJ (by simp [K])]at h
   simp at h
   exact .inr (.inl ⟨K,by unfold vZ;grind,by grind,by grind⟩)
  ·rw [bk (by simpa using K)]at h
   simp at h
   exact .inr (.inr ⟨X,K,by unfold vZ;grind,by grind⟩)
def nD{α:Type}{n:Nat}(h:Int->Int->α){e:List Int×Int}{L R:Int}{t:List Int}(hp:wi n e.1=some (L,R,t)):Cm (lU n h e) [] (h L R,t++[e.2],e.2+1):=fun r=>by
 unfold lU
 rw [hp];rfl
def Zu{tag:Int}{k:Nat}(h:pk tag=some k):ar tag=k/\ij tag:=by
 unfold pk at h
 unfold ar ij
 split at h
 ·rename_i X
  cases h
  rw [bJ (by simpa using X)]
  exact⟨rfl,by omega⟩
 ·rename_i X
  rw [bk (by simpa using X)]
  split at h
  ·cases h
   rw [bk (by omega)]
   exact⟨rfl,by omega⟩
  ·split at h
   ·cases h
    rw [bJ (by omega)]
    exact⟨rfl,by omega⟩
   ·cases h
def QY{n:av}{k:Nat}(hk:pk n.Tag=some k)(hc:C7 n=true)(hr:VA n.Value){e:List Int×Int}{t:List Int}(hp:wi k e.1=some (n.L,n.R,t)):CmE pE e (nB n) n (t++[e.2],e.2+1):=by
 obtain⟨ha,H⟩:=Zu hk
 rw [<-ha]at hp
 unfold CmE pE nB
 generalize hm:(if n.Tag=2 then [IntKind.u8.wrap n.Col]else if n.Tag=1 then vB n.Value else [])=m
 refine Cm.bind (l:=[IntKind.u8.wrap n.Tag]) (m:=m) (uz H) ?_
 subst hm
 rcases U7 hc with⟨X,K,h3⟩|⟨X,K,h3,h4⟩|⟨X,h1',K,h3⟩
 ·rw [bk (by simp [X]),bJ (by simp [X]),bk (by omega),bJ X]
  have hv:kp n.Value=true:=by unfold vM at K;simp only [pt]at K;exact K.1
  have en:n=⟨n.Tag,n.L,n.R,0,n.Value⟩:=by obtain⟨a,b,c,aR,f⟩:=n;simp only at h3;rw [h3]
  have:=Cm.bind (q:=fun v=>lU (ar n.Tag) (fun L R=>(⟨n.Tag,L,R,0,v⟩:av)) e) (Zq hv hr) (nD (fun L R=>(⟨n.Tag,L,R,0,n.Value⟩:av)) hp)
  rw [qC]at this
  rw [<-en]at this
  exact this
 ·rw [bJ (by simp [X]),bJ X]
  have en:n=⟨n.Tag,n.L,n.R,n.Col,vZ⟩:=by obtain⟨a,b,c,aR,f⟩:=n;simp only at K;rw [K]
  have:=Cm.bind (l:=[IntKind.u8.wrap n.Col]) (q:=fun c=>lU (ar n.Tag) (fun L R=>(⟨n.Tag,L,R,c,vZ⟩:av)) e) (uz ⟨h3,by omega⟩) (nD (fun L R=>(⟨n.Tag,L,R,n.Col,vZ⟩:av)) hp)
  rw [<-en]at this
  exact this
 ·rw [bk (by simpa using h1'),bk (by simpa using X),bk h1',bk X]
  have en:n=⟨n.Tag,n.L,n.R,0,vZ⟩:=by obtain⟨a,b,c,aR,f⟩:=n;simp only at K h3;rw [K,h3]
  have:=nD (fun L R=>(⟨n.Tag,L,R,0,vZ⟩:av)) hp
  rw [<-en]at this
  exact this
def Tr.rg:Tr->Prop
 | .lf n=>VA n.Value
 | .un n a=>VA n.Value/\a.rg
 | .bi n a b=>VA n.Value/\a.rg/\b.rg
def Zp(t:Tr): ∀ac,(∀n∈t.flat ac,VA n.Value)->t.rg:=by
 induction t with
 |lf n=>intro ac h;exact h (jU n (-1) (-1)) (zW.2 rfl)
 |un n a ih=>intro ac h;exact⟨h (jU n ((ac+a.size:Nat)-1) (-1)) (uW.2 (.inr (zW.2 rfl))),ih ac fun m hm=>h m (uW.2 (.inl hm))⟩
 |bi n a b iha ihb=>intro ac h;exact⟨h (jU n ((ac+a.size:Nat)-1) ((ac+a.size+b.size:Nat)-1)) (uW.2 (.inr (zW.2 rfl))),iha ac fun m hm=>h m (uW.2 (.inl (uW.2 (.inl hm)))),ihb _ fun m hm=>h m (uW.2 (.inl (uW.2 (.inr hm))))⟩
def TU(t:Tr):t.wf->t.rg-> ∀(ac:Nat) (tops:List Int),MI pE t.size (tops,(ac:Int)) ((t.flat ac).flatMap nB) (t.flat ac) (tops++[((ac+t.size:Nat):Int)-1],((ac+t.size:Nat):Int)):=by
 induction t with
 |lf n=>
  intro⟨X,K,_,_⟩ hr ac tops
  have:=MI.one (QY (n:=jU n (-1) (-1)) X K hr (e:=(tops,(ac:Int))) (t:=tops) rfl)
  simp only [Tr.flat,Tr.size,zt,List.flatMap_nil,qC]
  rw [show((ac+1:Nat):Int)-1=(ac:Int)from by omega,show((ac+1:Nat):Int)=(ac:Int)+1 from by omega]
  exact this
 |un n a ih=>
  intro⟨⟨X,K,_,_⟩,hw⟩ ⟨hr,hra⟩ ac tops
  have q1:=ih hw hra ac tops
  have q2:=MI.one (QY (n:=jU n (((ac+a.size:Nat):Int)-1) (-1)) X K hr (e:=(tops++[((ac+a.size:Nat):Int)-1],((ac+a.size:Nat):Int))) (t:=tops) (by simp [wi,jU]))
  have:=q1.app q2 (a.flat_len ac)
  simp only [Tr.flat,Tr.size,List.flatMap_append,zt,List.flatMap_nil,qC]
  rw [show((ac+(a.size+1):Nat):Int)-1=((ac+a.size:Nat):Int)from by omega,show((ac+(a.size+1):Nat):Int)=((ac+a.size:Nat):Int)+1 from by omega]
  exact this
 |bi n a b iha ihb=>
  intro⟨⟨X,K,_,_⟩,hwa,hwb⟩ ⟨hr,hra,hrb⟩ ac tops
  have q1:=iha hwa hra ac tops
  have q2:=ihb hwb hrb (ac+a.size) (tops++[((ac+a.size:Nat):Int)-1])
  have q3:=MI.one (QY (n:=jU n (((ac+a.size:Nat):Int)-1) (((ac+a.size+b.size:Nat):Int)-1)) X K hr (e:=(tops++[((ac+a.size:Nat):Int)-1]++[((ac+a.size+b.size:Nat):Int)-1],((ac+a.size+b.size:Nat):Int))) (t:=tops) (by simp [wi,jU,List.dropLast_append_of_ne_nil]))
  have:=(q1.app q2 (a.flat_len ac)).app q3 (by rw [mq,a.flat_len,b.flat_len])
  simp only [Tr.flat,Tr.size,List.flatMap_append,zt,List.flatMap_nil,qC]
  rw [show((ac+(a.size+b.size+1):Nat):Int)-1=((ac+a.size+b.size:Nat):Int)from by omega,show((ac+(a.size+b.size+1):Nat):Int)=((ac+a.size+b.size:Nat):Int)+1 from by omega]
  exact this
def YH(e:aW):Prop:= ∀n∈e.Nodes,VA n.Value
def Bc{e:aW}(h:nw e.Nodes=true\/e.Nodes.length=0)(hr:YH e):Cm Bd (eB e) e:=by
 have key:e.Nodes.length<=1000/\Cm (Ey (e.Nodes.length:Int)) (e.Nodes.flatMap nB) e.Nodes:=by
  rcases h with h|h
  ·unfold nw at h
   obtain⟨t,D⟩:=MO.1 h
   obtain⟨X,K,h3⟩:=nR D
   have hl:e.Nodes.length=t.size:=by rw [K,t.flat_len]
   refine⟨by omega,fun r=>?_⟩
   have h4:=TU t X (Zp t 0 (by rw [<-K];exact hr)) 0 [] r
   unfold Ey
   rw [xM,hl,K]
   rw [show((0:Nat):Int)=(0:Int)from rfl]at h4
   rw [h4];rfl
  ·rw [tH h]
   exact⟨by simp,fun r=>rfl⟩
 have:=Cm.bind (q:=fun n=>w4 aW.mk (Ey n)) (WC (x:=(e.Nodes.length:Int)) ⟨by omega,by omega⟩) (key.2.map aW.mk)
 exact this
end Go.Proofs.YtdohlidddcgfjaaGreat


/- cE of this claim: H17. -/
set_option linter.all false
namespace Go.Proofs.YtdohlidddcgfjaaGreat
open Go

def Br(e:aW):Prop:=nw e.Nodes=true\/e.Nodes.length=0
structure GN(n:tV):Prop where
 prt:0<=prt n.Op
 own:rP n=true
 scan:n.Op=1\/n.Op=9->ij n.Table/\n.Kinds.length<=255/\ ∀k∈n.Kinds,ij k
 cond:n.Op=2\/n.Op=3->Br n.Cond
 grp:n.Op=4\/n.Op=10\/n.Op=11->n.Keys.length<=255/\(∀k∈n.Keys,ij k)/\n.Aggs.length<=255/\ ∀a∈n.Aggs,ij a.Tag/\Br a.Arg
 prj:n.Op=5->n.Items.length<=255/\ ∀e∈n.Items,Br e
 srt:n.Op=8->n.Order.length<=255/\(∀o∈n.Order,ij o.Col)/\ -1<=n.Limit/\n.Limit<=2147483647
def Sw{g:fU}{a:List Int}(h:(BU g a).2=true):ij g.Tag/\Br g.Arg:=by
 unfold BU at h
 unfold ij
 by_cases X:g.Tag=1
 ·rw [bJ X]at h
  exact⟨by omega,.inr (by simpa using h)⟩
 rw [bk X]at h
 by_cases h3:g.Tag=3
 ·rw [bJ h3]at h
  simp only [pt,vC,mp]at h
  exact⟨by omega,.inl (rn h.1.1.1)⟩
 rw [bk h3]at h
 split at h
 ·simp only [pt,vC,mp]at h
  exact⟨by omega,.inl (rn h.1.1)⟩
 ·simp only [pt,vC,mp]at h
  exact⟨by omega,.inl (rn h.1.1)⟩
def Gt{e:aW}{ks:List Int}(h:HI e ks=true):Br e:=by
 unfold HI at h
 simp only [pt,vC]at h
 exact .inl (rn h.1)
def O3{a:List Int}{e:Int}(ha:a.length<=16)(h:wj a e=false):ij e:=by
 simp [wj]at h
 unfold ij
 omega
def Ki{n:tV}(hn:jJ n)(h4:n.Op=4){a b k:List Int}(ha:a.length<=16)(h:cK n a b=some (k,true)):n.Keys.length<=255/\(∀k∈n.Keys,ij k)/\n.Aggs.length<=255/\ ∀a∈n.Aggs,ij a.Tag/\Br a.Arg:=by
 rw [YE hn h4]at h
 cases hany:n.Keys.any (wj a)with
 |true=>rw [hany,bJ rfl]at h;cases h
 |false=>
  rw [hany,bk (by simp)]at h
  injection h with h
  injection h with K h3
  simp only [pt,mo,mp]at h3
  refine⟨by omega,fun e he=>?_,by omega,fun g Y=>?_⟩
  ·exact O3 ha (by have:=I3.1 hany e he;simpa using this)
  ·have:=h3.1.1.1 g Y
   rw [<-(BT g a).1]at this
   exact Sw this
def G8{a:List Int}: ∀(ks:List Int) (i:Nat),xE a ks i=true->i+ks.length<=255-> ∀k∈ks,ij k
 |[],_,_,_=>fun k hk=>by cases hk
 |k::tl,i,h,hl=>fun x V=>by
  unfold xE at h
  simp only [pt,vC]at h
  simp only [iG]at hl
  rcases kj.1 V with rfl|V
  ·unfold ij;omega
  ·exact G8 tl (i+1) h.2 (by omega) x V
def TW{g:fU}{k:Int}(h:(fk g k).2=true):ij g.Tag/\Br g.Arg:=by
 unfold fk at h
 unfold ij
 repeat' split at h
 all_goals simp at h
 all_goals exact⟨by omega,.inr (by rw [h.1];rfl)⟩
def LZ{l:aq}(h:Lb l){e:tV}(hA:gB l.nodes l.n.A=some e){r:Bool×aq}(hr:d7 l=some r)(D:r.1=true):l.n.Keys.length<=255/\(∀k∈l.n.Keys,ij k)/\l.n.Aggs.length<=255/\ ∀a∈l.n.Aggs,ij a.Tag/\Br a.Arg:=by
 have hk:=h.n.keys
 have Y:=h.n.aggs
 have ha:=h.a
 have hw:IntKind.i64.wrap ((l.n.Keys.length:Int)+(l.n.Aggs.length:Int))=((l.n.Keys.length+l.n.Aggs.length:Nat):Int):=by rw [fg (by omega) (by omega)];omega
 unfold d7 at hr
 rw [hA,bG]at hr
 by_cases hc:((((e.Op==(9:Int))&&(decide ((l.n.Keys.length:Int)<=(3:Int))))&&(decide ((l.n.Aggs.length:Int)<=(12:Int))))&&((IntKind.i64.wrap ((l.n.Keys.length:Int)+(l.n.Aggs.length:Int)))==(l.a_.length:Int)))=true
 ·have hc' :(l.n.Keys.length<=3/\l.n.Aggs.length<=12)/\l.n.Keys.length+l.n.Aggs.length=l.a_.length:=by
   rw [hw]at hc
   simp only [pt,vC,mp]at hc
   omega
  rw [hc,bk (by simp),tY _ (by omega),bG,Cj (by omega) l.a_ l.n.Keys 0 true (uT _),oX]at hr
  have:=EY (l:=l) hk l.n.Aggs 0 (xE l.a_ l.n.Keys 0) (l.a_.take l.n.Keys.length) (l.a_.drop l.n.Keys.length) (by simp;omega) (by simp;omega) rfl (by simp;omega)
  rw [ui]at this
  rw [this]at hr
  cases hr
  simp only [pt,mo]at D
  refine⟨by omega,G8 _ _ D.1 (by omega),by omega,fun g hg' =>?_⟩
  obtain⟨j,hj,hjx⟩:=List.getElem_of_mem hg'
  have hlen:(l.a_.drop l.n.Keys.length).length=l.n.Aggs.length:=by simp;omega
  have hm:(l.n.Aggs[j],(l.a_.drop l.n.Keys.length)[j]'(by omega))∈l.n.Aggs.zip (l.a_.drop l.n.Keys.length):=by
   rw [List.mem_iff_getElem]
   exact⟨j,by simp;omega,by simp⟩
  have:=D.2 _ hm
  rw [hjx]at this
  exact TW this
 ·rw [AL]at hc
  rw [hc,bJ (show(!false)=true from rfl)]at hr
  cases hr
  cases D
def Yy{l:aq}(h:Lb l)(hp:0<=prt l.n.Op)(ho:rP l.n=true)(hA:prt l.n.Op≠0-> ∃e,gB l.nodes l.n.A=some e){R:List Int}(hR:R.length<=16)(hk:px l.n.Op l ()=some (true,{l with result:=R})):GN l.n:=by
 have m13:F0 l.n.Op=true-> ∃k,cK l.n l.a_ l.b=some (k,true)/\k.length<=16:=fun h8=>by
  obtain⟨ok,R',o,k,g1,g2,g3,_⟩:=Rh h h8
  have g1' :px l.n.Op l ()=some (ok,{l with result:=R' }):=g1
  rw [hk]at g1'
  injection g1' with g1'
  injection g1' with q1 q2
  have q3:R=R' :=congrArg aq.result q2
  subst q3
  subst q1
  have:decide (R.length<=16)=true:=by simpa using hR
  rw [this,oX]at g3
  have g4:=g3.symm
  simp only [pt,mp]at g4
  rw [g4.1]at g2
  exact⟨k,g2,g4.2⟩
 refine⟨hp,ho,fun X=>?_,fun X=>?_,fun X=>?_,fun X=>?_,fun X=>?_⟩
 ·rcases X with X|X
  ·obtain⟨k,g1,g2⟩:=m13 (by rw [X];rfl)
   rw [Vz h.n X]at g1
   injection g1 with g1
   injection g1 with g3 g4
   simp only [pt,mo,mp]at g4
   unfold ij
   refine⟨by omega,by omega,fun x V=>?_⟩
   have:=g4.1.1.1.1 x V
   omega
  ·rw [X]at hk
   have hk' :iH l=some (true,{l with result:=R}):=hk
   rw [ES]at hk'
   injection hk' with hk'
   injection hk' with q1 q2
   unfold Io at q1
   simp only [pt,mo,mp]at q1
   unfold ij
   refine⟨by omega,by omega,fun x V=>?_⟩
   have:=q1.2 x V
   omega
 ·rcases X with X|X
  ·obtain⟨k,g1,g2⟩:=m13 (by rw [X];rfl)
   rw [YG X h.a h.b]at g1
   injection g1 with g1
   injection g1 with g3 g4
   exact Gt g4
  ·obtain⟨k,g1,g2⟩:=m13 (by rw [X];rfl)
   rw [YF X]at g1
   injection g1 with g1
   injection g1 with g3 g4
   exact Gt g4
 ·rcases X with X|X|X
  ·obtain⟨k,g1,g2⟩:=m13 (by rw [X];rfl)
   exact Ki h.n X h.a g1
  ·rw [X]at hk
   have hk' :eO l=some (true,{l with result:=R}):=hk
   unfold eO at hk'
   obtain⟨q,q1,q2⟩:=bs hk'
   by_cases hq:q.1=true
   ·have hn4:jJ {l.n with Op:=4}:=⟨h.n.cond,h.n.kinds,h.n.keys,h.n.aggs,h.n.items,h.n.order,h.n.args,h.n.exprs⟩
    obtain⟨ok,R',o,k,g1,g2,g3,_⟩:=An h (n:={l.n with Op:=4}) rfl hn4 rfl rfl []
    rw [g1]at q1
    cases q1
    have hq:ok=true:=hq
    rw [hq]at g3
    rw [<-g3]at g2
    exact Ki (n:={l.n with Op:=4}) hn4 rfl h.a g2
   ·rw [bJ (by simpa using hq)]at q2
    cases q2
  ·rw [X]at hk
   have hk' :d7 l=some (true,{l with result:=R}):=hk
   obtain⟨e,he⟩:=hA (by rw [X];decide)
   exact LZ h he hk' rfl
 ·obtain⟨k,g1,g2⟩:=m13 (by rw [X];rfl)
  rw [Wz h.n X]at g1
  injection g1 with g1
  injection g1 with g3 g4
  simp only [pt,mo,mp,vC]at g4
  exact⟨by omega,fun e he=> .inl (rn (g4.1.1 e he))⟩
 ·obtain⟨k,g1,g2⟩:=m13 (by rw [X];rfl)
  have ha:=h.a
  rw [YD h.n X]at g1
  injection g1 with g1
  injection g1 with g3 g4
  simp only [pt,mo,mp]at g4
  refine⟨by omega,fun o ho=>?_,by omega,by omega⟩
  have:=g4.1.1.1 o ho
  unfold ij
  omega
def YN:List tV->Nat->List Int->Prop
 |[],_,_=>True
 |e::tl,i,st=>SR e st/\GN e/\YN tl (i+1) ((i:Int)::st.drop (prt e.Op).toNat)
section
variable{ns:List tV}{l:aq}{i:Nat}
def Oy(h:PD ns l i)(hs:om ns){e:tV}(he:ns[i]? =some e){l' :aq}(D:dC l (i:Int) (px e.Op)=some (true,l')):SR e l.open_.reverse/\GN e/\l'.open_.reverse=(i:Int)::l.open_.reverse.drop (prt e.Op).toNat:=by
 have hi:=(tp.1 he).1
 have h90:=hs.len
 have hse:=hs.n e (rC he)
 have hkl:=h.k.len
 have hopen:=h.k.open_
 by_cases Y:SR e l.open_.reverse/\rP e=true
 ·obtain⟨hp,ho⟩:=Y
  have hprt:0<=prt e.Op:=by rcases hp with h|h|h<;>omega
  have hA1:prt e.Op≠0->0<=e.A/\e.A<(i:Int):=fun hne=>by
   rcases hp with h|⟨_,_,r,hr⟩|⟨_,r,hr⟩
   ·exact absurd h.1 hne
   ·exact hopen e.A (I2.1 (by rw [hr];simp))
   ·exact hopen e.A (I2.1 (by rw [hr];simp))
  have hlb:Lb (w6 l e (kA l.kinds e.A) (kA l.kinds e.B)):=⟨hse,Cl h.k.kinds _,Cl h.k.kinds _⟩
  have hA2:prt (w6 l e (kA l.kinds e.A) (kA l.kinds e.B)).n.Op≠0-> ∃x,gB (w6 l e (kA l.kinds e.A) (kA l.kinds e.B)).nodes (w6 l e (kA l.kinds e.A) (kA l.kinds e.B)).n.A=some x:=fun hne=>by
   have:=hA1 hne
   refine⟨ns[e.A.toNat]'(by omega),?_⟩
   show gB l.nodes e.A=_
   rw [h.k.nodes,m6 e.A.toNat (by omega),lI (by omega)]
  obtain⟨ok0,R0,g1,_⟩:=KJ hlb hA2 hprt
  have g1' :px e.Op (w6 l e (kA l.kinds e.A) (kA l.kinds e.B)) ()=some (ok0,{w6 l e (kA l.kinds e.A) (kA l.kinds e.B)with result:=R0}):=g1
  obtain⟨l2,t1,t2⟩:=D6 h.k (by omega) (by omega) he hse hp ho g1'
  rw [D]at t1
  injection t1 with t1
  injection t1 with t3 t4
  subst t4
  have t5:=t2 t3.symm
  have t6:=t3.symm
  simp only [pt,mp]at t6
  have hok:ok0=true:=t6.2.2.1
  subst hok
  exact⟨hp,Yy hlb hprt ho hA2 t6.2.2.2 g1',t5.2⟩
 ·obtain⟨l2,t1⟩:=Gw h.k (by omega) (by omega) he hse Y
  rw [D]at t1
  cases t1
def Kb(hs:om ns): ∀(tl:List tV) (i:Nat) (l:aq),ns.drop i=tl->PD ns l i-> ∀{out:List (List Int)} {w:Int},fY ns ((mD).getD []) tl i (-1) l=some (out,w,0)->YN tl i l.open_.reverse
 |[],_,_,_,_,_,_,_=>trivial
 |e::tl,i,l,hd,hS,out,w,h=>by
  obtain⟨hidx,hi,hd'⟩:=jb hd
  rw [eu]at hidx
  obtain⟨ok,l',g1,g2,g3⟩:=Ca hS hs hidx tl
  unfold fY at h
  have g1' :dC l (i:Int) ((uY ((mD).getD []) e.Op).getD (fun _ _=>none))=some (ok,l'):=g1
  rw [g1',bG]at h
  cases ok with
  |false=>
   rw [bJ (by rfl)]at h
   unfold kc at h
   rw [bk (by simp;omega),qw l' (by omega)]at h
   cases h
  |true=>
   rw [bk (by simp)]at h
   obtain⟨k1,k2,k3⟩:=Oy hS hs hidx g1
   have:=Kb hs tl (i+1) l' hd' (g2 rfl).1 h
   rw [k3]at this
   exact⟨k1,k2,this⟩
end
def PJ{ns:List tV}(hs:om ns){out:List (List Int)}{w:Int}(h:jV ns=some (out,w,0)):1<=ns.length/\ns.length<=60/\YN ns 0 []:=by
 unfold jV at h
 split at h
 ·cases h
 ·rename_i hc
  simp only [AK,mp,not_or]at hc
  exact⟨by omega,by omega,Kb hs ns 0 ⟨ns,[],[],⟨0,0,0,0,[],false,⟨[]⟩,[],[],[],[],0⟩,[],[],[]⟩ rfl ⟨⟨rfl,rfl,fun p hp=>(by cases hp),eJ _,fun k hk=>(by cases hk),fun j hj=>by omega⟩,.nil,fun k hk=>by cases hk⟩ h⟩
end Go.Proofs.YtdohlidddcgfjaaGreat


/- cE of this claim: H18. -/
set_option linter.all false
namespace Go.Proofs.YtdohlidddcgfjaaGreat
open Go

structure YI(n:tV):Prop where
 cond:YH n.Cond
 item: ∀e∈n.Items,YH e
 arg: ∀a∈n.Aggs,YH a.Arg
def rgP(p:eV):Prop:= ∀f∈p.Frags,∀n∈f.Nodes,YI n
def EC{n:tV}(h:Cg n=true):(n.Op≠1->n.Table=0/\n.Kinds=[])/\(n.Op≠2->n.Left=false)/\(n.Op≠2->n.Op≠3->n.Cond=⟨[]⟩)/\(n.Op≠4->n.Keys=[]/\n.Aggs=[])/\(n.Op≠5->n.Items=[])/\(n.Op≠8->n.Order=[]/\n.Limit=0):=by
 have z: ∀{α:Type} (l:List α),¬((0:Int)<(l.length:Int))->l=[]:=fun l hl=>tH (by omega)
 unfold Cg oJ at h
 split at h
 ·simp at h
 rename_i c1
 split at h
 ·simp at h
 rename_i c2
 split at h
 ·simp at h
 rename_i c3
 simp only [AK,pt,xP,ne_eq,mp,Option.getD_some,vC]at c1 c2 c3 h
 refine⟨fun V=>?_,fun V=>?_,fun V hy=>?_,fun V=>?_,fun V=>?_,fun V=>?_⟩
 ·have X: ¬(¬n.Table=0\/(0:Int)<(n.Kinds.length:Int)):=fun hh=>c1 ⟨V,hh⟩
  exact⟨Decidable.byContradiction fun hh=>X (.inl hh),z _ fun hh=>X (.inr hh)⟩
 ·cases hl:n.Left with
  |false=>rfl
  |true=>exact absurd (.inl ⟨V,hl⟩) c2
 ·have:=z _ fun hh=>c2 (.inr ⟨⟨V,hy⟩,hh⟩)
  generalize n.Cond=c at this
  obtain⟨l⟩:=c
  have:l=[]:=this
  rw [this]
 ·exact⟨z _ fun hh=>c3 (.inl ⟨V,.inl hh⟩),z _ fun hh=>c3 (.inl ⟨V,.inr hh⟩)⟩
 ·exact z _ fun hh=>c3 (.inr ⟨V,hh⟩)
 ·rcases h with h|⟨X,K⟩
  ·exact absurd h V
  ·exact⟨tH (by omega),K⟩
def OZ{n:tV}(hp:0<=prt n.Op)(h:rP n=true):(n.Op≠1->n.Op≠9->n.Table=0/\n.Kinds=[])/\(n.Op≠2->n.Left=false)/\(n.Op≠2->n.Op≠3->n.Cond=⟨[]⟩)/\(n.Op≠4->n.Op≠10->n.Op≠11->n.Keys=[]/\n.Aggs=[])/\(n.Op≠5->n.Items=[])/\(n.Op≠8->n.Order=[]/\n.Limit=0):=by
 rcases y4 hp with h8|h9|Y
 ·rw [Nf h8]at h
  obtain⟨a1,a2,a3,a4,a5,a6⟩:=EC h
  have:=oP h8
  exact⟨fun X _=>a1 X,a2,a3,fun X _ _=>a4 X,a5,a6⟩
 ·rw [TA h9]at h
  obtain⟨a1,a2,a3,a4,a5,a6⟩:=EC h
  have k2:(1:Int)≠2:=by decide
  have k3:(1:Int)≠3:=by decide
  have k4:(1:Int)≠4:=by decide
  have k5:(1:Int)≠5:=by decide
  have k8:(1:Int)≠8:=by decide
  exact⟨fun _ X=>absurd h9 X,fun _=>a2 k2,fun _ _=>a3 k2 k3,fun _ _ _=>a4 k4,fun _=>a5 k5,fun _=>a6 k8⟩
 ·rw [Nc Y]at h
  obtain⟨a1,a2,a3,a4,a5,a6⟩:=EC h
  have k1:(4:Int)≠1:=by decide
  have k2:(4:Int)≠2:=by decide
  have k3:(4:Int)≠3:=by decide
  have k5:(4:Int)≠5:=by decide
  have k8:(4:Int)≠8:=by decide
  exact⟨fun _ _=>a1 k1,fun _=>a2 k2,fun _ _=>a3 k2 k3,fun X K h3=>by omega,fun _=>a5 k5,fun _=>a6 k8⟩
def YA{a:fU}(h:ij a.Tag/\Br a.Arg)(hr:YH a.Arg):Cm QX (SO a) a:=
 Cm.bind (l:=[IntKind.u8.wrap a.Tag]) (q:=fun f=>w4 (fU.mk f) Bd) (uz h.1) ((Bc h.2 hr).map (fU.mk a.Tag))
def WF{o:kF}(h:ij o.Col):Cm Tu (WG o) o:=
 Cm.bind (l:=[IntKind.u8.wrap o.Col]) (q:=fun f=>w4 (kF.mk f) EB) (uz h) ((JS o.Desc).map (kF.mk o.Col))
def OY{n:tV}(h:GN n)(hr:YI n){e:List Int×Int}{t:List Int}(hp:wi (prt n.Op).toNat e.1=some (n.A,n.B,t)):Cm (Ez n.Op e) (AD n) (n,t++[e.2],e.2+1):=by
 obtain⟨o1,o2,o3,o4,o5,o6⟩:=OZ h.prt h.own
 have hop:=y4 h.prt
 have hop:n.Op=1\/n.Op=2\/n.Op=3\/n.Op=4\/n.Op=5\/n.Op=6\/n.Op=7\/n.Op=8\/n.Op=9\/n.Op=10\/n.Op=11:=by
  rcases hop with h8|h9|h9|h9
  ·have:=oP h8;omega
  all_goals omega
 unfold Ez
 by_cases X:n.Op=1\/n.Op=9
 ·rw [bJ (by simpa using X)]
  obtain⟨b1,b2,b3⟩:=h.scan X
  have e2:=o2 (by omega)
  have e3:=o3 (by omega) (by omega)
  obtain⟨e4,e5⟩:=o4 (by omega) (by omega) (by omega)
  have e6:=o5 (by omega)
  obtain⟨e7,e8⟩:=o6 (by omega)
  have en:n=⟨n.Op,n.A,n.B,n.Table,n.Kinds,false,⟨[]⟩,[],[],[],[],0⟩:=by
   obtain⟨x,A,B,T,h2,Lf,C,Ks,Ag,It,Or,Li⟩:=n;simp only at e2 e3 e4 e5 e6 e7 e8;rw [e2,e3,e4,e5,e6,e7,e8]
  have hp0:(prt n.Op).toNat=0:=by rcases X with X|X<;>rw [X]<;>rfl
  rw [hp0]at hp
  have q:=Cm.bind (l:=[IntKind.u8.wrap n.Table]) (q:=fun t=>ge Lx fun ks=>lU 0 (fun L R=>(⟨n.Op,L,R,t,ks,false,⟨[]⟩,[],[],[],[],0⟩:tV)) e) (uz b1) (Cm.bind (Ia n.Kinds b2 b3) (nD (fun L R=>(⟨n.Op,L,R,n.Table,n.Kinds,false,⟨[]⟩,[],[],[],[],0⟩:tV)) hp))
  rw [qC,<-en]at q
  exact q.eq (by simp [AD,X])
 have t1:=o1 (by omega) (by omega)
 rw [bk (by simpa using X)]
 by_cases K:n.Op=2
 ·rw [bJ (by simpa using K)]
  have e3:=h.cond (.inl K)
  obtain⟨e4,e5⟩:=o4 (by omega) (by omega) (by omega)
  have e6:=o5 (by omega)
  obtain⟨e7,e8⟩:=o6 (by omega)
  have en:n=⟨n.Op,n.A,n.B,0,[],n.Left,n.Cond,[],[],[],[],0⟩:=by
   obtain⟨x,A,B,T,h2,Lf,C,Ks,Ag,It,Or,Li⟩:=n;simp only at t1 e4 e5 e6 e7 e8;rw [t1.1,t1.2,e4,e5,e6,e7,e8]
  have hp0:(prt n.Op).toNat=2:=by rw [K];rfl
  rw [hp0]at hp
  have q:=Cm.bind (l:=[fB n.Left]) (q:=fun f=>ge Bd fun c=>lU 2 (fun L R=>(⟨n.Op,L,R,0,[],f,c,[],[],[],[],0⟩:tV)) e) (JS n.Left) (Cm.bind (Bc e3 hr.cond) (nD (fun L R=>(⟨n.Op,L,R,0,[],n.Left,n.Cond,[],[],[],[],0⟩:tV)) hp))
  rw [qC,<-en]at q
  exact q.eq (by simp [AD,K])
 have t2:=o2 K
 rw [bk (by simpa using K)]
 by_cases h3:n.Op=3
 ·rw [bJ (by simpa using h3)]
  have e3:=h.cond (.inr h3)
  obtain⟨e4,e5⟩:=o4 (by omega) (by omega) (by omega)
  have e6:=o5 (by omega)
  obtain⟨e7,e8⟩:=o6 (by omega)
  have en:n=⟨n.Op,n.A,n.B,0,[],false,n.Cond,[],[],[],[],0⟩:=by
   obtain⟨x,A,B,T,h2,Lf,C,Ks,Ag,It,Or,Li⟩:=n;simp only at t1 t2 e4 e5 e6 e7 e8;rw [t1.1,t1.2,t2,e4,e5,e6,e7,e8]
  have hp0:(prt n.Op).toNat=1:=by rw [h3];rfl
  rw [hp0]at hp
  have q:=Cm.bind (q:=fun c=>lU 1 (fun L R=>(⟨n.Op,L,R,0,[],false,c,[],[],[],[],0⟩:tV)) e) (Bc e3 hr.cond) (nD (fun L R=>(⟨n.Op,L,R,0,[],false,n.Cond,[],[],[],[],0⟩:tV)) hp)
  rw [qC,<-en]at q
  exact q.eq (by simp [AD,h3])
 have t3:=o3 K h3
 rw [bk (by simpa using h3)]
 by_cases h4:n.Op=4\/n.Op=10\/n.Op=11
 ·rw [bJ (by simpa [or_assoc] using h4)]
  obtain⟨b1,b2,b3,b4⟩:=h.grp h4
  have e6:=o5 (by omega)
  obtain⟨e7,e8⟩:=o6 (by omega)
  have en:n=⟨n.Op,n.A,n.B,0,[],false,⟨[]⟩,n.Keys,n.Aggs,[],[],0⟩:=by
   obtain⟨x,A,B,T,h2,Lf,C,Ks,Ag,It,Or,Li⟩:=n;simp only at t1 t2 t3 e6 e7 e8;rw [t1.1,t1.2,t2,t3,e6,e7,e8]
  have hp0:(prt n.Op).toNat=1:=by rcases h4 with X|X|X<;>rw [X]<;>rfl
  rw [hp0]at hp
  have q:=Cm.bind (q:=fun ks=>ge (Lz QX) fun a=>lU 1 (fun L R=>(⟨n.Op,L,R,0,[],false,⟨[]⟩,ks,a,[],[],0⟩:tV)) e) (Ia n.Keys b1 b2) (Cm.bind (Be n.Aggs b3 fun a ha=>YA (b4 a ha) (hr.arg a ha)) (nD (fun L R=>(⟨n.Op,L,R,0,[],false,⟨[]⟩,n.Keys,n.Aggs,[],[],0⟩:tV)) hp))
  rw [qC,<-en]at q
  exact q.eq (by rcases h4 with h4|h4|h4<;>simp [AD,h4])
 have t4:=o4 (by omega) (by omega) (by omega)
 rw [bk (by simpa [or_assoc] using h4)]
 by_cases h5:n.Op=5
 ·rw [bJ (by simpa using h5)]
  obtain⟨b1,b2⟩:=h.prj h5
  obtain⟨e7,e8⟩:=o6 (by omega)
  have en:n=⟨n.Op,n.A,n.B,0,[],false,⟨[]⟩,[],[],n.Items,[],0⟩:=by
   obtain⟨x,A,B,T,h2,Lf,C,Ks,Ag,It,Or,Li⟩:=n;simp only at t1 t2 t3 t4 e7 e8;rw [t1.1,t1.2,t2,t3,t4.1,t4.2,e7,e8]
  have hp0:(prt n.Op).toNat=1:=by rw [h5];rfl
  rw [hp0]at hp
  have q:=Cm.bind (q:=fun a=>lU 1 (fun L R=>(⟨n.Op,L,R,0,[],false,⟨[]⟩,[],[],a,[],0⟩:tV)) e) (Be n.Items b1 fun a ha=>Bc (b2 a ha) (hr.item a ha)) (nD (fun L R=>(⟨n.Op,L,R,0,[],false,⟨[]⟩,[],[],n.Items,[],0⟩:tV)) hp)
  rw [qC,<-en]at q
  exact q.eq (by simp [AD,h5])
 have t5:=o5 h5
 rw [bk (by simpa using h5)]
 by_cases h8:n.Op=8
 ·rw [bJ (by simpa using h8)]
  obtain⟨b1,b2,b3,b4⟩:=h.srt h8
  have el:Il (n.Limit+1)=n.Limit:=by unfold Il;rw [rF,rF];omega
  have en:n=⟨n.Op,n.A,n.B,0,[],false,⟨[]⟩,[],[],[],n.Order,Il (n.Limit+1)⟩:=by
   rw [el]
   obtain⟨x,A,B,T,h2,Lf,C,Ks,Ag,It,Or,Li⟩:=n;simp only at t1 t2 t3 t4 t5;rw [t1.1,t1.2,t2,t3,t4.1,t4.2,t5]
  have hp0:(prt n.Op).toNat=1:=by rw [h8];rfl
  rw [hp0]at hp
  have eb:F5 n=ib (n.Limit+1) 4:=by
   unfold F5
   have:IntKind.u64.wrap (IntKind.i64.wrap (n.Limit+1))=n.Limit+1:=by rw [xL,rF];omega
   rw [this]
  have q:=Cm.bind (q:=fun a=>ge p32 fun l=>lU 1 (fun L R=>(⟨n.Op,L,R,0,[],false,⟨[]⟩,[],[],[],a,Il l⟩:tV)) e) (Be n.Order b1 fun o ho=>WF (b2 o ho)) (Cm.bind (WB (x:=n.Limit+1) (by omega) (by omega)) (nD (fun L R=>(⟨n.Op,L,R,0,[],false,⟨[]⟩,[],[],[],n.Order,Il (n.Limit+1)⟩:tV)) hp))
  rw [qC,<-en,<-eb]at q
  exact q.eq (by simp [AD,h8])
 obtain⟨e7,e8⟩:=o6 h8
 rw [bk (by simpa using h8)]
 have en:n=⟨n.Op,n.A,n.B,0,[],false,⟨[]⟩,[],[],[],[],0⟩:=by
  obtain⟨x,A,B,T,h2,Lf,C,Ks,Ag,It,Or,Li⟩:=n;simp only at t1 t2 t3 t4 t5 e7 e8;rw [t1.1,t1.2,t2,t3,t4.1,t4.2,t5,e7,e8]
 have ec:AD n=[]:=by
  unfold AD
  rw [bk X,bk K,bk h3,bk h4,bk h5,bk h8]
 rw [ec]
 by_cases h7:n.Op=7
 ·rw [bJ (by simpa using h7)]
  have hp0:(prt n.Op).toNat=2:=by rw [h7];rfl
  rw [hp0]at hp
  have q:=nD (fun L R=>(⟨n.Op,L,R,0,[],false,⟨[]⟩,[],[],[],[],0⟩:tV)) hp
  rw [<-en]at q
  exact q
 ·rw [bk (by simpa using h7)]
  have hp0:(prt n.Op).toNat=1:=by rw [show n.Op=6 by omega];rfl
  rw [hp0]at hp
  have q:=nD (fun L R=>(⟨n.Op,L,R,0,[],false,⟨[]⟩,[],[],[],[],0⟩:tV)) hp
  rw [<-en]at q
  exact q
def QS{op:Int}(h:0<=prt op):ij op:=by
 unfold ij
 rcases y4 h with h8|h9|h9|h9
 ·have:=oP h8;omega
 all_goals omega
def QV{n:tV}(h:GN n)(hr:YI n){e:List Int×Int}{t:List Int}(hp:wi (prt n.Op).toNat e.1=some (n.A,n.B,t)):CmE Na e (tQ n) n (t++[e.2],e.2+1):=
 Cm.bind (l:=[IntKind.u8.wrap n.Op]) (q:=fun x=>Ez x e) (uz (QS h.prt)) (OY h hr hp)
def Tv{n:tV}{st:List Int}(h:SR n st):wi (prt n.Op).toNat st.reverse=some (n.A,n.B,(st.drop (prt n.Op).toNat).reverse):=by
 rcases h with⟨X,K,h3⟩|⟨X,K,r,rfl⟩|⟨X,r,rfl⟩
 ·rw [X,K,h3];rfl
 ·rw [X,K]
  show wi 1 _=some (n.A,-1,r.reverse)
  simp [wi]
 ·rw [X]
  show wi 2 _=some (n.A,n.B,r.reverse)
  simp [wi,List.dropLast_append_of_ne_nil]
def EA: ∀(ns:List tV) (i:Nat) (st:List Int),YN ns i st->(∀n∈ns,YI n)-> ∃e',MI Na ns.length (st.reverse,(i:Int)) (ns.flatMap tQ) ns e'
 |[],_,_,_,_=>⟨_,MI.nil⟩
 |n::ns,i,st,⟨X,K,h3⟩,hr=>by
  obtain⟨e',q⟩:=EA ns (i+1) _ h3 fun m hm=>hr m (ry _ hm)
  have q1:=MI.one (QV K (hr n (qa ..)) (e:=(st.reverse,(i:Int))) (Tv X))
  refine⟨e',?_⟩
  rw [List.reverse_cons]at q
  have:=q1.app q rfl
  rw [Nat.add_comm 1]at this
  rw [zt]
  exact this
structure VH(f:dv):Prop where
 at_:ij f.At
 way:ij f.Way
 cols:f.Cols.length<=255/\ ∀c∈f.Cols,ij c
 len:f.Nodes.length<=255
 ns:YN f.Nodes 0 []
def QW{f:dv}(h:VH f)(hr: ∀n∈f.Nodes,YI n):Cm Nb (Po f) f:=by
 obtain⟨e',q⟩:=EA f.Nodes 0 [] h.ns hr
 have q1:Cm (Ba (f.Nodes.length:Int)) (f.Nodes.flatMap tQ) f.Nodes:=fun r=>by
  unfold Ba
  have:=q r
  rw [xM]
  rw [show(([]:List Int).reverse,((0:Nat):Int))=(([]:List Int),(0:Int))from rfl]at this
  rw [this];rfl
 have hl:=h.len
 have:=Cm.bind (l:=[IntKind.u8.wrap f.At]) (q:=fun a=>ge p8 fun w=>ge Lx fun cs=>ge p8 fun n=>w4 (fun ns=>dv.mk ns a w cs) (Ba n)) (uz h.at_)
  (Cm.bind (l:=[IntKind.u8.wrap f.Way]) (uz h.way) (Cm.bind (Ia f.Cols h.cols.1 h.cols.2) (Cm.bind (l:=[IntKind.u8.wrap (f.Nodes.length:Int)]) (uz (x:=(f.Nodes.length:Int)) ⟨by omega,by omega⟩) (q1.map fun ns=>dv.mk ns f.At f.Way f.Cols))))
 exact this.eq (by simp [Po])
def TN{ns:List tV}(hs:om ns)(h:Pd ns=true):ns.length<=60/\YN ns 0 []:=by
 unfold Pd at h
 cases hk:jV ns with
 |none=>rw [hk]at h;cases h
 |some r=>
  obtain⟨out,w,e⟩:=r
  rw [hk]at h
  have he:e=0:=by simpa using h
  subst he
  exact(PJ hs hk).2
def LY{f:dv}(hs:om f.Nodes)(h:wr f=true):VH f:=by
 unfold wr at h
 simp only [pt,AK,vC,mp,DI]at h
 obtain⟨⟨X,K⟩,⟨h3,h4⟩,h5⟩:=h
 obtain⟨g1,g2⟩:=TN hs X
 refine⟨by unfold ij;omega,by unfold ij;omega,⟨by omega,fun c hc=>?_⟩,by omega,g2⟩
 have:=I3.1 h5 c hc
 simp [CB]at this
 unfold ij
 omega
def QU{p:eV}(hs: ∀f∈p.Frags,om f.Nodes)(h:CY p=true)(hr:rgP p):Cm M8 (Tz p) p:=by
 unfold CY at h
 simp only [pt,mp,mo]at h
 obtain⟨⟨X,K⟩,h3⟩:=h
 exact(Be p.Frags (by omega) fun f hf=>QW (LY (hs f hf) (h3 f hf)) (hr f hf)).map eV.mk
end Go.Proofs.YtdohlidddcgfjaaGreat


/- cE of this claim: H19. -/
set_option linter.all false
namespace Go.Proofs.YtdohlidddcgfjaaGreat
open Go

def Dl(p:eV)(hr:rgP p):qn p=some true:=by
 unfold qn
 rw [S8,bG,bk (by simp)]
 rcases LC p with ho|⟨ho,hs⟩
 ·rw [ho];rfl
 rw [ho,bG,bk (by simp)]
 unfold sK
 rw [Bu p hs,HW p hs,bG]
 cases hl:CY p with
 |false=>rfl
 |true=>
  rw [bk (by simp)]
  have hw:=YT [] p hs (TL hs hl) (by simp)
  have hd:lF (Tz p)=some (p,0):=by
   have X:=Tx hs
   rw [Gc (by omega) (Vc p)]
   have K:=QU (fun f hf=>Ec (hs.f f hf)) hl hr []
   rw [qC]at K
   rw [K]
   show(pV p).bind _=_
   rw [Bu p hs,hl]
   rfl
  have hw' :kO ⟨[]⟩ p=some ⟨Tz p⟩:=hw
  rw [hw',bG,bG,bG,bk (by simp)]
  show(lF (Tz p)).bind _=_
  rw [hd,bG,bJ (by simp),Tl p hs,bG,CD,bG,bG,bJ (by simp),FV p p hs]
  simp
end Go.Proofs.YtdohlidddcgfjaaGreat


/- cE of this claim: H20. -/
set_option linter.all false
namespace Go.Proofs.YtdohlidddcgfjaaGreat
open Go

def WL{v:aC}(h:EF v):VA v:=by
 obtain⟨_,⟨X,K⟩,⟨h3,h4⟩,_⟩:=h
 exact⟨⟨X,K⟩,⟨h3,h4⟩⟩
def LI{e:aW}(h:Bj e):YH e:=fun n hn=>WL ((show PT EH e.Nodes from h).2 n hn).2.2.2.2
def WN{n:tV}(h:EG n):YI n:=by
 obtain⟨_,_,_,_,_,_,hc,_,ha,hi,_,_⟩:=h
 exact⟨LI hc,fun e he=>LI (hi.2 e he),fun g Y=>LI (ha.2 g Y).2⟩
def WM{p:eV}(h:Ih p):rgP p:=fun f hf n hn=>WN (((show PT Ii p.Frags from h).2 f hf).1.2 n hn)
def Cp(p:eV)(h:Ih p):qn p=some true:=Dl p (WM h)
end Go.Proofs.YtdohlidddcgfjaaGreat

