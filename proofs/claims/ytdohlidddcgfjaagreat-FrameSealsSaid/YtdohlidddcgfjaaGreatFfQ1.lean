/- bS of this claim: K1, K6, K2, K3, K4, L1, L2. -/
import Derived.Test.YtdohlidddcgfjaaGreatFfF
import Derived.KernelRfl
import Derived.Test.YtdohlidddcgfjaaGreatFfV4
set_option linter.all false
namespace Go.Proofs.YtdohlidddcgfjaaGreat
open Go

abbrev Uq:=List am
variable{α:Type}{xs:List α}
def cD{ys:List α}(h:xs.length+ys.length<=68719476736):app xs ys=some (xs++ys):=bh h
def gu(v:am):Bool:=(jV v).getD false
def EO(v:am):jV v=some (gu v):=by
 unfold gu jV
 repeat' split
 all_goals rfl
variable{n:ap}
def qK(v:am):ir v=some (if gu v then 0 else 120):=by
 obtain⟨k,n,u,ae⟩:=v
 unfold gu jV ir xz
 simp only [la,qJ,qI,qH]
 by_cases h0:k=0
 ·subst h0;simp
  repeat' split
  all_goals simp_all
 by_cases Y:k=1
 ·subst Y
  by_cases n0:n=0
  ·subst n0;simp
   repeat' split
   all_goals simp_all
  by_cases n1:n=1
  ·subst n1;simp
   repeat' split
   all_goals simp_all
  simp [n0,n1]
 by_cases X:k=2
 ·subst X;simp
  repeat' split
  all_goals simp_all
 by_cases d:k=3
 ·subst d;simp
  repeat' split
  all_goals simp_all
 by_cases h4:k=4
 ·subst h4;simp
  repeat' split
  all_goals simp_all
 simp [h0,Y,X,d,h4]
def qc(r:Uq):Bool:=decide (r.length<=16)&&r.all gu
def EF(v:am):si v=some (!gu v):=by
 unfold si
 rw [qK]
 cases gu v<;>rfl
def CD{f:am->Option Bool}{g:am->Bool}(hf: ∀v,f v=some (g v))(l:Uq):gH l f=some (l.any g):=by
 have key: ∀(l:Uq) (i:Nat),(df f l i).bind (fun r=>some (decide ((0:Int)<=r)))=some (l.any g):=by
  intro l
  induction l with
  |nil=>intro i;simp [df]
  |cons e t ih=>intro i;simp only [df,hf,bf];cases h:g e<;>simp [ih,h]
 exact key l 0
def Ir(r:Uq):yH r=some (qc r):=by
 unfold yH qc
 rw [CD (g:=fun v=> !gu v) EF]
 by_cases h:r.length<=16
 ·rw [bh (by simp;omega)]
  simp [h,List.all_eq_not_any_not]
 ·rw [aQ (by simp;omega)]
  simp [h]
def Iu(r:Uq):yI r=some (if qc r then 0 else 150):=by
 unfold yI
 rw [Ir]
 cases qc r<;>rfl
variable{a:Nat}
def Is(a b:Uq):vu a b=some (decide (a=b)):=by
 unfold vu d5
 by_cases hl:a.length=b.length
 ·rw [aQ (by simp [hl])]
  have key: ∀(l:Uq) (i:Nat),a.drop i=l->dH b l i=some (decide (l=b.drop i)):=by
   intro l
   induction l with
   |nil=>
    intro i Y
    have d:a.length<=i:=Jz.1 Y
    rw [FU (by omega)];rfl
   |cons x t ih=>
    intro i Y
    have hi:i<a.length:=by
     rcases oc i a.length with h|h
     ·exact h
     ·rw [FU h]at Y;cases Y
    have D:=ih (i+1) (by rw [<-sJ,Y];rfl)
    simp only [dH]
    rw [eU,sH (by omega),B0 (by omega:i<b.length)]
    simp only [bf,D]
    by_cases V:x=b[i]
    ·rw [aQ (by simp [V])]
     exact congrArg some (BZ.2 ⟨fun h=>by rw [V,h],fun h=>(xw h).2⟩)
    ·rw [bh (by simp [V])]
     exact congrArg some (CJ (fun h=>V (xw h).1)).symm
  have:=key a 0 rfl
  rw [this];simp
 ·rw [bh (by simp;omega)]
  have:a≠b:=fun e=>hl (by rw [e])
  simp [this]
def Kb(p q:List Uq):AU p q=some (decide (p=q)):=by
 unfold AU cm
 by_cases hl:p.length=q.length
 ·rw [aQ (by simp [hl])]
  have key: ∀(l:List Uq) (i:Nat),p.drop i=l->b8 q vu l i=some (decide (l=q.drop i)):=by
   intro l
   induction l with
   |nil=>
    intro i Y
    have d:p.length<=i:=Jz.1 Y
    rw [FU (by omega)];rfl
   |cons x t ih=>
    intro i Y
    have hi:i<p.length:=by
     rcases oc i p.length with h|h
     ·exact h
     ·rw [FU h]at Y;cases Y
    have D:=ih (i+1) (by rw [<-sJ,Y];rfl)
    simp only [b8]
    rw [eU,sH (by omega),B0 (by omega:i<q.length)]
    simp only [bf,D,Is]
    by_cases V:x=q[i]
    ·rw [aQ (by simp [V])]
     exact congrArg some (BZ.2 ⟨fun h=>by rw [V,h],fun h=>(xw h).2⟩)
    ·rw [bh (by simp [V])]
     exact congrArg some (CJ (fun h=>V (xw h).1)).symm
  have:=key p 0 rfl
  rw [this];simp
 ·rw [bh (by simp;omega)]
  have:p≠q:=fun e=>hl (by rw [e])
  simp [this]

def nb(r:Nat):Nat:=if r%2=1 then(r/2)^^^2197175160 else r/2
def Rk(r:Nat):Nat:=nb (nb (nb (nb (nb (nb (nb (nb r)))))))
def RB(a b:Nat):(a^^^b)/2=(a/2)^^^(b/2):=by
 have:=Nat.xor_div_two_pow (a:=a) (b:=b) (n:=1)
 simpa using this
def RA(a b:Nat):(a^^^b)%2=(a%2+b%2)%2:=by
 have h:=Nat.xor_mod_two_pow (a:=a) (b:=b) (n:=1)
 rw [Nat.pow_one]at h
 rw [h]
 rcases Nat.mod_two_eq_zero_or_one a with Y|Y<;>rcases Nat.mod_two_eq_zero_or_one b with X|X<;>rw [Y,X]<;>rfl
def uE(a b:Nat):nb (a^^^2*b)=nb a^^^b:=by
 unfold nb
 rw [RA,RB]
 have Y:2*b/2=b:=by omega
 have X:(a%2+2*b%2)%2=a%2:=by omega
 rw [Y,X]
 by_cases h:a%2=1
 ·rw [bh h,bh h,Nat.xor_assoc,Nat.xor_assoc,Nat.xor_comm b]
 ·rw [aQ h,aQ h]
def SS(a b:Nat):Rk (a^^^256*b)=Rk a^^^b:=by
 unfold Rk
 rw [show 256*b=2*(128*b) by omega,uE,show 128*b=2*(64*b) by omega,uE,show 64*b=2*(32*b) by omega,uE,show 32*b=2*(16*b) by omega,uE,
  show 16*b=2*(8*b) by omega,uE,show 8*b=2*(4*b) by omega,uE,show 4*b=2*(2*b) by omega,uE,uE]
def PH(x:Nat):x=(x%256)^^^256*(x/256):=by
 apply Nat.eq_of_testBit_eq
 intro i
 rw [Nat.testBit_xor,show(256:Nat)=2^8 from rfl,Nat.testBit_mod_two_pow,Nat.testBit_two_pow_mul,Nat.testBit_div_two_pow]
 by_cases h:i<8
 ·simp [h,show¬8<=i by omega]
 ·simp [h,show 8<=i by omega,show 8+(i-8)=i by omega]
def ST(x:Nat):Rk x=Rk (x%256)^^^(x/256):=by
 conv=>lhs;rw [PH x,SS]
def tA{b:Nat}(ha:a<4294967296)(H:b<4294967296):a^^^b<4294967296:=Nat.xor_lt_two_pow (n:=32) ha H
def Bg(ha:a<4294967296):nb a<4294967296:=by
 unfold nb
 split
 ·exact tA (by omega) (by omega)
 ·omega
def SR(ha:a<4294967296):Rk a<4294967296:=Bg (Bg (Bg (Bg (Bg (Bg (Bg (Bg ha)))))))
def XP(n:Nat)(h:n<4294967296):IntKind.u32.wrap (n:Int)=(n:Int):=by rw [IntKind.wrap_u32];omega
def WI(a b:Nat)(ha:a<4294967296)(H:b<4294967296):oV .xor .u32 (a:Int) (b:Int)=((a^^^b:Nat):Int):=by
 show IntKind.u32.wrap ((BitVec.ofInt 32 (a:Int)^^^BitVec.ofInt 32 (b:Int)).toNat:Int)=_
 rw [show(BitVec.ofInt 32 (a:Int)^^^BitVec.ofInt 32 (b:Int)).toNat=a^^^b by
  rw [BitVec.toNat_xor,BitVec.toNat_ofInt,BitVec.toNat_ofInt]
  congr 1<;>omega]
 exact XP _ (tA ha H)
def Z9(a b:Nat)(ha:a<256)(H:b<256):oV .xor .u8 (a:Int) (b:Int)=((a^^^b:Nat):Int):=by
 show IntKind.u8.wrap ((BitVec.ofInt 8 (a:Int)^^^BitVec.ofInt 8 (b:Int)).toNat:Int)=_
 rw [show(BitVec.ofInt 8 (a:Int)^^^BitVec.ofInt 8 (b:Int)).toNat=a^^^b by
  rw [BitVec.toNat_xor,BitVec.toNat_ofInt,BitVec.toNat_ofInt]
  congr 1<;>omega]
 have:=Nat.xor_lt_two_pow (n:=8) ha H
 rw [BW];omega
def uR(r c:Nat):Nat:=Rk (r^^^c)
def vK{r c:Nat}(hr:r<4294967296)(hc:c<256):uR r c<4294967296:=SR (tA hr (by omega))
def nj(b:List Int):Prop:= ∀x∈b,∃c:Nat,c<256/\x=(c:Int)
def w3:List Int:=(List.range 256).map fun i=>(Rk i:Int)
def RX:B5=some w3:=by kernel_rfl
def PR(i:Nat)(h:i<256):gV w3 (i:Int)=some (Rk i:Int):=by
 rw [eU]
 unfold w3
 rw [JB,List.getElem?_range h]
 rfl
def UJ(r c:Nat)(hr:r<4294967296)(hc:c<256):uw (r:Int) w3 (c:Int)=some (uR r c:Int):=by
 unfold uw
 have V:(r%256)^^^c<256:=Nat.xor_lt_two_pow (n:=8) (by omega) hc
 rw [show IntKind.u8.wrap (r:Int)=((r%256:Nat):Int) by rw [BW];omega,Z9 _ _ (by omega) hc,PR _ V,bf]
 rw [show((r:Int).fdiv (2^(min (Int.toNat (8:Int)) IntKind.u32.bits)))=((r/256:Nat):Int) by
  show(r:Int).fdiv 256=_
  rw [N0 _ (by omega)];omega]
 rw [WI _ _ (by omega) (SR (by omega))]
 unfold uR
 rw [ST (r^^^c)]
 rw [show(r^^^c)%256=(r%256)^^^c by
  have:=Nat.xor_mod_two_pow (a:=r) (b:=c) (n:=8)
  rw [show(256:Nat)=2^8 from rfl,this,Nat.mod_eq_of_lt (a:=c) (by omega)]]
 rw [show(r^^^c)/256=r/256 by
  have:=Nat.xor_div_two_pow (a:=r) (b:=c) (n:=8)
  rw [show(256:Nat)=2^8 from rfl,this,Nat.div_eq_of_lt (a:=c) (by omega),Nat.xor_zero],Nat.xor_comm]
def GK: ∀(b:List Int) (r:Nat),r<4294967296->nj b-> ∃ae:Nat,ae<4294967296/\ae=b.foldl (fun r x=>uR r x.toNat) r/\o9 w3 b (r:Int)=some (((4294967295-ae:Nat)):Int)
 |[],r,hr,_=>⟨r,hr,rfl,by
  unfold o9
  rw [show(if IntKind.u32.signed then -1 else IntKind.u32.max)=((4294967295:Nat):Int)from rfl,WI _ _ (by omega) hr]
  congr 2
  have h:=BitVec.allOnes_xor (x:=BitVec.ofNat 32 r)
  have X:=congrArg BitVec.toNat h
  rw [BitVec.toNat_xor,BitVec.toNat_not,BitVec.toNat_allOnes,BitVec.toNat_ofNat,Nat.mod_eq_of_lt (a:=r) (by omega)]at X
  exact X⟩
 |x::b,r,hr,H=>by
  obtain⟨c,hc,rfl⟩:=H _ (nM ..)
  obtain⟨ae,Y,X,d⟩:=GK b (uR r c) (vK hr hc) (fun y hy=>H y (pK _ hy))
  refine⟨ae,Y,X,?_⟩
  unfold o9
  rw [UJ r c hr hc,bf]
  exact d
def gz{a b:List Int}(ha:nj a)(H:nj b):nj (a++b):=fun x V=>(ui.1 V).elim (ha x) (H x)
def DP(n:Int):nj [IntKind.u8.wrap n]:=fun x V=>by
 rw [uk.1 V]
 exact⟨(IntKind.u8.wrap n).toNat,by rw [BW];omega,by rw [BW];omega⟩
def QZ(ae:Po):nj (kh ae):=fun x V=>by
 obtain⟨b,_,rfl⟩:=AG.1 V
 exact⟨b.toNat,UInt8.toNat_lt b,rfl⟩
def Cz(n:Nat):Nat->List Int
 |0=>[]
 |k+1=>((n/256^k%256:Nat):Int)::Cz n k

structure Cmp{α:Type}(f:α->α->Int):Prop where
 rng: ∀x y,f x y= -1\/f x y=0\/f x y=1
 anti: ∀x y,f y x= -f x y
 eq: ∀x y,f x y=0↔x=y
 trans: ∀x y z,f x y<=0->f y z<=0->f x z<=0
def key(v:am):Int×Int×Int×Po:=(v.Kind,v.N,v.U,v.S)

section
variable{f:α->α->Int}
def ltB(f:α->α->Int)(x y:α):Bool:=decide (f x y<0)
def srt(f:α->α->Int)(l:List α):List α:=WY (ltB f) l
def put(f:α->α->Int)(x:α):List α->List α
 |[]=>[x]
 |y::l=>if f x y<0 then x::y::l else y::put f x l
end
def yr{α:Type} [DecidableEq α]:α->List α->List α
 |_,[]=>[]
 |p,x::t=>if x=p then yr x t else x::yr x t
def Lv [DecidableEq α](p:α):yr p []=[]:=by unfold yr;rfl
def Hu [DecidableEq α]{p x:α}(h:x=p)(t:List α):yr p (x::t)=yr x t:=by
 conv=>lhs;unfold yr
 rw [bh h]
def O9 [DecidableEq α]{p x:α}(h: ¬x=p)(t:List α):yr p (x::t)=x::yr x t:=by
 conv=>lhs;unfold yr
 rw [aQ h]
def O8{α:Type} [DecidableEq α]:List α->List α
 |[]=>[]
 |x::t=>x::yr x t
def Ft{α:Type} [DecidableEq α]: ∀(p:α) (l:List α) (z:α),z∈yr p l->z∈l
 |p,x::t,z,h=>by
  unfold yr at h
  split at h
  ·exact pK _ (Ft x t z h)
  ·rcases jl.1 h with rfl|h
   ·exact nM ..
   ·exact pK _ (Ft x t z h)
def E0{α:Type} [DecidableEq α]: ∀(p:α) (l:List α) (z:α),z∈l->z=p\/z∈yr p l
 |p,x::t,z,h=>by
  unfold yr
  by_cases V:x=p
  ·rw [bh V]
   rcases jl.1 h with rfl|h
   ·exact .inl V
   ·rcases E0 x t z h with h|h
    ·exact .inl (h.trans V)
    ·exact .inr h
  ·rw [aQ V]
   rcases jl.1 h with rfl|h
   ·exact .inr (nM ..)
   ·rcases E0 x t z h with h|h
    ·exact .inr (by rw [h];exact nM ..)
    ·exact .inr (pK _ h)
def Qz [DecidableEq α](l:List α)(z:α):z∈O8 l↔z∈l:=by
 cases l with
 |nil=>exact tv
 |cons x t=>
  constructor
  ·intro h
   rcases jl.1 h with rfl|h
   ·exact nM ..
   ·exact pK _ (Ft x t z h)
  ·intro h
   rcases jl.1 h with rfl|h
   ·exact nM ..
   ·rcases E0 x t z h with rfl|h
    ·exact nM ..
    ·exact pK _ h

structure Small(l:List Uq):Prop where
 len:l.length<=8000
 row: ∀r∈l,r.length<=1000
def eM{n:Int}(h: -9223372036854775808<=n)(X:n<=9223372036854775807):IntKind.i64.wrap n=n:=by rw [rl];omega
def te{l m:Nat}(h:l<=m)(X:m<=xs.length):dQ xs (l:Int) (m:Int)=some ((xs.take m).drop l):=by
 unfold dQ
 rw [bh (by omega)]
 simp

def iZ{i j:Int}(l m:Nat)(hi:i=(l:Int))(hj:j=(m:Int))(h:l<=m)(X:m<=xs.length):dQ xs i j=some ((xs.take m).drop l):=by
 subst hi hj;exact te h X
def lZ{i:Int}(k:Nat)(hi:i=(k:Int)):gV xs i=xs[k]? :=by subst hi;exact eU _ _
def va(v:am):Bool:=gu v&&(v.Kind !=4)
def Ee(v:am):uu v=some (va v):=by
 unfold uu va
 rw [qK]
 cases gu v<;>simp
def oz(v:am):xL v=some (va v):=by
 unfold xL va
 rw [EO]
 rfl
def Ko{v:am}(h:va v=true):0<=v.Kind/\v.Kind<=3:=by
 obtain⟨k,n,u,ae⟩:=v
 unfold va gu jV at h
 simp only [ly,xv,ne_eq]at h
 obtain⟨Y,X⟩:=h
 by_cases h0:k=0
 ·simp [h0]
 by_cases k1:k=1
 ·simp [k1]
 by_cases k2:k=2
 ·simp [k2]
 by_cases k3:k=3
 ·simp [k3]
 simp [h0,k1,k2,k3,X]at Y
def pk(tag:Int):Option Nat:=if tag=1\/tag=2 then some 0 else if 4<=tag/\tag<=7 then some 1 else if 12<=tag/\tag<=23 then some 2 else none
def ID(tag:Int):Int:=match pk tag with
 |some k=>(k:Int)
 |none=> -1
def zx(tag:Int):rG tag=some (ID tag):=by
 unfold rG ID pk
 by_cases Y:tag=1\/tag=2
 ·rw [bh Y,bh (by simpa using Y)];rfl
 rw [aQ Y,aQ (by simpa using Y)]
 by_cases X:4<=tag/\tag<=7
 ·rw [bh X,bh (by simpa using X)];rfl
 rw [aQ X,aQ (by simpa using X)]
 by_cases d:12<=tag/\tag<=23
 ·rw [bh d,bh (by simpa using d)];rfl
 rw [aQ d,aQ (by simpa using d)]
def qU(tag:Int):xK tag=some (ID tag):=by
 unfold xK CY ID pk
 by_cases Y:tag=1\/tag=2
 ·rw [bh Y];rcases Y with rfl|rfl<;>rfl
 rw [aQ Y]
 by_cases X:4<=tag/\tag<=7
 ·rw [bh X]
  have:tag=4\/tag=5\/tag=6\/tag=7:=by omega
  rcases this with rfl|rfl|rfl|rfl<;>rfl
 rw [aQ X]
 by_cases d:12<=tag/\tag<=23
 ·rw [bh d,aQ (by simp;omega),aQ (by simp;omega),aQ (by simp;omega),aQ (by simp;omega)];rfl
 rw [aQ d]
 by_cases h4:tag=3\/(8<=tag/\tag<=11)
 ·rw [bh (by simpa using h4)]
 rw [aQ (by simpa using h4),bh (by simp;omega)]
 rfl
def C9(n:ap):Bool:=(kH n).getD false
def ko(n:ap):kH n=some (C9 n):=by
 unfold C9 kH
 rw [oz]
 split
 ·rfl
 ·split<;>rfl
def Fn(n:ap):uP n=some (C9 n):=by
 rw [<-ko]
 unfold uP kH
 rw [oz,Ee]
inductive Tr where
 |lf (n:ap)
 |un (n:ap) (a:Tr)
 |bi (n:ap) (a b:Tr)
 deriving Inhabited
def Tr.size:Tr->Nat
 | .lf _=>1
 | .un _ a=>a.size+1
 | .bi _ a b=>a.size+b.size+1
def jv(n:ap)(l r:Int):ap:={n with L:=l,R:=r}
def Tr.flat:Tr->Nat->List ap
 | .lf n,_=>[jv n (-1) (-1)]
 | .un n a,ae=>a.flat ae++[jv n ((ae+a.size:Nat)-1) (-1)]
 | .bi n a b,ae=>a.flat ae++b.flat (ae+a.size)++[jv n ((ae+a.size:Nat)-1) ((ae+a.size+b.size:Nat)-1)]
def Yl(k:Nat)(n:ap):Prop:=pk n.Tag=some k/\C9 n=true/\n.L= -1/\n.R= -1
def Tr.wf:Tr->Prop
 | .lf n=>Yl 0 n
 | .un n a=>Yl 1 n/\a.wf
 | .bi n a b=>Yl 2 n/\a.wf/\b.wf
def Tr.size_pos(t:Tr):0<t.size:=by cases t<;>simp [Tr.size]
def Tr.flat_len(t:Tr): ∀ae,(t.flat ae).length=t.size:=by
 induction t with
 |lf n=>intro ae;rfl
 |un n a ih=>intro ae;simp [Tr.flat,Tr.size,ih]
 |bi n a b iha ihb=>intro ae;simp [Tr.flat,Tr.size,iha,ihb];omega
def cK:List Tr->Nat
 |[]=>0
 |t::st=>cK st+t.size
def w9:List Tr->List ap
 |[]=>[]
 |t::st=>w9 st++t.flat (cK st)
def Hn: ∀st:List Tr,(w9 st).length=cK st
 |[]=>rfl
 |t::st=>by simp [w9,cK,Hn st,t.flat_len]
def GP: ∀st:List Tr,st.length<=cK st
 |[]=>eo _
 |t::st=>by have:=GP st;have:=t.size_pos;simp [cK];omega
def push(st:List Tr)(n:ap):Option (List Tr):=
 match pk n.Tag,st with
 |some 0,st=>if C9 n&&n.L== -1&&n.R== -1 then some (.lf (jv n (-1) (-1))::st)else none
 |some 1,a::st=>if C9 n&&n.L==((cK st+a.size:Nat):Int)-1&&n.R== -1 then some (.un (jv n (-1) (-1)) a::st)else none
 |some 2,b::a::st=>if C9 n&&n.L==((cK st+a.size:Nat):Int)-1&&n.R==((cK st+a.size+b.size:Nat):Int)-1 then some (.bi (jv n (-1) (-1)) a b::st)else none
 |_,_=>none
def qr:List ap->List Tr->Option (List Tr)
 |[],st=>some st
 |n::ns,st=>(push st n).bind (qr ns)
def wfs(st:List Tr):Prop:= ∀t∈st,t.wf
def yL{l r:Int}(h:n.L=l)(X:n.R=r):jv (jv n (-1) (-1)) l r=n:=by subst h X;rfl
def Je{l r:Int}:C9 (jv n l r)=C9 n:=rfl
def Qo{st st' :List Tr}(h:push st n=some st')(hw:wfs st):w9 st' =w9 st++[n]/\cK st' =cK st+1/\wfs st' :=by
 unfold push at h
 split at h
 ·rename_i k st0 hk
  split at h
  ·rename_i hc
   simp only [ly,oY]at hc
   obtain⟨⟨Y,X⟩,d⟩:=hc
   cases h
   refine⟨?_,rfl,fun t D=>?_⟩
   ·simp only [w9,Tr.flat]
    rw [yL X d]
   ·rcases jl.1 D with rfl|D
    ·exact⟨hk,Y,rfl,rfl⟩
    ·exact hw t D
  ·cases h
 ·rename_i k a st0 hk
  split at h
  ·rename_i hc
   simp only [ly,oY]at hc
   obtain⟨⟨Y,X⟩,d⟩:=hc
   cases h
   refine⟨?_,by simp [cK,Tr.size];omega,fun t D=>?_⟩
   ·simp only [w9,Tr.flat]
    rw [yL X d,hZ]
   ·rcases jl.1 D with rfl|D
    ·exact⟨⟨hk,Y,rfl,rfl⟩,hw a (nM ..)⟩
    ·exact hw t (pK _ D)
  ·cases h
 ·rename_i k b a st0 hk
  split at h
  ·rename_i hc
   simp only [ly,oY]at hc
   obtain⟨⟨Y,X⟩,d⟩:=hc
   cases h
   refine⟨?_,by simp [cK,Tr.size];omega,fun t D=>?_⟩
   ·simp only [w9,Tr.flat,cK]
    rw [yL X d]
    simp only [hZ]
   ·rcases jl.1 D with rfl|D
    ·exact⟨⟨hk,Y,rfl,rfl⟩,hw a (pK _ (nM ..)),hw b (nM ..)⟩
    ·exact hw t (pK _ (pK _ D))
  ·cases h
 ·cases h
variable{ns:List ap}
def z2: ∀{ns:List ap} {st st' :List Tr},qr ns st=some st' ->wfs st->w9 st' =w9 st++ns/\wfs st'
 |[],st,st',h,hw=>by cases h;simp [hw]
 |n::ns,st,st',h,hw=>by
  unfold qr at h
  cases hp:push st n with
  |none=>rw [hp]at h;cases h
  |some st1=>
   rw [hp]at h
   obtain⟨Y,_,d⟩:=Qo hp hw
   obtain⟨h4,h5⟩:=z2 (ns:=ns) h d
   exact⟨by rw [h4,Y];simp,h5⟩
def sW: ∀(ns ms:List ap) (st:List Tr),qr (ns++ms) st=(qr ns st).bind (qr ms)
 |[],ms,st=>rfl
 |n::ns,ms,st=>by
  simp only [De,qr]
  cases push st n with
  |none=>rfl
  |some st1=>exact sW ns ms st1
def ME(t:Tr): ∀(st:List Tr),t.wf->qr (t.flat (cK st)) st=some (t::st):=by
 induction t with
 |lf n=>
  intro st ⟨Y,X,d,h4⟩
  have hn' :jv n (-1) (-1)=n:=by cases n;simp only at d h4;subst d h4;rfl
  simp only [Tr.flat,qr,push,hn']
  rw [Y]
  simp [X,d,h4,qr,hn']
 |un n a ih=>
  intro st ⟨⟨Y,X,d,h4⟩,ha⟩
  have hn' :jv n (-1) (-1)=n:=by cases n;simp only at d h4;subst d h4;rfl
  simp only [Tr.flat]
  rw [sW,ih st ha]
  simp only [bf,qr,push]
  have e1:(jv n (((cK st+a.size:Nat):Int)-1) (-1)).Tag=n.Tag:=rfl
  rw [e1,Y]
  have e2:C9 (jv n (((cK st+a.size:Nat):Int)-1) (-1))=true:=X
  rw [e2]
  simp only [jv,beq_self_eq_true,Bool.and_self,jR,bf,qr]
  simp only [jv]at hn'
  rw [hn']
 |bi n a b iha ihb=>
  intro st ⟨⟨Y,X,d,h4⟩,ha,H⟩
  have hn' :jv n (-1) (-1)=n:=by cases n;simp only at d h4;subst d h4;rfl
  simp only [Tr.flat]
  rw [sW,sW,iha st ha]
  simp only [bf]
  have e0:cK st+a.size=cK (a::st):=rfl
  rw [e0,ihb (a::st) H]
  simp only [bf,qr,push]
  have e1:(jv n (((cK (a::st):Nat):Int)-1) (((cK (a::st)+b.size:Nat):Int)-1)).Tag=n.Tag:=rfl
  rw [e1,Y]
  have e2:C9 (jv n (((cK (a::st):Nat):Int)-1) (((cK (a::st)+b.size:Nat):Int)-1))=true:=X
  rw [e2]
  simp only [jv,cK,beq_self_eq_true,Bool.and_self,jR,bf,qr]
  simp only [jv]at hn'
  rw [hn']
def rp(ns:List ap):Option Tr:=match qr ns []with
 |some [t]=>if ns.length<=1000 then some t else none
 |_=>none
def mZ{t:Tr}(h:rp ns=some t):t.wf/\ns=t.flat 0/\t.size<=1000:=by
 unfold rp at h
 split at h
 ·rename_i t0 hp
  split at h
  ·rename_i hl
   cases h
   obtain⟨Y,X⟩:=z2 hp (fun t D=>by cases D)
   simp only [w9,cK,mh]at Y
   exact⟨X t (nM ..),Y.symm,by rw [<-t.flat_len 0,Y];exact hl⟩
  ·cases h
 ·cases h
def JY{t:Tr}(h:t.wf)(hs:t.size<=1000):rp (t.flat 0)=some t:=by
 unfold rp
 have h0:=ME t [] h
 simp only [cK]at h0
 rw [h0]
 simp only [t.flat_len,hs,jR]
def fl:Tr->Nat->List Int
 | .lf _,ae=>[(ae:Int)]
 | .un _ a,ae=>fl a ae++[(ae:Int)]
 | .bi _ a b,ae=>fl a ae++fl b (ae+a.size)++[(ae:Int)]
def QO:List Tr->List Int
 |[]=>[]
 |t::st=>QO st++fl t (cK st)
def m9:List Tr->List Int
 |[]=>[]
 |t::st=>m9 st++[((cK st+t.size:Nat):Int)-1]
def wt(t:Tr): ∀ae,(fl t ae).length=t.size:=by
 induction t with
 |lf n=>intro ae;rfl
 |un n a ih=>intro ae;simp [fl,Tr.size,ih]
 |bi n a b iha ihb=>intro ae;simp [fl,Tr.size,iha,ihb];omega
def uI: ∀st:List Tr,(QO st).length=cK st
 |[]=>rfl
 |t::st=>by simp [QO,cK,uI st,wt]
def dJ: ∀st:List Tr,(m9 st).length=st.length
 |[]=>rfl
 |t::st=>by simp [m9,dJ st]
def Vv(t:Tr)(ae:Nat):(fl t ae)[t.size-1]? =some (ae:Int):=by
 cases t with
 |lf n=>rfl
 |un n a=>simp only [fl,Tr.size];rw [xf (by rw [wt];omega),wt];simp
 |bi n a b=>simp only [fl,Tr.size];rw [xf (by simp [wt]),kj,wt,wt];simp
def E9(t:Tr)(st:List Tr)(rest:List Int):(QO st++fl t (cK st)++rest)[cK st+t.size-1]? =some (cK st:Int):=by
 have:=t.size_pos
 rw [zJ (by rw [kj,uI,wt];omega),xf (by rw [uI];omega),uI,show cK st+t.size-1-cK st=t.size-1 from by omega]
 exact Vv t _
def QP: ∀(ns:List ap) (st:List Tr),cK st+ns.length<=100000->lq ns (cK st) (QO st) (m9 st)=some (match qr ns st with
   |some st' =>(QO st',decide (st'.length=1)&&decide (cK st' <=1000))
   |none=>([],false)):=by
 intro ns
 induction ns with
 |nil=>
  intro st _
  simp only [lq,qr,dJ,uI]
  congr 2
  congr 1
  ·rw [xp];simp;omega
  ·rw [xp];simp;omega
 |cons n ns ih=>
  intro st hs
  simp only [iG]at hs
  have hll:=GP st
  unfold lq
  rw [zx]
  simp only [bf,dJ,Fn]
  unfold qr
  unfold push
  -- the parts
  cases hk:pk n.Tag with
  |none=>
   have e:ID n.Tag= -1:=by unfold ID;rw [hk]
   simp [e]
  |some k=>
   have e:ID n.Tag=(k:Int):=by unfold ID;rw [hk]
   have hk3:k=0\/k=1\/k=2:=by
    unfold pk at hk
    repeat' split at hk
    all_goals simp at hk
    all_goals omega
   rw [e]
   rcases hk3 with rfl|rfl|rfl
   ·-- none
    simp only []
    have c1:(decide (((0:Nat):Int)<0)||decide ((st.length:Int)<((0:Nat):Int)))=false:=by simp
    simp only [c1,AJ,jR,bf]
    cases hc:C9 n with
    |false=>simp
    |true=>
     simp only [sI,oj,lI,nN]
     rw [iZ st.length st.length (by rw [eM (by omega) (by omega)];omega) rfl (eo _) (by rw [dJ];exact eo _)]
     have hd:(List.take st.length (m9 st)).drop st.length=[]:=HR (by simp;omega)
     simp only [hd,bf,mT]
     by_cases hL:n.L= -1/\n.R= -1
     ·have H:(n.L== -1&&n.R== -1)=true:=by simp [hL]
      rw [bh H,aQ (by simp [hL.1,hL.2])]
      rw [cD (by simp only [iG,vk,uI];omega)]
      simp only [bf]
      rw [iZ (i:=0) 0 st.length rfl (by rw [dJ,eM (by omega) (by omega)];omega) (pL _) (by rw [dJ];exact eo _)]
      rw [ul (by rw [dJ];exact eo _),zF]
      simp only [bf]
      rw [cD (by simp only [iG,vk,dJ];omega)]
      simp only [bf]
      have X:=ih (.lf (jv n (-1) (-1))::st) (by simp [cK,Tr.size];omega)
      simp only [cK,Tr.size,QO,fl,m9]at X
      rw [show(((cK st+1:Nat):Int)-1)=(cK st:Int)from by omega]at X
      exact X
     ·have H:(n.L== -1&&n.R== -1)=false:=by
       rw [D4];intro h;apply hL;simpa using h
      rw [H]
      rw [bh (by
       simp only [Df,NX]
       intro h
       have Y:(-1:Int)=n.L:=by injection h
       have X:(-1:Int)=n.R:=by injection h with _ h;injection h
       exact hL ⟨Y.symm,X.symm⟩)]
      simp
   ·-- one
    cases st with
    |nil=>simp
    |cons a st=>
     simp only []
     have c1:(decide (((1:Nat):Int)<0)||decide (((a::st).length:Int)<((1:Nat):Int)))=false:=by simp;omega
     simp only [c1,AJ,jR,bf]
     cases hc:C9 n with
     |false=>simp
     |true=>
      simp only [sI,oj,lI,nN]
      simp only [iG]at hll ⊢
      simp only [cK]at hs hll
      have hap:=a.size_pos
      rw [iZ st.length (st.length+1) (by rw [eM (by omega) (by omega)];omega) (by omega) (by omega) (by rw [dJ];exact eo _)]
      have hd:(List.take (st.length+1) (m9 (a::st))).drop st.length=[((cK st+a.size:Nat):Int)-1]:=by
       rw [ul (by rw [dJ];exact eo _)]
       simp only [m9]
       rw [PB (by rw [dJ];exact eo _),HR (by rw [dJ];exact eo _),mh]
      rw [hd]
      simp only [bf,mT]
      rw [lZ (cK st+a.size-1) (by omega)]
      have hf:=E9 a st []
      rw [p6]at hf
      simp only [QO]
      rw [hf]
      simp only [bf]
      rw [lZ 0 rfl]
      simp only [Gz,bf]
      have hset:([(-1:Int),-1].set ((0:Nat):Int).toNat (((cK st+a.size:Nat):Int)-1))=[((cK st+a.size:Nat):Int)-1,-1]:=rfl
      rw [hset]
      by_cases hL:n.L=((cK st+a.size:Nat):Int)-1/\n.R= -1
      ·have H:(n.L==((cK st+a.size:Nat):Int)-1&&n.R== -1)=true:=by simp [hL]
       rw [bh H,aQ (by rw [hL.1,hL.2];simp)]
       rw [cD (by simp only [iG,vk,kj,uI,wt];omega)]
       simp only [bf]
       rw [iZ (i:=0) 0 st.length rfl (by rw [dJ,eM (by simp<;>omega) (by simp<;>omega)];simp) (pL _) (by rw [dJ];simp)]
       have D:(List.take st.length (m9 (a::st))).drop 0=m9 st:=by
        simp only [m9,zF]
        rw [AD (by rw [dJ];exact eo _),ul (by rw [dJ];exact eo _)]
       rw [D]
       simp only [bf]
       rw [cD (by simp only [iG,vk,dJ];omega)]
       simp only [bf]
       have X:=ih (.un (jv n (-1) (-1)) a::st) (by simp [cK,Tr.size];omega)
       simp only [cK,Tr.size,QO,fl,m9]at X
       rw [show(((cK st+(a.size+1):Nat):Int)-1)=((cK st+a.size:Nat):Int)from by omega]at X
       have hm:min ((cK (a::st):Nat):Int) (cK st:Int)=(cK st:Int):=by simp only [cK];omega
       rw [hm]
       simp only [hZ]at X ⊢
       exact X
      ·have H:(n.L==((cK st+a.size:Nat):Int)-1&&n.R== -1)=false:=by
        rw [D4];intro h;apply hL;simpa using h
       rw [H]
       rw [bh (by
        simp only [Df,NX]
        intro h
        have Y:((cK st+a.size:Nat):Int)-1=n.L:=by injection h
        have X:(-1:Int)=n.R:=by injection h with _ h;injection h
        exact hL ⟨Y.symm,X.symm⟩)]
       simp
   ·-- two
    cases st with
    |nil=>simp
    |cons b st=>
     cases st with
     |nil=>simp
     |cons a st=>
      simp only []
      have c1:(decide (((2:Nat):Int)<0)||decide (((b::a::st).length:Int)<((2:Nat):Int)))=false:=by simp;omega
      simp only [c1,AJ,jR,bf]
      cases hc:C9 n with
      |false=>simp
      |true=>
       simp only [sI,oj,lI,nN]
       simp only [iG]at hll ⊢
       simp only [cK]at hs hll
       have hap:=a.size_pos
       have hbp:=b.size_pos
       rw [iZ st.length (st.length+1+1) (by rw [eM (by omega) (by omega)];omega) (by omega) (by omega) (by rw [dJ];exact eo _)]
       have hd:(List.take (st.length+1+1) (m9 (b::a::st))).drop st.length=[((cK st+a.size:Nat):Int)-1,((cK st+a.size+b.size:Nat):Int)-1]:=by
        rw [ul (by rw [dJ];exact eo _)]
        simp only [m9,cK,hZ]
        rw [PB (by rw [dJ];exact eo _),HR (by rw [dJ];exact eo _),mh]
        rfl
       rw [hd]
       simp only [bf,mT]
       simp only [QO,cK]
       rw [lZ (cK st+a.size-1) (by omega)]
       rw [E9 a st (fl b (cK st+a.size))]
       simp only [bf]
       rw [lZ 0 rfl]
       simp only [Gz,bf]
       have hset:([(-1:Int),-1].set ((0:Nat):Int).toNat (((cK st+a.size:Nat):Int)-1))=[((cK st+a.size:Nat):Int)-1,-1]:=rfl
       rw [hset]
       rw [lZ (cK st+a.size+b.size-1) (by omega)]
       have hf:=E9 b (a::st) []
       rw [p6]at hf
       simp only [QO,cK]at hf
       rw [hf]
       simp only [bf]
       rw [lZ (0+1) rfl]
       simp only [List.getElem?_cons_succ,Gz,bf]
       have hset2:([((cK st+a.size:Nat):Int)-1,-1].set ((0+1:Nat):Int).toNat (((cK st+a.size+b.size:Nat):Int)-1))=[((cK st+a.size:Nat):Int)-1,((cK st+a.size+b.size:Nat):Int)-1]:=rfl
       rw [hset2]
       by_cases hL:n.L=((cK st+a.size:Nat):Int)-1/\n.R=((cK st+a.size+b.size:Nat):Int)-1
       ·have H:(n.L==((cK st+a.size:Nat):Int)-1&&n.R==((cK st+a.size+b.size:Nat):Int)-1)=true:=by rw [hL.1,hL.2];simp
        rw [bh H,aQ (by rw [hL.1,hL.2];simp)]
        rw [cD (by simp only [iG,vk,kj,uI,wt];omega)]
        simp only [bf]
        rw [iZ (i:=0) 0 st.length rfl (by rw [dJ,eM (by simp;omega) (by simp;omega)];simp;omega) (pL _) (by rw [dJ];simp;omega)]
        have D:(List.take st.length (m9 (b::a::st))).drop 0=m9 st:=by
         simp only [m9,zF,hZ]
         rw [AD (by rw [dJ];exact eo _),ul (by rw [dJ];exact eo _)]
        rw [D]
        simp only [bf]
        rw [cD (by simp only [iG,vk,dJ];omega)]
        simp only [bf]
        have X:=ih (.bi (jv n (-1) (-1)) a b::st) (by simp [cK,Tr.size];omega)
        simp only [cK,Tr.size,QO,fl,m9]at X
        rw [show(((cK st+(a.size+b.size+1):Nat):Int)-1)=((cK st+a.size+b.size:Nat):Int)from by omega,show cK st+(a.size+b.size+1)=cK st+a.size+b.size+1 from by omega]at X
        have hm:min (min (((cK st+a.size+b.size:Nat)):Int) (cK st:Int)) ((cK st+a.size:Nat):Int)=(cK st:Int):=by omega
        rw [hm]
        simp only [hZ]at X ⊢
        exact X
       ·have H:(n.L==((cK st+a.size:Nat):Int)-1&&n.R==((cK st+a.size+b.size:Nat):Int)-1)=false:=by
         rw [D4];intro h;apply hL;simpa using h
        rw [H]
        rw [bh (by
         simp only [Df,NX]
         intro h
         have Y:((cK st+a.size:Nat):Int)-1=n.L:=by injection h
         have X:((cK st+a.size+b.size:Nat):Int)-1=n.R:=by injection h with _ h;injection h
         exact hL ⟨Y.symm,X.symm⟩)]
        simp

def nZ{n:Nat}(h:n<=1000000):n<=fq:=by unfold fq;omega
def mE(ns:List ap):Bool:=(rp ns).isSome
def Kv{st:List Tr}(h:qr ns []=some st):cK st=ns.length:=by
 have:=(z2 h (fun t D=>by cases D)).1
 rw [<-Hn,this];simp [w9]
def zy(e:aO)(h:e.Nodes.length<=100000):ub e=some (if mE e.Nodes then 0 else 200):=by
 unfold ub yp mE rp
 have:=QP e.Nodes [] (by simpa [cK] using h)
 simp only [cK,QO,m9]at this
 rw [this]
 cases hp:qr e.Nodes []with
 |none=>rfl
 |some st=>
  have hsz:=Kv hp
  match st,hsz with
  |[],_=>rfl
  |[t],hsz=>
   simp only [bf,hsz]
   by_cases hl:e.Nodes.length<=1000<;>simp [hl]
  |t::t2::st,_=>simp
def UO(t:Tr):t.wf-> ∀(P R N:List ap) (fu:Nat),N=P++t.flat P.length++R->t.size<=fu->N.length<=100000->jH fu ⟨N⟩ (((P.length+t.size:Nat):Int)-1)=some (t.size:Int):=by
 induction t with
 |lf n=>
  intro⟨Y,X,d,h4⟩ P R N fu hN hf hl
  have hNl:=congrArg List.length hN
  simp only [kj,Tr.flat_len]at hNl
  simp only [Tr.size]at hf hNl ⊢
  obtain⟨fu,rfl⟩: ∃k,fu=k+1:=⟨fu-1,by omega⟩
  unfold jH
  have V:N[P.length]? =some (jv n (-1) (-1)):=by
   rw [hN,hZ,xf (eo _),wY];rfl
  rw [aQ (by simp;omega),lZ P.length (by omega),V]
  have e1:(jv n (-1) (-1)).Tag=n.Tag:=rfl
  simp only [bf]
  rw [e1,qU]
  have e:ID n.Tag=0:=by unfold ID;rw [Y];rfl
  simp only [e,bf,ko]
  have e2:C9 (jv n (-1) (-1))=true:=X
  rw [e2]
  simp [jv]
 |un n a ih=>
  intro⟨⟨Y,X,d,h4⟩,ha⟩ P R N fu hN hf hl
  obtain⟨m,hm⟩: ∃m,m=jv n (((P.length+a.size:Nat):Int)-1) (-1):=⟨_,rfl⟩
  have hNl:=congrArg List.length hN
  simp only [kj,Tr.flat_len]at hNl
  simp only [Tr.size]at hf hNl ⊢
  simp only [Tr.flat,<-hm]at hN
  obtain⟨fu,rfl⟩: ∃k,fu=k+1:=⟨fu-1,by omega⟩
  have hpos:=a.size_pos
  have hi:=ih ha P ([m]++R) N fu (by rw [hN];simp only [hZ]) (by omega) hl
  unfold jH
  have V:N[P.length+a.size]? =some m:=by
   rw [hN,hZ,hZ,<-hZ P,xf (by simp [a.flat_len])]
   simp [a.flat_len]
  rw [aQ (by simp;omega),lZ (P.length+a.size) (by omega),V]
  simp only [bf]
  have e1:m.Tag=n.Tag:=by rw [hm];rfl
  rw [e1,qU]
  have e:ID n.Tag=1:=by unfold ID;rw [Y];rfl
  simp only [e,bf,ko]
  have e2:C9 m=true:=by rw [hm];exact X
  have eL:m.L=((P.length+a.size:Nat):Int)-1:=by rw [hm];rfl
  have eR:m.R= -1:=by rw [hm];rfl
  rw [eM (n:=((P.length+(a.size+1):Nat):Int)-1-1) (by omega) (by omega),show(((P.length+(a.size+1):Nat):Int)-1-1)=(((P.length+a.size:Nat):Int)-1)from by omega]
  rw [hi]
  simp only [bf]
  rw [eM (n:=(a.size:Int)+1) (by omega) (by omega)]
  have n1: ¬a.size=0:=by omega
  simp [e2,eL,eR,n1]
 |bi n a b iha ihb=>
  intro⟨⟨Y,X,d,h4⟩,ha,H⟩ P R N fu hN hf hl
  obtain⟨m,hm⟩: ∃m,m=jv n (((P.length+a.size:Nat):Int)-1) (((P.length+a.size+b.size:Nat):Int)-1):=⟨_,rfl⟩
  have hNl:=congrArg List.length hN
  simp only [kj,Tr.flat_len]at hNl
  simp only [Tr.size]at hf hNl ⊢
  simp only [Tr.flat,<-hm]at hN
  obtain⟨fu,rfl⟩: ∃k,fu=k+1:=⟨fu-1,by omega⟩
  have hap:=a.size_pos
  have hbp:=b.size_pos
  have hi1:=iha ha P (b.flat (P.length+a.size)++[m]++R) N fu (by rw [hN];simp only [hZ]) (by omega) hl
  have hi2:=ihb H (P++a.flat P.length) ([m]++R) N fu (by rw [hN];simp only [hZ,kj,a.flat_len]) (by omega) hl
  rw [kj,a.flat_len]at hi2
  unfold jH
  have V:N[P.length+a.size+b.size]? =some m:=by
   rw [hN,hZ,hZ,<-hZ P,xf (by simp [a.flat_len,b.flat_len];omega)]
   have:P.length+a.size+b.size-(P++(a.flat P.length++b.flat (P.length+a.size))).length=0:=by simp [a.flat_len,b.flat_len];omega
   rw [this];rfl
  rw [aQ (by simp;omega),lZ (P.length+a.size+b.size) (by omega),V]
  simp only [bf]
  have e1:m.Tag=n.Tag:=by rw [hm];rfl
  rw [e1,qU]
  have e:ID n.Tag=2:=by unfold ID;rw [Y];rfl
  simp only [e,bf,ko]
  have e2:C9 m=true:=by rw [hm];exact X
  have eL:m.L=((P.length+a.size:Nat):Int)-1:=by rw [hm];rfl
  have eR:m.R=((P.length+a.size+b.size:Nat):Int)-1:=by rw [hm];rfl
  rw [eM (n:=((P.length+(a.size+b.size+1):Nat):Int)-1-1) (by omega) (by omega),show(((P.length+(a.size+b.size+1):Nat):Int)-1-1)=(((P.length+a.size+b.size:Nat):Int)-1)from by omega]
  rw [hi2]
  simp only [bf]
  rw [eM (n:=((P.length+a.size+b.size:Nat):Int)-1-(b.size:Int)) (by omega) (by omega),show((P.length+a.size+b.size:Nat):Int)-1-(b.size:Int)=((P.length+a.size:Nat):Int)-1 from by omega]
  rw [hi1]
  simp only [bf]
  rw [eM (n:=(a.size:Int)+(b.size:Int)) (by omega) (by omega),eM (n:=(a.size:Int)+(b.size:Int)+1) (by omega) (by omega)]
  have n1: ¬a.size=0:=by omega
  have n2: ¬b.size=0:=by omega
  have e5:(P.length:Int)+(a.size:Int)+(b.size:Int)-1-(b.size:Int)=(P.length:Int)+(a.size:Int)-1:=by omega
  simp [e2,eL,eR,n1,n2,e5]
def UP(N:List ap)(hN:N.length<=100000): ∀(fu q:Nat),q<=N.length->q<fu-> ∃k:Nat,jH fu ⟨N⟩ ((q:Int)-1)=some (k:Int)/\(k=0\/ ∃(t:Tr) (P R:List ap),t.wf/\t.size=k/\N=P++t.flat P.length++R/\P.length+k=q):=by
 intro fu
 induction fu with
 |zero=>intro q _ h;omega
 |succ fu ih=>
  intro q hq hf
  unfold jH
  by_cases h0:q=0
  ·subst h0
   exact⟨0,by rw [bh (by simp)];rfl,.inl rfl⟩
  rw [aQ (by simp;omega),lZ (q-1) (by omega)]
  have hlt:q-1<N.length:=by omega
  rw [sH hlt]
  obtain⟨n,hn⟩: ∃n,n=N[q-1]:=⟨_,rfl⟩
  rw [<-hn]
  have hd:N=N.take (q-1)++([n]++N.drop q):=by
   have Y:=sL (q-1) N
   rw [B0 hlt,<-hn,show q-1+1=q from by omega]at Y
   exact Y.symm
  simp only [bf,qU,ko]
  cases hk:pk n.Tag with
  |none=>
   have e:ID n.Tag= -1:=by unfold ID;rw [hk]
   exact⟨0,by simp [e],.inl rfl⟩
  |some k=>
   have e:ID n.Tag=(k:Int):=by unfold ID;rw [hk]
   have hk3:k=0\/k=1\/k=2:=by
    unfold pk at hk
    repeat' split at hk
    all_goals simp at hk
    all_goals omega
   cases hc:C9 n with
   |false=>exact⟨0,by simp [e,hc],.inl rfl⟩
   |true=>
    rcases hk3 with rfl|rfl|rfl
    ·rw [e]
     by_cases hL:n.L= -1/\n.R= -1
     ·refine⟨1,by simp [hL],.inr ⟨.lf (jv n (-1) (-1)),N.take (q-1),N.drop q,⟨hk,hc,rfl,rfl⟩,rfl,?_,by simp;omega⟩⟩
      simp only [Tr.flat]
      rw [yL hL.1 hL.2,hZ]
      exact hd
     ·refine⟨0,?_,.inl rfl⟩
      have:(n.L != -1||n.R != -1)=true:=by
       rw [y7,xv,xv]
       by_cases hl:n.L= -1
       ·exact .inr fun h=>hL ⟨hl,h⟩
       ·exact .inl hl
      simp [this]
    ·rw [e,eM (by omega) (by omega)]
     have e9:(((q-1:Nat):Int)-1)=(q:Int)-1-1:=by omega
     obtain⟨r2,X,h2'⟩:=ih (q-1) (by omega) (by omega)
     rw [e9]at X
     rw [X]
     rcases h2' with rfl|⟨t,P,R,hw,hs,hN2,hl⟩
     ·exact⟨0,by simp,.inl rfl⟩
     ·have hp:=t.size_pos
      by_cases hL:n.L=(q:Int)-1-1/\n.R= -1
      ·refine⟨r2+1,?_,.inr ⟨.un (jv n (-1) (-1)) t,P,N.drop q,⟨⟨hk,hc,rfl,rfl⟩,hw⟩,by simp only [Tr.size];omega,?_,by omega⟩⟩
       ·simp only [bf]
        rw [eM (n:=(r2:Int)+1) (by omega) (by omega)]
        have: ¬(r2=0):=by omega
        simp [hL,this]
       ·simp only [Tr.flat]
        rw [yL (by rw [hL.1];omega) hL.2]
        have D:N.take (q-1)=P++t.flat P.length:=by
         rw [hN2,AD (by simp [t.flat_len];omega),ul (by simp [t.flat_len];omega)]
        rw [D]at hd
        simpa only [hZ] using hd
      ·refine⟨0,?_,.inl rfl⟩
       have:(n.L !=(q:Int)-1-1||n.R != -1)=true:=by
        rw [y7,xv,xv]
        by_cases hl:n.L=(q:Int)-1-1
        ·exact .inr fun h=>hL ⟨hl,h⟩
        ·exact .inl hl
       simp [this]
    ·rw [e,eM (n:=(q:Int)-1-1) (by omega) (by omega)]
     have e9:(((q-1:Nat):Int)-1)=(q:Int)-1-1:=by omega
     obtain⟨r2,X,h2'⟩:=ih (q-1) (by omega) (by omega)
     rw [e9]at X
     rw [X]
     rcases h2' with rfl|⟨t,P,R,hw,hs,hN2,hl⟩
     ·exact⟨0,by simp,.inl rfl⟩
     ·have hp:=t.size_pos
      simp only [bf]
      rw [eM (n:=(q:Int)-1-1-(r2:Int)) (by omega) (by omega)]
      have e8:(((q-1-r2:Nat):Int)-1)=(q:Int)-1-1-(r2:Int):=by omega
      have n2: ¬(r2=0):=by omega
      obtain⟨r3,d,h3'⟩:=ih (q-1-r2) (by omega) (by omega)
      rw [e8]at d
      rw [d]
      rcases h3' with rfl|⟨t3,P3,R3,hw3,hs3,hN3,hl3⟩
      ·exact⟨0,by simp,.inl rfl⟩
      ·have hp3:=t3.size_pos
       have n3: ¬(r3=0):=by omega
       by_cases hL:n.R=(q:Int)-1-1/\n.L=(q:Int)-1-1-(r2:Int)
       ·refine⟨r3+r2+1,?_,.inr ⟨.bi (jv n (-1) (-1)) t3 t,P3,N.drop q,⟨⟨hk,hc,rfl,rfl⟩,hw3,hw⟩,by simp only [Tr.size];omega,?_,by omega⟩⟩
        ·simp only [bf]
         rw [eM (n:=(r3:Int)+(r2:Int)) (by omega) (by omega),eM (n:=(r3:Int)+(r2:Int)+1) (by omega) (by omega)]
         simp [hL,n2,n3]
        ·simp only [Tr.flat]
         rw [yL (by rw [hL.2];omega) (by rw [hL.1];omega)]
         have D:N.take (q-1)=P++t.flat P.length:=by
          rw [hN2,AD (by simp [t.flat_len];omega),ul (by simp [t.flat_len];omega)]
         have hP:P=N.take P.length:=by
          conv=>rhs;rw [hN2,hZ,AD (eo _),ul (eo _)]
         have hP3:P=P3++t3.flat P3.length:=by
          rw [hP]
          have:P.length=P3.length+t3.size:=by omega
          conv=>lhs;rw [this,hN3]
          rw [AD (by simp [t3.flat_len]),ul (by simp [t3.flat_len])]
         have hPl:P.length=P3.length+t3.size:=by omega
         rw [D,hPl]at hd
         rw [hP3]at hd
         simpa only [hZ] using hd
       ·clear ih hN2 hN3
        refine⟨0,?_,.inl rfl⟩
        have:(n.R !=(q:Int)-1-1||n.L !=(q:Int)-1-1-(r2:Int))=true:=by
         rw [y7,xv,xv]
         by_cases hl:n.R=(q:Int)-1-1
         ·exact .inr fun h=>hL ⟨hl,h⟩
         ·exact .inl hl
        have h' :=this
        rw [y7,xv,xv]at h'
        simp [n2,n3]
        intro Y X
        exact absurd X (by rcases h' with h' |h';exact absurd Y h';exact h')
def EN(e:aO):xJ e=some (mE e.Nodes):=by
 unfold xJ mE
 by_cases h:1<=e.Nodes.length/\e.Nodes.length<=1000
 ·rw [bh (by simp;omega),eM (by omega) (by omega)]
  unfold EM
  obtain⟨k,Y,X⟩:=UP e.Nodes (by omega) fq e.Nodes.length (eo _) (xu (BY _) (nZ (by omega)))
  have h1' :jH fq e ((e.Nodes.length:Int)-1)=some (k:Int):=Y
  rw [h1']
  simp only [bf]
  congr 1
  rw [xp]
  constructor
  ·intro hk
   have hk' :k=e.Nodes.length:=by have:=eq_of_beq hk;omega
   rcases X with rfl|⟨t,P,R,hw,hs,hN,hl⟩
   ·omega
   ·have hP:P=[]:=sd (by omega)
    subst hP
    have hR:R=[]:=by
     have:=congrArg List.length hN
     simp [t.flat_len]at this
     exact sd (by omega)
    subst hR
    have hN' :e.Nodes=t.flat 0:=by simpa using hN
    rw [hN',JY hw (by omega)];rfl
  ·intro hi
   cases D:rp e.Nodes with
   |none=>rw [D]at hi;cases hi
   |some t=>
    obtain⟨hw,hN,hs⟩:=mZ D
    have hlen:e.Nodes.length=t.size:=by rw [hN,t.flat_len]
    have d:=UO t hw [] [] e.Nodes fq (by simpa using hN) (nZ (by omega)) (by omega)
    simp only [vk,vj]at d
    rw [<-hlen]at d
    have h4:some (k:Int)=some (e.Nodes.length:Int):=Y.symm.trans d
    simpa using h4
 ·rw [aQ (by simp;omega)]
  simp only [bf]
  congr 1
  symm
  rw [D4]
  intro hi
  cases D:rp e.Nodes with
  |none=>rw [D]at hi;cases hi
  |some t=>
   obtain⟨hw,hN,hs⟩:=mZ D
   have hlen:e.Nodes.length=t.size:=by rw [hN,t.flat_len]
   have:=t.size_pos
   omega
def My(h:mE ns=true):1<=ns.length/\ns.length<=1000:=by
 unfold mE at h
 cases D:rp ns with
 |none=>rw [D]at h;cases h
 |some t=>
  obtain⟨hw,hN,hs⟩:=mZ D
  have hlen:ns.length=t.size:=by rw [hN,t.flat_len]
  have:=t.size_pos
  omega
end Go.Proofs.YtdohlidddcgfjaaGreat

