/- bT of this claim: K1, K6, K2, K3, K4, L1, L2. -/
import Derived.Test.YtdohlidddcgfjaaGreatFdF
import Derived.KernelRfl
import Derived.Test.YtdohlidddcgfjaaGreatFdV4
set_option linter.all false
namespace Go.Proofs.YtdohlidddcgfjaaGreat
open Go

abbrev TF:=List am
variable{α:Type}{xs:List α}
def cK{ys:List α}(h:xs.length+ys.length<=68719476736):app xs ys=some (xs++ys):=bh h
def gm(v:am):Bool:=(jP v).getD false
def Es(v:am):jP v=some (gm v):=by
 unfold gm jP
 repeat' split
 all_goals rfl
variable{n:ap}
def qx(v:am):ii v=some (if gm v then 0 else 120):=by
 obtain⟨k,n,u,ae⟩:=v
 unfold gm jP ii xh
 simp only [kW,qw,qv,qu]
 by_cases h0:k=0
 ·subst h0;simp
  repeat' split
  all_goals simp_all
 by_cases Y:k=1
 ·subst Y
  by_cases n0:n=0
  ·subst n0;simp
   repeat' split
   all_goals simp_all
  by_cases n1:n=1
  ·subst n1;simp
   repeat' split
   all_goals simp_all
  simp [n0,n1]
 by_cases X:k=2
 ·subst X;simp
  repeat' split
  all_goals simp_all
 by_cases d:k=3
 ·subst d;simp
  repeat' split
  all_goals simp_all
 by_cases h4:k=4
 ·subst h4;simp
  repeat' split
  all_goals simp_all
 simp [h0,Y,X,d,h4]
def pR(r:TF):Bool:=decide (r.length<=16)&&r.all gm
def Eh(v:am):rR v=some (!gm v):=by
 unfold rR
 rw [qx]
 cases gm v<;>rfl
def Ck{f:am->Option Bool}{g:am->Bool}(hf: ∀v,f v=some (g v))(l:TF):gy l f=some (l.any g):=by
 have key: ∀(l:TF) (i:Nat),(c9 f l i).bind (fun r=>some (decide ((0:Int)<=r)))=some (l.any g):=by
  intro l
  induction l with
  |nil=>intro i;simp [c9]
  |cons e t ih=>intro i;simp only [c9,hf,bg];cases h:g e<;>simp [ih,h]
 exact key l 0
def HU(r:TF):yr r=some (pR r):=by
 unfold yr pR
 rw [Ck (g:=fun v=> !gm v) Eh]
 by_cases h:r.length<=16
 ·rw [bh (by simp;omega)]
  simp [h,List.all_eq_not_any_not]
 ·rw [aR (by simp;omega)]
  simp [h]
def HW(r:TF):yu r=some (if pR r then 0 else 150):=by
 unfold yu
 rw [HU]
 cases pR r<;>rfl
variable{a:Nat}
def HV(a b:TF):vc a b=some (decide (a=b)):=by
 unfold vc dR
 by_cases hl:a.length=b.length
 ·rw [aR (by simp [hl])]
  have key: ∀(l:TF) (i:Nat),a.drop i=l->dC b l i=some (decide (l=b.drop i)):=by
   intro l
   induction l with
   |nil=>
    intro i Y
    have d:a.length<=i:=Jd.1 Y
    rw [Fz (by omega)];rfl
   |cons x t ih=>
    intro i Y
    have hi:i<a.length:=by
     rcases nS i a.length with h|h
     ·exact h
     ·rw [Fz h]at Y;cases Y
    have D:=ih (i+1) (by rw [<-sn,Y];rfl)
    simp only [dC]
    rw [eU,tM (by omega),BE (by omega:i<b.length)]
    simp only [bg,D]
    by_cases V:x=b[i]
    ·rw [aR (by simp [V])]
     exact congrArg some (Af.2 ⟨fun h=>by rw [V,h],fun h=>(xe h).2⟩)
    ·rw [bh (by simp [V])]
     exact congrArg some (Cq (fun h=>V (xe h).1)).symm
  have:=key a 0 rfl
  rw [this];simp
 ·rw [bh (by simp;omega)]
  have:a≠b:=fun e=>hl (by rw [e])
  simp [this]
def JO(p q:List TF):AD p q=some (decide (p=q)):=by
 unfold AD cn
 by_cases hl:p.length=q.length
 ·rw [aR (by simp [hl])]
  have key: ∀(l:List TF) (i:Nat),p.drop i=l->b8 q vc l i=some (decide (l=q.drop i)):=by
   intro l
   induction l with
   |nil=>
    intro i Y
    have d:p.length<=i:=Jd.1 Y
    rw [Fz (by omega)];rfl
   |cons x t ih=>
    intro i Y
    have hi:i<p.length:=by
     rcases nS i p.length with h|h
     ·exact h
     ·rw [Fz h]at Y;cases Y
    have D:=ih (i+1) (by rw [<-sn,Y];rfl)
    simp only [b8]
    rw [eU,tM (by omega),BE (by omega:i<q.length)]
    simp only [bg,D,HV]
    by_cases V:x=q[i]
    ·rw [aR (by simp [V])]
     exact congrArg some (Af.2 ⟨fun h=>by rw [V,h],fun h=>(xe h).2⟩)
    ·rw [bh (by simp [V])]
     exact congrArg some (Cq (fun h=>V (xe h).1)).symm
  have:=key p 0 rfl
  rw [this];simp
 ·rw [bh (by simp;omega)]
  have:p≠q:=fun e=>hl (by rw [e])
  simp [this]

def nb(r:Nat):Nat:=if r%2=1 then(r/2)^^^2197175160 else r/2
def Uv(r:Nat):Nat:=nb (nb (nb (nb (nb (nb (nb (nb r)))))))
def QW(a b:Nat):(a^^^b)/2=(a/2)^^^(b/2):=by
 have:=Nat.xor_div_two_pow (a:=a) (b:=b) (n:=1)
 simpa using this
def QV(a b:Nat):(a^^^b)%2=(a%2+b%2)%2:=by
 have h:=Nat.xor_mod_two_pow (a:=a) (b:=b) (n:=1)
 rw [Nat.pow_one]at h
 rw [h]
 rcases Nat.mod_two_eq_zero_or_one a with Y|Y<;>rcases Nat.mod_two_eq_zero_or_one b with X|X<;>rw [Y,X]<;>rfl
def ul(a b:Nat):nb (a^^^2*b)=nb a^^^b:=by
 unfold nb
 rw [QV,QW]
 have Y:2*b/2=b:=by omega
 have X:(a%2+2*b%2)%2=a%2:=by omega
 rw [Y,X]
 by_cases h:a%2=1
 ·rw [bh h,bh h,Nat.xor_assoc,Nat.xor_assoc,Nat.xor_comm b]
 ·rw [aR h,aR h]
def R9(a b:Nat):Uv (a^^^256*b)=Uv a^^^b:=by
 unfold Uv
 rw [show 256*b=2*(128*b) by omega,ul,show 128*b=2*(64*b) by omega,ul,show 64*b=2*(32*b) by omega,ul,show 32*b=2*(16*b) by omega,ul,
  show 16*b=2*(8*b) by omega,ul,show 8*b=2*(4*b) by omega,ul,show 4*b=2*(2*b) by omega,ul,ul]
def O7(x:Nat):x=(x%256)^^^256*(x/256):=by
 apply Nat.eq_of_testBit_eq
 intro i
 rw [Nat.testBit_xor,show(256:Nat)=2^8 from rfl,Nat.testBit_mod_two_pow,Nat.testBit_two_pow_mul,Nat.testBit_div_two_pow]
 by_cases h:i<8
 ·simp [h,show¬8<=i by omega]
 ·simp [h,show 8<=i by omega,show 8+(i-8)=i by omega]
def Sa(x:Nat):Uv x=Uv (x%256)^^^(x/256):=by
 conv=>lhs;rw [O7 x,R9]
def DO{b:Nat}(ha:a<4294967296)(K:b<4294967296):a^^^b<4294967296:=Nat.xor_lt_two_pow (n:=32) ha K
def CE(ha:a<4294967296):nb a<4294967296:=by
 unfold nb
 split
 ·exact DO (by omega) (by omega)
 ·omega
def R8(ha:a<4294967296):Uv a<4294967296:=CE (CE (CE (CE (CE (CE (CE (CE ha)))))))
def WR(n:Nat)(h:n<4294967296):IntKind.u32.wrap (n:Int)=(n:Int):=by rw [IntKind.wrap_u32];omega
def VW(a b:Nat)(ha:a<4294967296)(K:b<4294967296):qR .xor .u32 (a:Int) (b:Int)=((a^^^b:Nat):Int):=by
 show IntKind.u32.wrap ((BitVec.ofInt 32 (a:Int)^^^BitVec.ofInt 32 (b:Int)).toNat:Int)=_
 rw [show(BitVec.ofInt 32 (a:Int)^^^BitVec.ofInt 32 (b:Int)).toNat=a^^^b by
  rw [BitVec.toNat_xor,BitVec.toNat_ofInt,BitVec.toNat_ofInt]
  congr 1<;>omega]
 exact WR _ (DO ha K)
def ab8(a b:Nat)(ha:a<256)(K:b<256):qR .xor .u8 (a:Int) (b:Int)=((a^^^b:Nat):Int):=by
 show IntKind.u8.wrap ((BitVec.ofInt 8 (a:Int)^^^BitVec.ofInt 8 (b:Int)).toNat:Int)=_
 rw [show(BitVec.ofInt 8 (a:Int)^^^BitVec.ofInt 8 (b:Int)).toNat=a^^^b by
  rw [BitVec.toNat_xor,BitVec.toNat_ofInt,BitVec.toNat_ofInt]
  congr 1<;>omega]
 have:=Nat.xor_lt_two_pow (n:=8) ha K
 rw [BC];omega
def Ha(r c:Nat):Nat:=Uv (r^^^c)
def Ta{r c:Nat}(hr:r<4294967296)(hc:c<256):Ha r c<4294967296:=R8 (DO hr (by omega))
def pC(b:List Int):Prop:= ∀x∈b,∃c:Nat,c<256/\x=(c:Int)
def wJ:List Int:=(List.range 256).map fun i=>(Uv i:Int)
def Rk:BJ=some wJ:=by kernel_rfl
def Pg(i:Nat)(h:i<256):gR wJ (i:Int)=some (Uv i:Int):=by
 rw [eU]
 unfold wJ
 rw [Jf,List.getElem?_range h]
 rfl
def T0(r c:Nat)(hr:r<4294967296)(hc:c<256):ud (r:Int) wJ (c:Int)=some (Ha r c:Int):=by
 unfold ud
 have V:(r%256)^^^c<256:=Nat.xor_lt_two_pow (n:=8) (by omega) hc
 rw [show IntKind.u8.wrap (r:Int)=((r%256:Nat):Int) by rw [BC];omega,ab8 _ _ (by omega) hc,Pg _ V,bg]
 rw [show((r:Int).fdiv (2^(min (Int.toNat (8:Int)) IntKind.u32.bits)))=((r/256:Nat):Int) by
  show(r:Int).fdiv 256=_
  rw [Nr _ (by omega)];omega]
 rw [VW _ _ (by omega) (R8 (by omega))]
 unfold Ha
 rw [Sa (r^^^c)]
 rw [show(r^^^c)%256=(r%256)^^^c by
  have:=Nat.xor_mod_two_pow (a:=r) (b:=c) (n:=8)
  rw [show(256:Nat)=2^8 from rfl,this,Nat.mod_eq_of_lt (a:=c) (by omega)]]
 rw [show(r^^^c)/256=r/256 by
  have:=Nat.xor_div_two_pow (a:=r) (b:=c) (n:=8)
  rw [show(256:Nat)=2^8 from rfl,this,Nat.div_eq_of_lt (a:=c) (by omega),Nat.xor_zero],Nat.xor_comm]
def Gp: ∀(b:List Int) (r:Nat),r<4294967296->pC b-> ∃ae:Nat,ae<4294967296/\ae=b.foldl (fun r x=>Ha r x.toNat) r/\oO wJ b (r:Int)=some (((4294967295-ae:Nat)):Int)
 |[],r,hr,_=>⟨r,hr,rfl,by
  unfold oO
  rw [show(if IntKind.u32.signed then -1 else IntKind.u32.max)=((4294967295:Nat):Int)from rfl,VW _ _ (by omega) hr]
  congr 2
  have h:=BitVec.allOnes_xor (x:=BitVec.ofNat 32 r)
  have X:=congrArg BitVec.toNat h
  rw [BitVec.toNat_xor,BitVec.toNat_not,BitVec.toNat_allOnes,BitVec.toNat_ofNat,Nat.mod_eq_of_lt (a:=r) (by omega)]at X
  exact X⟩
 |x::b,r,hr,K=>by
  obtain⟨c,hc,rfl⟩:=K _ (nA ..)
  obtain⟨ae,Y,X,d⟩:=Gp b (Ha r c) (Ta hr hc) (fun y hy=>K y (pp _ hy))
  refine⟨ae,Y,X,?_⟩
  unfold oO
  rw [T0 r c hr hc,bg]
  exact d
def ic{a b:List Int}(ha:pC a)(K:pC b):pC (a++b):=fun x V=>(tQ.1 V).elim (ha x) (K x)
def Dv(n:Int):pC [IntKind.u8.wrap n]:=fun x V=>by
 rw [zq.1 V]
 exact⟨(IntKind.u8.wrap n).toNat,by rw [BC];omega,by rw [BC];omega⟩
def Qq(ae:OQ):pC (ka ae):=fun x V=>by
 obtain⟨b,_,rfl⟩:=Ao.1 V
 exact⟨b.toNat,UInt8.toNat_lt b,rfl⟩
def Cf(n:Nat):Nat->List Int
 |0=>[]
 |k+1=>((n/256^k%256:Nat):Int)::Cf n k

structure Cmp{α:Type}(f:α->α->Int):Prop where
 rng: ∀x y,f x y= -1\/f x y=0\/f x y=1
 anti: ∀x y,f y x= -f x y
 eq: ∀x y,f x y=0↔x=y
 trans: ∀x y z,f x y<=0->f y z<=0->f x z<=0
def key(v:am):Int×Int×Int×OQ:=(v.Kind,v.N,v.U,v.S)

section
variable{f:α->α->Int}
def ltB(f:α->α->Int)(x y:α):Bool:=decide (f x y<0)
def srt(f:α->α->Int)(l:List α):List α:=Wc (ltB f) l
def put(f:α->α->Int)(x:α):List α->List α
 |[]=>[x]
 |y::l=>if f x y<0 then x::y::l else y::put f x l
end
def yb{α:Type} [DecidableEq α]:α->List α->List α
 |_,[]=>[]
 |p,x::t=>if x=p then yb x t else x::yb x t
def KP [DecidableEq α](p:α):yb p []=[]:=by unfold yb;rfl
def G8 [DecidableEq α]{p x:α}(h:x=p)(t:List α):yb p (x::t)=yb x t:=by
 conv=>lhs;unfold yb
 rw [bh h]
def OA [DecidableEq α]{p x:α}(h: ¬x=p)(t:List α):yb p (x::t)=x::yb x t:=by
 conv=>lhs;unfold yb
 rw [aR h]
def Oz{α:Type} [DecidableEq α]:List α->List α
 |[]=>[]
 |x::t=>x::yb x t
def E7{α:Type} [DecidableEq α]: ∀(p:α) (l:List α) (z:α),z∈yb p l->z∈l
 |p,x::t,z,h=>by
  unfold yb at h
  split at h
  ·exact pp _ (E7 x t z h)
  ·rcases jf.1 h with rfl|h
   ·exact nA ..
   ·exact pp _ (E7 x t z h)
def EF{α:Type} [DecidableEq α]: ∀(p:α) (l:List α) (z:α),z∈l->z=p\/z∈yb p l
 |p,x::t,z,h=>by
  unfold yb
  by_cases V:x=p
  ·rw [bh V]
   rcases jf.1 h with rfl|h
   ·exact .inl V
   ·rcases EF x t z h with h|h
    ·exact .inl (h.trans V)
    ·exact .inr h
  ·rw [aR V]
   rcases jf.1 h with rfl|h
   ·exact .inr (nA ..)
   ·rcases EF x t z h with h|h
    ·exact .inr (by rw [h];exact nA ..)
    ·exact .inr (pp _ h)
def PP [DecidableEq α](l:List α)(z:α):z∈Oz l↔z∈l:=by
 cases l with
 |nil=>exact s7
 |cons x t=>
  constructor
  ·intro h
   rcases jf.1 h with rfl|h
   ·exact nA ..
   ·exact pp _ (E7 x t z h)
  ·intro h
   rcases jf.1 h with rfl|h
   ·exact nA ..
   ·rcases EF x t z h with rfl|h
    ·exact nA ..
    ·exact pp _ h

structure Small(l:List TF):Prop where
 len:l.length<=8000
 row: ∀r∈l,r.length<=1000
def eP{n:Int}(h: -9223372036854775808<=n)(X:n<=9223372036854775807):IntKind.i64.wrap n=n:=by rw [q7];omega
def sQ{l m:Nat}(h:l<=m)(X:m<=xs.length):dV xs (l:Int) (m:Int)=some ((xs.take m).drop l):=by
 unfold dV
 rw [bh (by omega)]
 simp

def jZ{i j:Int}(l m:Nat)(hi:i=(l:Int))(hj:j=(m:Int))(h:l<=m)(X:m<=xs.length):dV xs i j=some ((xs.take m).drop l):=by
 subst hi hj;exact sQ h X
def lV{i:Int}(k:Nat)(hi:i=(k:Int)):gR xs i=xs[k]? :=by subst hi;exact eU _ _
def uO(v:am):Bool:=gm v&&(v.Kind !=4)
def DQ(v:am):ub v=some (uO v):=by
 unfold ub uO
 rw [qx]
 cases gm v<;>simp
def oe(v:am):xw v=some (uO v):=by
 unfold xw uO
 rw [Es]
 rfl
def JT{v:am}(h:uO v=true):0<=v.Kind/\v.Kind<=3:=by
 obtain⟨k,n,u,ae⟩:=v
 unfold uO gm jP at h
 simp only [lq,xd,ne_eq]at h
 obtain⟨Y,X⟩:=h
 by_cases h0:k=0
 ·simp [h0]
 by_cases k1:k=1
 ·simp [k1]
 by_cases k2:k=2
 ·simp [k2]
 by_cases k3:k=3
 ·simp [k3]
 simp [h0,k1,k2,k3,X]at Y
def pk(tag:Int):Option Nat:=if tag=1\/tag=2 then some 0 else if 4<=tag/\tag<=7 then some 1 else if 12<=tag/\tag<=23 then some 2 else none
def Ie(tag:Int):Int:=match pk tag with
 |some k=>(k:Int)
 |none=> -1
def zh(tag:Int):rr tag=some (Ie tag):=by
 unfold rr Ie pk
 by_cases Y:tag=1\/tag=2
 ·rw [bh Y,bh (by simpa using Y)];rfl
 rw [aR Y,aR (by simpa using Y)]
 by_cases X:4<=tag/\tag<=7
 ·rw [bh X,bh (by simpa using X)];rfl
 rw [aR X,aR (by simpa using X)]
 by_cases d:12<=tag/\tag<=23
 ·rw [bh d,bh (by simpa using d)];rfl
 rw [aR d,aR (by simpa using d)]
def qF(tag:Int):xv tag=some (Ie tag):=by
 unfold xv CD Ie pk
 by_cases Y:tag=1\/tag=2
 ·rw [bh Y];rcases Y with rfl|rfl<;>rfl
 rw [aR Y]
 by_cases X:4<=tag/\tag<=7
 ·rw [bh X]
  have:tag=4\/tag=5\/tag=6\/tag=7:=by omega
  rcases this with rfl|rfl|rfl|rfl<;>rfl
 rw [aR X]
 by_cases d:12<=tag/\tag<=23
 ·rw [bh d,aR (by simp;omega),aR (by simp;omega),aR (by simp;omega),aR (by simp;omega)];rfl
 rw [aR d]
 by_cases h4:tag=3\/(8<=tag/\tag<=11)
 ·rw [bh (by simpa using h4)]
 rw [aR (by simpa using h4),bh (by simp;omega)]
 rfl
def CQ(n:ap):Bool:=(kz n).getD false
def ke(n:ap):kz n=some (CQ n):=by
 unfold CQ kz
 rw [oe]
 split
 ·rfl
 ·split<;>rfl
def E2(n:ap):uA n=some (CQ n):=by
 rw [<-ke]
 unfold uA kz
 rw [oe,DQ]
inductive Tr where
 |lf (n:ap)
 |un (n:ap) (a:Tr)
 |bi (n:ap) (a b:Tr)
 deriving Inhabited
def Tr.size:Tr->Nat
 | .lf _=>1
 | .un _ a=>a.size+1
 | .bi _ a b=>a.size+b.size+1
def jq(n:ap)(l r:Int):ap:={n with L:=l,R:=r}
def Tr.flat:Tr->Nat->List ap
 | .lf n,_=>[jq n (-1) (-1)]
 | .un n a,ae=>a.flat ae++[jq n ((ae+a.size:Nat)-1) (-1)]
 | .bi n a b,ae=>a.flat ae++b.flat (ae+a.size)++[jq n ((ae+a.size:Nat)-1) ((ae+a.size+b.size:Nat)-1)]
def Xv(k:Nat)(n:ap):Prop:=pk n.Tag=some k/\CQ n=true/\n.L= -1/\n.R= -1
def Tr.wf:Tr->Prop
 | .lf n=>Xv 0 n
 | .un n a=>Xv 1 n/\a.wf
 | .bi n a b=>Xv 2 n/\a.wf/\b.wf
def Tr.size_pos(t:Tr):0<t.size:=by cases t<;>simp [Tr.size]
def Tr.flat_len(t:Tr): ∀ae,(t.flat ae).length=t.size:=by
 induction t with
 |lf n=>intro ae;rfl
 |un n a ih=>intro ae;simp [Tr.flat,Tr.size,ih]
 |bi n a b iha ihb=>intro ae;simp [Tr.flat,Tr.size,iha,ihb];omega
def cH:List Tr->Nat
 |[]=>0
 |t::st=>cH st+t.size
def wO:List Tr->List ap
 |[]=>[]
 |t::st=>wO st++t.flat (cH st)
def GV: ∀st:List Tr,(wO st).length=cH st
 |[]=>rfl
 |t::st=>by simp [wO,cH,GV st,t.flat_len]
def Gu: ∀st:List Tr,st.length<=cH st
 |[]=>eg _
 |t::st=>by have:=Gu st;have:=t.size_pos;simp [cH];omega
def push(st:List Tr)(n:ap):Option (List Tr):=
 match pk n.Tag,st with
 |some 0,st=>if CQ n&&n.L== -1&&n.R== -1 then some (.lf (jq n (-1) (-1))::st)else none
 |some 1,a::st=>if CQ n&&n.L==((cH st+a.size:Nat):Int)-1&&n.R== -1 then some (.un (jq n (-1) (-1)) a::st)else none
 |some 2,b::a::st=>if CQ n&&n.L==((cH st+a.size:Nat):Int)-1&&n.R==((cH st+a.size+b.size:Nat):Int)-1 then some (.bi (jq n (-1) (-1)) a b::st)else none
 |_,_=>none
def qc:List ap->List Tr->Option (List Tr)
 |[],st=>some st
 |n::ns,st=>(push st n).bind (qc ns)
def wfs(st:List Tr):Prop:= ∀t∈st,t.wf
def yx{l r:Int}(h:n.L=l)(X:n.R=r):jq (jq n (-1) (-1)) l r=n:=by subst h X;rfl
def IQ{l r:Int}:CQ (jq n l r)=CQ n:=rfl
def PE{st st' :List Tr}(h:push st n=some st')(hw:wfs st):wO st' =wO st++[n]/\cH st' =cH st+1/\wfs st' :=by
 unfold push at h
 split at h
 ·rename_i k st0 hk
  split at h
  ·rename_i hc
   simp only [lq,oJ]at hc
   obtain⟨⟨Y,X⟩,d⟩:=hc
   cases h
   refine⟨?_,rfl,fun t D=>?_⟩
   ·simp only [wO,Tr.flat]
    rw [yx X d]
   ·rcases jf.1 D with rfl|D
    ·exact⟨hk,Y,rfl,rfl⟩
    ·exact hw t D
  ·cases h
 ·rename_i k a st0 hk
  split at h
  ·rename_i hc
   simp only [lq,oJ]at hc
   obtain⟨⟨Y,X⟩,d⟩:=hc
   cases h
   refine⟨?_,by simp [cH,Tr.size];omega,fun t D=>?_⟩
   ·simp only [wO,Tr.flat]
    rw [yx X d,pD]
   ·rcases jf.1 D with rfl|D
    ·exact⟨⟨hk,Y,rfl,rfl⟩,hw a (nA ..)⟩
    ·exact hw t (pp _ D)
  ·cases h
 ·rename_i k b a st0 hk
  split at h
  ·rename_i hc
   simp only [lq,oJ]at hc
   obtain⟨⟨Y,X⟩,d⟩:=hc
   cases h
   refine⟨?_,by simp [cH,Tr.size];omega,fun t D=>?_⟩
   ·simp only [wO,Tr.flat,cH]
    rw [yx X d]
    simp only [pD]
   ·rcases jf.1 D with rfl|D
    ·exact⟨⟨hk,Y,rfl,rfl⟩,hw a (pp _ (nA ..)),hw b (nA ..)⟩
    ·exact hw t (pp _ (pp _ D))
  ·cases h
 ·cases h
variable{ns:List ap}
def zJ: ∀{ns:List ap} {st st' :List Tr},qc ns st=some st' ->wfs st->wO st' =wO st++ns/\wfs st'
 |[],st,st',h,hw=>by cases h;simp [hw]
 |n::ns,st,st',h,hw=>by
  unfold qc at h
  cases hp:push st n with
  |none=>rw [hp]at h;cases h
  |some st1=>
   rw [hp]at h
   obtain⟨Y,_,d⟩:=PE hp hw
   obtain⟨h4,h5⟩:=zJ (ns:=ns) h d
   exact⟨by rw [h4,Y];simp,h5⟩
def sF: ∀(ns ms:List ap) (st:List Tr),qc (ns++ms) st=(qc ns st).bind (qc ms)
 |[],ms,st=>rfl
 |n::ns,ms,st=>by
  simp only [Fw,qc]
  cases push st n with
  |none=>rfl
  |some st1=>exact sF ns ms st1
def L9(t:Tr): ∀(st:List Tr),t.wf->qc (t.flat (cH st)) st=some (t::st):=by
 induction t with
 |lf n=>
  intro st ⟨Y,X,d,h4⟩
  have hn' :jq n (-1) (-1)=n:=by cases n;simp only at d h4;subst d h4;rfl
  simp only [Tr.flat,qc,push,hn']
  rw [Y]
  simp [X,d,h4,qc,hn']
 |un n a ih=>
  intro st ⟨⟨Y,X,d,h4⟩,ha⟩
  have hn' :jq n (-1) (-1)=n:=by cases n;simp only at d h4;subst d h4;rfl
  simp only [Tr.flat]
  rw [sF,ih st ha]
  simp only [bg,qc,push]
  have e1:(jq n (((cH st+a.size:Nat):Int)-1) (-1)).Tag=n.Tag:=rfl
  rw [e1,Y]
  have e2:CQ (jq n (((cH st+a.size:Nat):Int)-1) (-1))=true:=X
  rw [e2]
  simp only [jq,beq_self_eq_true,Bool.and_self,jL,bg,qc]
  simp only [jq]at hn'
  rw [hn']
 |bi n a b iha ihb=>
  intro st ⟨⟨Y,X,d,h4⟩,ha,K⟩
  have hn' :jq n (-1) (-1)=n:=by cases n;simp only at d h4;subst d h4;rfl
  simp only [Tr.flat]
  rw [sF,sF,iha st ha]
  simp only [bg]
  have e0:cH st+a.size=cH (a::st):=rfl
  rw [e0,ihb (a::st) K]
  simp only [bg,qc,push]
  have e1:(jq n (((cH (a::st):Nat):Int)-1) (((cH (a::st)+b.size:Nat):Int)-1)).Tag=n.Tag:=rfl
  rw [e1,Y]
  have e2:CQ (jq n (((cH (a::st):Nat):Int)-1) (((cH (a::st)+b.size:Nat):Int)-1))=true:=X
  rw [e2]
  simp only [jq,cH,beq_self_eq_true,Bool.and_self,jL,bg,qc]
  simp only [jq]at hn'
  rw [hn']
def ra(ns:List ap):Option Tr:=match qc ns []with
 |some [t]=>if ns.length<=1000 then some t else none
 |_=>none
def mR{t:Tr}(h:ra ns=some t):t.wf/\ns=t.flat 0/\t.size<=1000:=by
 unfold ra at h
 split at h
 ·rename_i t0 hp
  split at h
  ·rename_i hl
   cases h
   obtain⟨Y,X⟩:=zJ hp (fun t D=>by cases D)
   simp only [wO,cH,m7]at Y
   exact⟨X t (nA ..),Y.symm,by rw [<-t.flat_len 0,Y];exact hl⟩
  ·cases h
 ·cases h
def JB{t:Tr}(h:t.wf)(hs:t.size<=1000):ra (t.flat 0)=some t:=by
 unfold ra
 have h0:=L9 t [] h
 simp only [cH]at h0
 rw [h0]
 simp only [t.flat_len,hs,jL]
def fl:Tr->Nat->List Int
 | .lf _,ae=>[(ae:Int)]
 | .un _ a,ae=>fl a ae++[(ae:Int)]
 | .bi _ a b,ae=>fl a ae++fl b (ae+a.size)++[(ae:Int)]
def Qe:List Tr->List Int
 |[]=>[]
 |t::st=>Qe st++fl t (cH st)
def mY:List Tr->List Int
 |[]=>[]
 |t::st=>mY st++[((cH st+t.size:Nat):Int)-1]
def wa(t:Tr): ∀ae,(fl t ae).length=t.size:=by
 induction t with
 |lf n=>intro ae;rfl
 |un n a ih=>intro ae;simp [fl,Tr.size,ih]
 |bi n a b iha ihb=>intro ae;simp [fl,Tr.size,iha,ihb];omega
def ut: ∀st:List Tr,(Qe st).length=cH st
 |[]=>rfl
 |t::st=>by simp [Qe,cH,ut st,wa]
def dD: ∀st:List Tr,(mY st).length=st.length
 |[]=>rfl
 |t::st=>by simp [mY,dD st]
def UK(t:Tr)(ae:Nat):(fl t ae)[t.size-1]? =some (ae:Int):=by
 cases t with
 |lf n=>rfl
 |un n a=>simp only [fl,Tr.size];rw [wW (by rw [wa];omega),wa];simp
 |bi n a b=>simp only [fl,Tr.size];rw [wW (by simp [wa]),kw,wa,wa];simp
def EP(t:Tr)(st:List Tr)(rest:List Int):(Qe st++fl t (cH st)++rest)[cH st+t.size-1]? =some (cH st:Int):=by
 have:=t.size_pos
 rw [Al (by rw [kw,ut,wa];omega),wW (by rw [ut];omega),ut,show cH st+t.size-1-cH st=t.size-1 from by omega]
 exact UK t _
def Qf: ∀(ns:List ap) (st:List Tr),cH st+ns.length<=100000->lj ns (cH st) (Qe st) (mY st)=some (match qc ns st with
   |some st' =>(Qe st',decide (st'.length=1)&&decide (cH st' <=1000))
   |none=>([],false)):=by
 intro ns
 induction ns with
 |nil=>
  intro st _
  simp only [lj,qc,dD,ut]
  congr 2
  congr 1
  ·rw [w9];simp;omega
  ·rw [w9];simp;omega
 |cons n ns ih=>
  intro st hs
  simp only [iB]at hs
  have hll:=Gu st
  unfold lj
  rw [zh]
  simp only [bg,dD,E2]
  unfold qc
  unfold push
  -- the parts
  cases hk:pk n.Tag with
  |none=>
   have e:Ie n.Tag= -1:=by unfold Ie;rw [hk]
   simp [e]
  |some k=>
   have e:Ie n.Tag=(k:Int):=by unfold Ie;rw [hk]
   have hk3:k=0\/k=1\/k=2:=by
    unfold pk at hk
    repeat' split at hk
    all_goals simp at hk
    all_goals omega
   rw [e]
   rcases hk3 with rfl|rfl|rfl
   ·-- none
    simp only []
    have c1:(decide (((0:Nat):Int)<0)||decide ((st.length:Int)<((0:Nat):Int)))=false:=by simp
    simp only [c1,Ar,jL,bg]
    cases hc:CQ n with
    |false=>simp
    |true=>
     simp only [sm,nV,lD,nC]
     rw [jZ st.length st.length (by rw [eP (by omega) (by omega)];omega) rfl (eg _) (by rw [dD];exact eg _)]
     have hd:(List.take st.length (mY st)).drop st.length=[]:=Ht (by simp;omega)
     simp only [hd,bg,mL]
     by_cases hL:n.L= -1/\n.R= -1
     ·have K:(n.L== -1&&n.R== -1)=true:=by simp [hL]
      rw [bh K,aR (by simp [hL.1,hL.2])]
      rw [cK (by simp only [iB,uY,ut];omega)]
      simp only [bg]
      rw [jZ (i:=0) 0 st.length rfl (by rw [dD,eP (by omega) (by omega)];omega) (pq _) (by rw [dD];exact eg _)]
      rw [tS (by rw [dD];exact eg _),BB]
      simp only [bg]
      rw [cK (by simp only [iB,uY,dD];omega)]
      simp only [bg]
      have X:=ih (.lf (jq n (-1) (-1))::st) (by simp [cH,Tr.size];omega)
      simp only [cH,Tr.size,Qe,fl,mY]at X
      rw [show(((cH st+1:Nat):Int)-1)=(cH st:Int)from by omega]at X
      exact X
     ·have K:(n.L== -1&&n.R== -1)=false:=by
       rw [DF];intro h;apply hL;simpa using h
      rw [K]
      rw [bh (by
       simp only [CW,Nn]
       intro h
       have Y:(-1:Int)=n.L:=by injection h
       have X:(-1:Int)=n.R:=by injection h with _ h;injection h
       exact hL ⟨Y.symm,X.symm⟩)]
      simp
   ·-- one
    cases st with
    |nil=>simp
    |cons a st=>
     simp only []
     have c1:(decide (((1:Nat):Int)<0)||decide (((a::st).length:Int)<((1:Nat):Int)))=false:=by simp;omega
     simp only [c1,Ar,jL,bg]
     cases hc:CQ n with
     |false=>simp
     |true=>
      simp only [sm,nV,lD,nC]
      simp only [iB]at hll ⊢
      simp only [cH]at hs hll
      have hap:=a.size_pos
      rw [jZ st.length (st.length+1) (by rw [eP (by omega) (by omega)];omega) (by omega) (by omega) (by rw [dD];exact eg _)]
      have hd:(List.take (st.length+1) (mY (a::st))).drop st.length=[((cH st+a.size:Nat):Int)-1]:=by
       rw [tS (by rw [dD];exact eg _)]
       simp only [mY]
       rw [Ns (by rw [dD];exact eg _),Ht (by rw [dD];exact eg _),m7]
      rw [hd]
      simp only [bg,mL]
      rw [lV (cH st+a.size-1) (by omega)]
      have hf:=EP a st []
      rw [pM]at hf
      simp only [Qe]
      rw [hf]
      simp only [bg]
      rw [lV 0 rfl]
      simp only [Gb,bg]
      have hset:([(-1:Int),-1].set ((0:Nat):Int).toNat (((cH st+a.size:Nat):Int)-1))=[((cH st+a.size:Nat):Int)-1,-1]:=rfl
      rw [hset]
      by_cases hL:n.L=((cH st+a.size:Nat):Int)-1/\n.R= -1
      ·have K:(n.L==((cH st+a.size:Nat):Int)-1&&n.R== -1)=true:=by simp [hL]
       rw [bh K,aR (by rw [hL.1,hL.2];simp)]
       rw [cK (by simp only [iB,uY,kw,ut,wa];omega)]
       simp only [bg]
       rw [jZ (i:=0) 0 st.length rfl (by rw [dD,eP (by simp<;>omega) (by simp<;>omega)];simp) (pq _) (by rw [dD];simp)]
       have D:(List.take st.length (mY (a::st))).drop 0=mY st:=by
        simp only [mY,BB]
        rw [CZ (by rw [dD];exact eg _),tS (by rw [dD];exact eg _)]
       rw [D]
       simp only [bg]
       rw [cK (by simp only [iB,uY,dD];omega)]
       simp only [bg]
       have X:=ih (.un (jq n (-1) (-1)) a::st) (by simp [cH,Tr.size];omega)
       simp only [cH,Tr.size,Qe,fl,mY]at X
       rw [show(((cH st+(a.size+1):Nat):Int)-1)=((cH st+a.size:Nat):Int)from by omega]at X
       have hm:min ((cH (a::st):Nat):Int) (cH st:Int)=(cH st:Int):=by simp only [cH];omega
       rw [hm]
       simp only [pD]at X ⊢
       exact X
      ·have K:(n.L==((cH st+a.size:Nat):Int)-1&&n.R== -1)=false:=by
        rw [DF];intro h;apply hL;simpa using h
       rw [K]
       rw [bh (by
        simp only [CW,Nn]
        intro h
        have Y:((cH st+a.size:Nat):Int)-1=n.L:=by injection h
        have X:(-1:Int)=n.R:=by injection h with _ h;injection h
        exact hL ⟨Y.symm,X.symm⟩)]
       simp
   ·-- two
    cases st with
    |nil=>simp
    |cons b st=>
     cases st with
     |nil=>simp
     |cons a st=>
      simp only []
      have c1:(decide (((2:Nat):Int)<0)||decide (((b::a::st).length:Int)<((2:Nat):Int)))=false:=by simp;omega
      simp only [c1,Ar,jL,bg]
      cases hc:CQ n with
      |false=>simp
      |true=>
       simp only [sm,nV,lD,nC]
       simp only [iB]at hll ⊢
       simp only [cH]at hs hll
       have hap:=a.size_pos
       have hbp:=b.size_pos
       rw [jZ st.length (st.length+1+1) (by rw [eP (by omega) (by omega)];omega) (by omega) (by omega) (by rw [dD];exact eg _)]
       have hd:(List.take (st.length+1+1) (mY (b::a::st))).drop st.length=[((cH st+a.size:Nat):Int)-1,((cH st+a.size+b.size:Nat):Int)-1]:=by
        rw [tS (by rw [dD];exact eg _)]
        simp only [mY,cH,pD]
        rw [Ns (by rw [dD];exact eg _),Ht (by rw [dD];exact eg _),m7]
        rfl
       rw [hd]
       simp only [bg,mL]
       simp only [Qe,cH]
       rw [lV (cH st+a.size-1) (by omega)]
       rw [EP a st (fl b (cH st+a.size))]
       simp only [bg]
       rw [lV 0 rfl]
       simp only [Gb,bg]
       have hset:([(-1:Int),-1].set ((0:Nat):Int).toNat (((cH st+a.size:Nat):Int)-1))=[((cH st+a.size:Nat):Int)-1,-1]:=rfl
       rw [hset]
       rw [lV (cH st+a.size+b.size-1) (by omega)]
       have hf:=EP b (a::st) []
       rw [pM]at hf
       simp only [Qe,cH]at hf
       rw [hf]
       simp only [bg]
       rw [lV (0+1) rfl]
       simp only [List.getElem?_cons_succ,Gb,bg]
       have hset2:([((cH st+a.size:Nat):Int)-1,-1].set ((0+1:Nat):Int).toNat (((cH st+a.size+b.size:Nat):Int)-1))=[((cH st+a.size:Nat):Int)-1,((cH st+a.size+b.size:Nat):Int)-1]:=rfl
       rw [hset2]
       by_cases hL:n.L=((cH st+a.size:Nat):Int)-1/\n.R=((cH st+a.size+b.size:Nat):Int)-1
       ·have K:(n.L==((cH st+a.size:Nat):Int)-1&&n.R==((cH st+a.size+b.size:Nat):Int)-1)=true:=by rw [hL.1,hL.2];simp
        rw [bh K,aR (by rw [hL.1,hL.2];simp)]
        rw [cK (by simp only [iB,uY,kw,ut,wa];omega)]
        simp only [bg]
        rw [jZ (i:=0) 0 st.length rfl (by rw [dD,eP (by simp;omega) (by simp;omega)];simp;omega) (pq _) (by rw [dD];simp;omega)]
        have D:(List.take st.length (mY (b::a::st))).drop 0=mY st:=by
         simp only [mY,BB,pD]
         rw [CZ (by rw [dD];exact eg _),tS (by rw [dD];exact eg _)]
        rw [D]
        simp only [bg]
        rw [cK (by simp only [iB,uY,dD];omega)]
        simp only [bg]
        have X:=ih (.bi (jq n (-1) (-1)) a b::st) (by simp [cH,Tr.size];omega)
        simp only [cH,Tr.size,Qe,fl,mY]at X
        rw [show(((cH st+(a.size+b.size+1):Nat):Int)-1)=((cH st+a.size+b.size:Nat):Int)from by omega,show cH st+(a.size+b.size+1)=cH st+a.size+b.size+1 from by omega]at X
        have hm:min (min (((cH st+a.size+b.size:Nat)):Int) (cH st:Int)) ((cH st+a.size:Nat):Int)=(cH st:Int):=by omega
        rw [hm]
        simp only [pD]at X ⊢
        exact X
       ·have K:(n.L==((cH st+a.size:Nat):Int)-1&&n.R==((cH st+a.size+b.size:Nat):Int)-1)=false:=by
         rw [DF];intro h;apply hL;simpa using h
        rw [K]
        rw [bh (by
         simp only [CW,Nn]
         intro h
         have Y:((cH st+a.size:Nat):Int)-1=n.L:=by injection h
         have X:((cH st+a.size+b.size:Nat):Int)-1=n.R:=by injection h with _ h;injection h
         exact hL ⟨Y.symm,X.symm⟩)]
        simp

def nM{n:Nat}(h:n<=1000000):n<=fh:=by unfold fh;omega
def my(ns:List ap):Bool:=(ra ns).isSome
def JW{st:List Tr}(h:qc ns []=some st):cH st=ns.length:=by
 have:=(zJ h (fun t D=>by cases D)).1
 rw [<-GV,this];simp [wO]
def zi(e:aP)(h:e.Nodes.length<=100000):tG e=some (if my e.Nodes then 0 else 200):=by
 unfold tG xZ my ra
 have:=Qf e.Nodes [] (by simpa [cH] using h)
 simp only [cH,Qe,mY]at this
 rw [this]
 cases hp:qc e.Nodes []with
 |none=>rfl
 |some st=>
  have hsz:=JW hp
  match st,hsz with
  |[],_=>rfl
  |[t],hsz=>
   simp only [bg,hsz]
   by_cases hl:e.Nodes.length<=1000<;>simp [hl]
  |t::t2::st,_=>simp
def T8(t:Tr):t.wf-> ∀(P R N:List ap) (fu:Nat),N=P++t.flat P.length++R->t.size<=fu->N.length<=100000->jC fu ⟨N⟩ (((P.length+t.size:Nat):Int)-1)=some (t.size:Int):=by
 induction t with
 |lf n=>
  intro⟨Y,X,d,h4⟩ P R N fu hN hf hl
  have hNl:=congrArg List.length hN
  simp only [kw,Tr.flat_len]at hNl
  simp only [Tr.size]at hf hNl ⊢
  obtain⟨fu,rfl⟩: ∃k,fu=k+1:=⟨fu-1,by omega⟩
  unfold jC
  have V:N[P.length]? =some (jq n (-1) (-1)):=by
   rw [hN,pD,wW (eg _),wH];rfl
  rw [aR (by simp;omega),lV P.length (by omega),V]
  have e1:(jq n (-1) (-1)).Tag=n.Tag:=rfl
  simp only [bg]
  rw [e1,qF]
  have e:Ie n.Tag=0:=by unfold Ie;rw [Y];rfl
  simp only [e,bg,ke]
  have e2:CQ (jq n (-1) (-1))=true:=X
  rw [e2]
  simp [jq]
 |un n a ih=>
  intro⟨⟨Y,X,d,h4⟩,ha⟩ P R N fu hN hf hl
  obtain⟨m,hm⟩: ∃m,m=jq n (((P.length+a.size:Nat):Int)-1) (-1):=⟨_,rfl⟩
  have hNl:=congrArg List.length hN
  simp only [kw,Tr.flat_len]at hNl
  simp only [Tr.size]at hf hNl ⊢
  simp only [Tr.flat,<-hm]at hN
  obtain⟨fu,rfl⟩: ∃k,fu=k+1:=⟨fu-1,by omega⟩
  have hpos:=a.size_pos
  have hi:=ih ha P ([m]++R) N fu (by rw [hN];simp only [pD]) (by omega) hl
  unfold jC
  have V:N[P.length+a.size]? =some m:=by
   rw [hN,pD,pD,<-pD P,wW (by simp [a.flat_len])]
   simp [a.flat_len]
  rw [aR (by simp;omega),lV (P.length+a.size) (by omega),V]
  simp only [bg]
  have e1:m.Tag=n.Tag:=by rw [hm];rfl
  rw [e1,qF]
  have e:Ie n.Tag=1:=by unfold Ie;rw [Y];rfl
  simp only [e,bg,ke]
  have e2:CQ m=true:=by rw [hm];exact X
  have eL:m.L=((P.length+a.size:Nat):Int)-1:=by rw [hm];rfl
  have eR:m.R= -1:=by rw [hm];rfl
  rw [eP (n:=((P.length+(a.size+1):Nat):Int)-1-1) (by omega) (by omega),show(((P.length+(a.size+1):Nat):Int)-1-1)=(((P.length+a.size:Nat):Int)-1)from by omega]
  rw [hi]
  simp only [bg]
  rw [eP (n:=(a.size:Int)+1) (by omega) (by omega)]
  have n1: ¬a.size=0:=by omega
  simp [e2,eL,eR,n1]
 |bi n a b iha ihb=>
  intro⟨⟨Y,X,d,h4⟩,ha,K⟩ P R N fu hN hf hl
  obtain⟨m,hm⟩: ∃m,m=jq n (((P.length+a.size:Nat):Int)-1) (((P.length+a.size+b.size:Nat):Int)-1):=⟨_,rfl⟩
  have hNl:=congrArg List.length hN
  simp only [kw,Tr.flat_len]at hNl
  simp only [Tr.size]at hf hNl ⊢
  simp only [Tr.flat,<-hm]at hN
  obtain⟨fu,rfl⟩: ∃k,fu=k+1:=⟨fu-1,by omega⟩
  have hap:=a.size_pos
  have hbp:=b.size_pos
  have hi1:=iha ha P (b.flat (P.length+a.size)++[m]++R) N fu (by rw [hN];simp only [pD]) (by omega) hl
  have hi2:=ihb K (P++a.flat P.length) ([m]++R) N fu (by rw [hN];simp only [pD,kw,a.flat_len]) (by omega) hl
  rw [kw,a.flat_len]at hi2
  unfold jC
  have V:N[P.length+a.size+b.size]? =some m:=by
   rw [hN,pD,pD,<-pD P,wW (by simp [a.flat_len,b.flat_len];omega)]
   have:P.length+a.size+b.size-(P++(a.flat P.length++b.flat (P.length+a.size))).length=0:=by simp [a.flat_len,b.flat_len];omega
   rw [this];rfl
  rw [aR (by simp;omega),lV (P.length+a.size+b.size) (by omega),V]
  simp only [bg]
  have e1:m.Tag=n.Tag:=by rw [hm];rfl
  rw [e1,qF]
  have e:Ie n.Tag=2:=by unfold Ie;rw [Y];rfl
  simp only [e,bg,ke]
  have e2:CQ m=true:=by rw [hm];exact X
  have eL:m.L=((P.length+a.size:Nat):Int)-1:=by rw [hm];rfl
  have eR:m.R=((P.length+a.size+b.size:Nat):Int)-1:=by rw [hm];rfl
  rw [eP (n:=((P.length+(a.size+b.size+1):Nat):Int)-1-1) (by omega) (by omega),show(((P.length+(a.size+b.size+1):Nat):Int)-1-1)=(((P.length+a.size+b.size:Nat):Int)-1)from by omega]
  rw [hi2]
  simp only [bg]
  rw [eP (n:=((P.length+a.size+b.size:Nat):Int)-1-(b.size:Int)) (by omega) (by omega),show((P.length+a.size+b.size:Nat):Int)-1-(b.size:Int)=((P.length+a.size:Nat):Int)-1 from by omega]
  rw [hi1]
  simp only [bg]
  rw [eP (n:=(a.size:Int)+(b.size:Int)) (by omega) (by omega),eP (n:=(a.size:Int)+(b.size:Int)+1) (by omega) (by omega)]
  have n1: ¬a.size=0:=by omega
  have n2: ¬b.size=0:=by omega
  have e5:(P.length:Int)+(a.size:Int)+(b.size:Int)-1-(b.size:Int)=(P.length:Int)+(a.size:Int)-1:=by omega
  simp [e2,eL,eR,n1,n2,e5]
def T9(N:List ap)(hN:N.length<=100000): ∀(fu q:Nat),q<=N.length->q<fu-> ∃k:Nat,jC fu ⟨N⟩ ((q:Int)-1)=some (k:Int)/\(k=0\/ ∃(t:Tr) (P R:List ap),t.wf/\t.size=k/\N=P++t.flat P.length++R/\P.length+k=q):=by
 intro fu
 induction fu with
 |zero=>intro q _ h;omega
 |succ fu ih=>
  intro q hq hf
  unfold jC
  by_cases h0:q=0
  ·subst h0
   exact⟨0,by rw [bh (by simp)];rfl,.inl rfl⟩
  rw [aR (by simp;omega),lV (q-1) (by omega)]
  have hlt:q-1<N.length:=by omega
  rw [tM hlt]
  obtain⟨n,hn⟩: ∃n,n=N[q-1]:=⟨_,rfl⟩
  rw [<-hn]
  have hd:N=N.take (q-1)++([n]++N.drop q):=by
   have Y:=s6 (q-1) N
   rw [BE hlt,<-hn,show q-1+1=q from by omega]at Y
   exact Y.symm
  simp only [bg,qF,ke]
  cases hk:pk n.Tag with
  |none=>
   have e:Ie n.Tag= -1:=by unfold Ie;rw [hk]
   exact⟨0,by simp [e],.inl rfl⟩
  |some k=>
   have e:Ie n.Tag=(k:Int):=by unfold Ie;rw [hk]
   have hk3:k=0\/k=1\/k=2:=by
    unfold pk at hk
    repeat' split at hk
    all_goals simp at hk
    all_goals omega
   cases hc:CQ n with
   |false=>exact⟨0,by simp [e,hc],.inl rfl⟩
   |true=>
    rcases hk3 with rfl|rfl|rfl
    ·rw [e]
     by_cases hL:n.L= -1/\n.R= -1
     ·refine⟨1,by simp [hL],.inr ⟨.lf (jq n (-1) (-1)),N.take (q-1),N.drop q,⟨hk,hc,rfl,rfl⟩,rfl,?_,by simp;omega⟩⟩
      simp only [Tr.flat]
      rw [yx hL.1 hL.2,pD]
      exact hd
     ·refine⟨0,?_,.inl rfl⟩
      have:(n.L != -1||n.R != -1)=true:=by
       rw [yS,xd,xd]
       by_cases hl:n.L= -1
       ·exact .inr fun h=>hL ⟨hl,h⟩
       ·exact .inl hl
      simp [this]
    ·rw [e,eP (by omega) (by omega)]
     have e9:(((q-1:Nat):Int)-1)=(q:Int)-1-1:=by omega
     obtain⟨r2,X,h2'⟩:=ih (q-1) (by omega) (by omega)
     rw [e9]at X
     rw [X]
     rcases h2' with rfl|⟨t,P,R,hw,hs,hN2,hl⟩
     ·exact⟨0,by simp,.inl rfl⟩
     ·have hp:=t.size_pos
      by_cases hL:n.L=(q:Int)-1-1/\n.R= -1
      ·refine⟨r2+1,?_,.inr ⟨.un (jq n (-1) (-1)) t,P,N.drop q,⟨⟨hk,hc,rfl,rfl⟩,hw⟩,by simp only [Tr.size];omega,?_,by omega⟩⟩
       ·simp only [bg]
        rw [eP (n:=(r2:Int)+1) (by omega) (by omega)]
        have: ¬(r2=0):=by omega
        simp [hL,this]
       ·simp only [Tr.flat]
        rw [yx (by rw [hL.1];omega) hL.2]
        have D:N.take (q-1)=P++t.flat P.length:=by
         rw [hN2,CZ (by simp [t.flat_len];omega),tS (by simp [t.flat_len];omega)]
        rw [D]at hd
        simpa only [pD] using hd
      ·refine⟨0,?_,.inl rfl⟩
       have:(n.L !=(q:Int)-1-1||n.R != -1)=true:=by
        rw [yS,xd,xd]
        by_cases hl:n.L=(q:Int)-1-1
        ·exact .inr fun h=>hL ⟨hl,h⟩
        ·exact .inl hl
       simp [this]
    ·rw [e,eP (n:=(q:Int)-1-1) (by omega) (by omega)]
     have e9:(((q-1:Nat):Int)-1)=(q:Int)-1-1:=by omega
     obtain⟨r2,X,h2'⟩:=ih (q-1) (by omega) (by omega)
     rw [e9]at X
     rw [X]
     rcases h2' with rfl|⟨t,P,R,hw,hs,hN2,hl⟩
     ·exact⟨0,by simp,.inl rfl⟩
     ·have hp:=t.size_pos
      simp only [bg]
      rw [eP (n:=(q:Int)-1-1-(r2:Int)) (by omega) (by omega)]
      have e8:(((q-1-r2:Nat):Int)-1)=(q:Int)-1-1-(r2:Int):=by omega
      have n2: ¬(r2=0):=by omega
      obtain⟨r3,d,h3'⟩:=ih (q-1-r2) (by omega) (by omega)
      rw [e8]at d
      rw [d]
      rcases h3' with rfl|⟨t3,P3,R3,hw3,hs3,hN3,hl3⟩
      ·exact⟨0,by simp,.inl rfl⟩
      ·have hp3:=t3.size_pos
       have n3: ¬(r3=0):=by omega
       by_cases hL:n.R=(q:Int)-1-1/\n.L=(q:Int)-1-1-(r2:Int)
       ·refine⟨r3+r2+1,?_,.inr ⟨.bi (jq n (-1) (-1)) t3 t,P3,N.drop q,⟨⟨hk,hc,rfl,rfl⟩,hw3,hw⟩,by simp only [Tr.size];omega,?_,by omega⟩⟩
        ·simp only [bg]
         rw [eP (n:=(r3:Int)+(r2:Int)) (by omega) (by omega),eP (n:=(r3:Int)+(r2:Int)+1) (by omega) (by omega)]
         simp [hL,n2,n3]
        ·simp only [Tr.flat]
         rw [yx (by rw [hL.2];omega) (by rw [hL.1];omega)]
         have D:N.take (q-1)=P++t.flat P.length:=by
          rw [hN2,CZ (by simp [t.flat_len];omega),tS (by simp [t.flat_len];omega)]
         have hP:P=N.take P.length:=by
          conv=>rhs;rw [hN2,pD,CZ (eg _),tS (eg _)]
         have hP3:P=P3++t3.flat P3.length:=by
          rw [hP]
          have:P.length=P3.length+t3.size:=by omega
          conv=>lhs;rw [this,hN3]
          rw [CZ (by simp [t3.flat_len]),tS (by simp [t3.flat_len])]
         have hPl:P.length=P3.length+t3.size:=by omega
         rw [D,hPl]at hd
         rw [hP3]at hd
         simpa only [pD] using hd
       ·clear ih hN2 hN3
        refine⟨0,?_,.inl rfl⟩
        have:(n.R !=(q:Int)-1-1||n.L !=(q:Int)-1-1-(r2:Int))=true:=by
         rw [yS,xd,xd]
         by_cases hl:n.R=(q:Int)-1-1
         ·exact .inr fun h=>hL ⟨hl,h⟩
         ·exact .inl hl
        have h' :=this
        rw [yS,xd,xd]at h'
        simp [n2,n3]
        intro Y X
        exact absurd X (by rcases h' with h' |h';exact absurd Y h';exact h')
def Er(e:aP):xu e=some (my e.Nodes):=by
 unfold xu my
 by_cases h:1<=e.Nodes.length/\e.Nodes.length<=1000
 ·rw [bh (by simp;omega),eP (by omega) (by omega)]
  unfold Ep
  obtain⟨k,Y,X⟩:=T9 e.Nodes (by omega) fh e.Nodes.length (eg _) (xc (BD _) (nM (by omega)))
  have h1' :jC fh e ((e.Nodes.length:Int)-1)=some (k:Int):=Y
  rw [h1']
  simp only [bg]
  congr 1
  rw [w9]
  constructor
  ·intro hk
   have hk' :k=e.Nodes.length:=by have:=eq_of_beq hk;omega
   rcases X with rfl|⟨t,P,R,hw,hs,hN,hl⟩
   ·omega
   ·have hP:P=[]:=rN (by omega)
    subst hP
    have hR:R=[]:=by
     have:=congrArg List.length hN
     simp [t.flat_len]at this
     exact rN (by omega)
    subst hR
    have hN' :e.Nodes=t.flat 0:=by simpa using hN
    rw [hN',JB hw (by omega)];rfl
  ·intro hi
   cases D:ra e.Nodes with
   |none=>rw [D]at hi;cases hi
   |some t=>
    obtain⟨hw,hN,hs⟩:=mR D
    have hlen:e.Nodes.length=t.size:=by rw [hN,t.flat_len]
    have d:=T8 t hw [] [] e.Nodes fh (by simpa using hN) (nM (by omega)) (by omega)
    simp only [uY,uX]at d
    rw [<-hlen]at d
    have h4:some (k:Int)=some (e.Nodes.length:Int):=Y.symm.trans d
    simpa using h4
 ·rw [aR (by simp;omega)]
  simp only [bg]
  congr 1
  symm
  rw [DF]
  intro hi
  cases D:ra e.Nodes with
  |none=>rw [D]at hi;cases hi
  |some t=>
   obtain⟨hw,hN,hs⟩:=mR D
   have hlen:e.Nodes.length=t.size:=by rw [hN,t.flat_len]
   have:=t.size_pos
   omega
def LW(h:my ns=true):1<=ns.length/\ns.length<=1000:=by
 unfold my at h
 cases D:ra ns with
 |none=>rw [D]at h;cases h
 |some t=>
  obtain⟨hw,hN,hs⟩:=mR D
  have hlen:ns.length=t.size:=by rw [hN,t.flat_len]
  have:=t.size_pos
  omega
end Go.Proofs.YtdohlidddcgfjaaGreat

