/- bO of this claim: K1, K6, K2, K3, K4, L1, L2. -/
import Derived.Test.YtdohlidddcgfjaaGreatFeF
import Derived.KernelRfl
import Derived.Test.YtdohlidddcgfjaaGreatFeV4
set_option linter.all false
namespace Go.Proofs.YtdohlidddcgfjaaGreat
open Go

abbrev Q8:=List am
variable{α:Type}{xs:List α}
def cE{ys:List α}(h:xs.length+ys.length<=68719476736):jh xs ys=some (xs++ys):=bo h
def gr(v:am):Bool:=(ny v).getD false
def CQ(v:am):ny v=some (gr v):=by
 unfold gr ny
 repeat' split
 all_goals rfl
variable{n:ap}
def pD(v:am):gR v=some (if gr v then 0 else 120):=by
 obtain⟨k,n,u,h3⟩:=v
 unfold gr ny gR vP
 simp only [ke,pC,pB,pA]
 by_cases h0:k=0
 ·subst h0;simp
  repeat' split
  all_goals simp_all
 by_cases Y:k=1
 ·subst Y
  by_cases n0:n=0
  ·subst n0;simp
   repeat' split
   all_goals simp_all
  by_cases n1:n=1
  ·subst n1;simp
   repeat' split
   all_goals simp_all
  simp [n0,n1]
 by_cases H:k=2
 ·subst H;simp
  repeat' split
  all_goals simp_all
 by_cases s:k=3
 ·subst s;simp
  repeat' split
  all_goals simp_all
 by_cases h4:k=4
 ·subst h4;simp
  repeat' split
  all_goals simp_all
 simp [h0,Y,H,s,h4]
def ou(r:Q8):Bool:=decide (r.length<=16)&&r.all gr
def CK(v:am):qU v=some (!gr v):=by
 unfold qU
 rw [pD]
 cases gr v<;>rfl
def AS{f:am->Option Bool}{g:am->Bool}(hf: ∀v,f v=some (g v))(l:Q8):f6 l f=some (l.any g):=by
 have key: ∀(l:Q8) (i:Nat),(cW f l i).bind (fun r=>some (decide ((0:Int)<=r)))=some (l.any g):=by
  intro l
  induction l with
  |nil=>intro i;simp [cW]
  |cons e t ih=>intro i;simp only [cW,hf,bg];cases h:g e<;>simp [ih,h]
 exact key l 0
def F8(r:Q8):wV r=some (ou r):=by
 unfold wV ou
 rw [AS (g:=fun v=> !gr v) CK]
 by_cases h:r.length<=16
 ·rw [bo (by simp;omega)]
  simp [h,List.all_eq_not_any_not]
 ·rw [aV (by simp;omega)]
  simp [h]
def Ga(r:Q8):wW r=some (if ou r then 0 else 150):=by
 unfold wW
 rw [F8]
 cases ou r<;>rfl
variable{a:Nat}
def F9(a b:Q8):t8 a b=some (decide (a=b)):=by
 unfold t8 dJ
 by_cases hl:a.length=b.length
 ·rw [aV (by simp [hl])]
  have key: ∀(l:Q8) (i:Nat),a.drop i=l->dr b l i=some (decide (l=b.drop i)):=by
   intro l
   induction l with
   |nil=>
    intro i Y
    have s:a.length<=i:=Hh.1 Y
    rw [D0 (by omega)];rfl
   |cons x t ih=>
    intro i Y
    have hi:i<a.length:=by
     rcases nf i a.length with h|h
     ·exact h
     ·rw [D0 h]at Y;cases Y
    have D:=ih (i+1) (by rw [<-rP,Y];rfl)
    simp only [dr]
    rw [eK,sG (by omega),Ae (by omega:i<b.length)]
    simp only [bg,D]
    by_cases X:x=b[i]
    ·rw [aV (by simp [X])]
     exact congrArg some (Aa.2 ⟨fun h=>by rw [X,h],fun h=>(vM h).2⟩)
    ·rw [bo (by simp [X])]
     exact congrArg some (AX (fun h=>X (vM h).1)).symm
  have:=key a 0 rfl
  rw [this];simp
 ·rw [bo (by simp;omega)]
  have:a≠b:=fun e=>hl (by rw [e])
  simp [this]
def HU(p q:List Q8):y8 p q=some (decide (p=q)):=by
 unfold y8 ce
 by_cases hl:p.length=q.length
 ·rw [aV (by simp [hl])]
  have key: ∀(l:List Q8) (i:Nat),p.drop i=l->bV q t8 l i=some (decide (l=q.drop i)):=by
   intro l
   induction l with
   |nil=>
    intro i Y
    have s:p.length<=i:=Hh.1 Y
    rw [D0 (by omega)];rfl
   |cons x t ih=>
    intro i Y
    have hi:i<p.length:=by
     rcases nf i p.length with h|h
     ·exact h
     ·rw [D0 h]at Y;cases Y
    have D:=ih (i+1) (by rw [<-rP,Y];rfl)
    simp only [bV]
    rw [eK,sG (by omega),Ae (by omega:i<q.length)]
    simp only [bg,D,F9]
    by_cases X:x=q[i]
    ·rw [aV (by simp [X])]
     exact congrArg some (Aa.2 ⟨fun h=>by rw [X,h],fun h=>(vM h).2⟩)
    ·rw [bo (by simp [X])]
     exact congrArg some (AX (fun h=>X (vM h).1)).symm
  have:=key p 0 rfl
  rw [this];simp
 ·rw [bo (by simp;omega)]
  have:p≠q:=fun e=>hl (by rw [e])
  simp [this]

def nb(r:Nat):Nat:=if r%2=1 then(r/2)^^^2197175160 else r/2
def RP(r:Nat):Nat:=nb (nb (nb (nb (nb (nb (nb (nb r)))))))
def OL(a b:Nat):(a^^^b)/2=(a/2)^^^(b/2):=by
 have:=Nat.xor_div_two_pow (a:=a) (b:=b) (n:=1)
 simpa using this
def OK(a b:Nat):(a^^^b)%2=(a%2+b%2)%2:=by
 have h:=Nat.xor_mod_two_pow (a:=a) (b:=b) (n:=1)
 rw [Nat.pow_one]at h
 rw [h]
 rcases Nat.mod_two_eq_zero_or_one a with Y|Y<;>rcases Nat.mod_two_eq_zero_or_one b with H|H<;>rw [Y,H]<;>rfl
def s0(a b:Nat):nb (a^^^2*b)=nb a^^^b:=by
 unfold nb
 rw [OK,OL]
 have Y:2*b/2=b:=by omega
 have H:(a%2+2*b%2)%2=a%2:=by omega
 rw [Y,H]
 by_cases h:a%2=1
 ·rw [bo h,bo h,Nat.xor_assoc,Nat.xor_assoc,Nat.xor_comm b]
 ·rw [aV h,aV h]
def Py(a b:Nat):RP (a^^^256*b)=RP a^^^b:=by
 unfold RP
 rw [show 256*b=2*(128*b) by omega,s0,show 128*b=2*(64*b) by omega,s0,show 64*b=2*(32*b) by omega,s0,show 32*b=2*(16*b) by omega,s0,
  show 16*b=2*(8*b) by omega,s0,show 8*b=2*(4*b) by omega,s0,show 4*b=2*(2*b) by omega,s0,s0]
def MU(x:Nat):x=(x%256)^^^256*(x/256):=by
 apply Nat.eq_of_testBit_eq
 intro i
 rw [Nat.testBit_xor,show(256:Nat)=2^8 from rfl,Nat.testBit_mod_two_pow,Nat.testBit_two_pow_mul,Nat.testBit_div_two_pow]
 by_cases h:i<8
 ·simp [h,show¬8<=i by omega]
 ·simp [h,show 8<=i by omega,show 8+(i-8)=i by omega]
def Pz(x:Nat):RP x=RP (x%256)^^^(x/256):=by
 conv=>lhs;rw [MU x,Py]
def Ch{b:Nat}(ha:a<4294967296)(W:b<4294967296):a^^^b<4294967296:=Nat.xor_lt_two_pow (n:=32) ha W
def Bd(ha:a<4294967296):nb a<4294967296:=by
 unfold nb
 split
 ·exact Ch (by omega) (by omega)
 ·omega
def Px(ha:a<4294967296):RP a<4294967296:=Bd (Bd (Bd (Bd (Bd (Bd (Bd (Bd ha)))))))
def Ug(n:Nat)(h:n<4294967296):IntKind.u32.wrap (n:Int)=(n:Int):=by rw [IntKind.wrap_u32];omega
def Td(a b:Nat)(ha:a<4294967296)(W:b<4294967296):pV .xor .u32 (a:Int) (b:Int)=((a^^^b:Nat):Int):=by
 show IntKind.u32.wrap ((BitVec.ofInt 32 (a:Int)^^^BitVec.ofInt 32 (b:Int)).toNat:Int)=_
 rw [show(BitVec.ofInt 32 (a:Int)^^^BitVec.ofInt 32 (b:Int)).toNat=a^^^b by
  rw [BitVec.toNat_xor,BitVec.toNat_ofInt,BitVec.toNat_ofInt]
  congr 1<;>omega]
 exact Ug _ (Ch ha W)
def Zj(a b:Nat)(ha:a<256)(W:b<256):pV .xor .u8 (a:Int) (b:Int)=((a^^^b:Nat):Int):=by
 show IntKind.u8.wrap ((BitVec.ofInt 8 (a:Int)^^^BitVec.ofInt 8 (b:Int)).toNat:Int)=_
 rw [show(BitVec.ofInt 8 (a:Int)^^^BitVec.ofInt 8 (b:Int)).toNat=a^^^b by
  rw [BitVec.toNat_xor,BitVec.toNat_ofInt,BitVec.toNat_ofInt]
  congr 1<;>omega]
 have:=Nat.xor_lt_two_pow (n:=8) ha W
 rw [z7];omega
def Fu(r c:Nat):Nat:=RP (r^^^c)
def QE{r c:Nat}(hr:r<4294967296)(hc:c<256):Fu r c<4294967296:=Px (Ch hr (by omega))
def sF(b:List Int):Prop:= ∀x∈b,∃c:Nat,c<256/\x=(c:Int)
def vp:List Int:=(List.range 256).map fun i=>(RP i:Int)
def O0:Ai=some vp:=by kernel_rfl
def M4(i:Nat)(h:i<256):gG vp (i:Int)=some (RP i:Int):=by
 rw [eK]
 unfold vp
 rw [Hi,List.getElem?_range h]
 rfl
def Rr(r c:Nat)(hr:r<4294967296)(hc:c<256):sR (r:Int) vp (c:Int)=some (Fu r c:Int):=by
 unfold sR
 have X:(r%256)^^^c<256:=Nat.xor_lt_two_pow (n:=8) (by omega) hc
 rw [show IntKind.u8.wrap (r:Int)=((r%256:Nat):Int) by rw [z7];omega,Zj _ _ (by omega) hc,M4 _ X,bg]
 rw [show((r:Int).fdiv (2^(min (Int.toNat (8:Int)) IntKind.u32.bits)))=((r/256:Nat):Int) by
  show(r:Int).fdiv 256=_
  rw [EF _ (by omega)];omega]
 rw [Td _ _ (by omega) (Px (by omega))]
 unfold Fu
 rw [Pz (r^^^c)]
 rw [show(r^^^c)%256=(r%256)^^^c by
  have:=Nat.xor_mod_two_pow (a:=r) (b:=c) (n:=8)
  rw [show(256:Nat)=2^8 from rfl,this,Nat.mod_eq_of_lt (a:=c) (by omega)]]
 rw [show(r^^^c)/256=r/256 by
  have:=Nat.xor_div_two_pow (a:=r) (b:=c) (n:=8)
  rw [show(256:Nat)=2^8 from rfl,this,Nat.div_eq_of_lt (a:=c) (by omega),Nat.xor_zero],Nat.xor_comm]
def EO: ∀(b:List Int) (r:Nat),r<4294967296->sF b-> ∃h3:Nat,h3<4294967296/\h3=b.foldl (fun r x=>Fu r x.toNat) r/\nU vp b (r:Int)=some (((4294967295-h3:Nat)):Int)
 |[],r,hr,_=>⟨r,hr,rfl,by
  unfold nU
  rw [show(if IntKind.u32.signed then -1 else IntKind.u32.max)=((4294967295:Nat):Int)from rfl,Td _ _ (by omega) hr]
  congr 2
  have h:=BitVec.allOnes_xor (x:=BitVec.ofNat 32 r)
  have H:=congrArg BitVec.toNat h
  rw [BitVec.toNat_xor,BitVec.toNat_not,BitVec.toNat_allOnes,BitVec.toNat_ofNat,Nat.mod_eq_of_lt (a:=r) (by omega)]at H
  exact H⟩
 |x::b,r,hr,W=>by
  obtain⟨c,hc,rfl⟩:=W _ (nQ ..)
  obtain⟨h3,Y,H,s⟩:=EO b (Fu r c) (QE hr hc) (fun y hy=>W y (o4 _ hy))
  refine⟨h3,Y,H,?_⟩
  unfold nU
  rw [Rr r c hr hc,bg]
  exact s
def Lf{a b:List Int}(ha:sF a)(W:sF b):sF (a++b):=fun x X=>(xV.1 X).elim (ha x) (W x)
def AM(n:Nat):Nat->List Int
 |0=>[]
 |k+1=>((n/256^k%256:Nat):Int)::AM n k

structure Cmp{α:Type}(f:α->α->Int):Prop where
 rng: ∀x y,f x y= -1\/f x y=0\/f x y=1
 anti: ∀x y,f y x= -f x y
 eq: ∀x y,f x y=0↔x=y
 trans: ∀x y z,f x y<=0->f y z<=0->f x z<=0
def key(v:am):Int×Int×Int×QQ:=(v.Kind,v.N,v.U,v.S)

section
variable{f:α->α->Int}
def ltB(f:α->α->Int)(x y:α):Bool:=decide (f x y<0)
def V1(f:α->α->Int)(l:List α):List α:=Tu (ltB f) l
def put(f:α->α->Int)(x:α):List α->List α
 |[]=>[x]
 |y::l=>if f x y<0 then x::y::l else y::put f x l
end
def wH{α:Type} [DecidableEq α]:α->List α->List α
 |_,[]=>[]
 |p,x::t=>if x=p then wH x t else x::wH x t
def I6 [DecidableEq α](p:α):wH p []=[]:=by unfold wH;rfl
def Ft [DecidableEq α]{p x:α}(h:x=p)(t:List α):wH p (x::t)=wH x t:=by
 conv=>lhs;unfold wH
 rw [bo h]
def Mx [DecidableEq α]{p x:α}(h: ¬x=p)(t:List α):wH p (x::t)=x::wH x t:=by
 conv=>lhs;unfold wH
 rw [aV h]
def Mw{α:Type} [DecidableEq α]:List α->List α
 |[]=>[]
 |x::t=>x::wH x t
def Do{α:Type} [DecidableEq α]: ∀(p:α) (l:List α) (z:α),z∈wH p l->z∈l
 |p,x::t,z,h=>by
  unfold wH at h
  split at h
  ·exact o4 _ (Do x t z h)
  ·rcases j8.1 h with rfl|h
   ·exact nQ ..
   ·exact o4 _ (Do x t z h)
def CX{α:Type} [DecidableEq α]: ∀(p:α) (l:List α) (z:α),z∈l->z=p\/z∈wH p l
 |p,x::t,z,h=>by
  unfold wH
  by_cases X:x=p
  ·rw [bo X]
   rcases j8.1 h with rfl|h
   ·exact .inl X
   ·rcases CX x t z h with h|h
    ·exact .inl (h.trans X)
    ·exact .inr h
  ·rw [aV X]
   rcases j8.1 h with rfl|h
   ·exact .inr (nQ ..)
   ·rcases CX x t z h with h|h
    ·exact .inr (by rw [h];exact nQ ..)
    ·exact .inr (o4 _ h)
def NI [DecidableEq α](l:List α)(z:α):z∈Mw l↔z∈l:=by
 cases l with
 |nil=>exact rR
 |cons x t=>
  constructor
  ·intro h
   rcases j8.1 h with rfl|h
   ·exact nQ ..
   ·exact o4 _ (Do x t z h)
  ·intro h
   rcases j8.1 h with rfl|h
   ·exact nQ ..
   ·rcases CX x t z h with rfl|h
    ·exact nQ ..
    ·exact o4 _ h

structure Small(l:List Q8):Prop where
 len:l.length<=8000
 row: ∀r∈l,r.length<=1000
def ew{n:Int}(h: -9223372036854775808<=n)(H:n<=9223372036854775807):IntKind.i64.wrap n=n:=by rw [qd];omega
def rF{l m:Nat}(h:l<=m)(H:m<=xs.length):dK xs (l:Int) (m:Int)=some ((xs.take m).drop l):=by
 unfold dK
 rw [bo (by omega)]
 simp

def jy{i j:Int}(l m:Nat)(hi:i=(l:Int))(hj:j=(m:Int))(h:l<=m)(H:m<=xs.length):dK xs i j=some ((xs.take m).drop l):=by
 subst hi hj;exact rF h H
def lU{i:Int}(k:Nat)(hi:i=(k:Int)):gG xs i=xs[k]? :=by subst hi;exact eK _ _
def we(v:am):Bool:=gr v&&(v.Kind !=4)
def Cj(v:am):sP v=some (we v):=by
 unfold sP we
 rw [pD]
 cases gr v<;>simp
def pN(v:am):wb v=some (we v):=by
 unfold wb we
 rw [CQ]
 rfl
def Ib{v:am}(h:we v=true):0<=v.Kind/\v.Kind<=3:=by
 obtain⟨k,n,u,h3⟩:=v
 unfold we gr ny at h
 simp only [nP,xx,ne_eq]at h
 obtain⟨Y,H⟩:=h
 by_cases h0:k=0
 ·simp [h0]
 by_cases k1:k=1
 ·simp [k1]
 by_cases k2:k=2
 ·simp [k2]
 by_cases k3:k=3
 ·simp [k3]
 simp [h0,k1,k2,k3,H]at Y
def pk(tag:Int):Option Nat:=if tag=1\/tag=2 then some 0 else if 4<=tag/\tag<=7 then some 1 else if 12<=tag/\tag<=23 then some 2 else none
def Gi(tag:Int):Int:=match pk tag with
 |some k=>(k:Int)
 |none=> -1
def xM(tag:Int):qx tag=some (Gi tag):=by
 unfold qx Gi pk
 by_cases Y:tag=1\/tag=2
 ·rw [bo Y,bo (by simpa using Y)];rfl
 rw [aV Y,aV (by simpa using Y)]
 by_cases H:4<=tag/\tag<=7
 ·rw [bo H,bo (by simpa using H)];rfl
 rw [aV H,aV (by simpa using H)]
 by_cases s:12<=tag/\tag<=23
 ·rw [bo s,bo (by simpa using s)];rfl
 rw [aV s,aV (by simpa using s)]
def pM(tag:Int):wa tag=some (Gi tag):=by
 unfold wa A9 Gi pk
 by_cases Y:tag=1\/tag=2
 ·rw [bo Y];rcases Y with rfl|rfl<;>rfl
 rw [aV Y]
 by_cases H:4<=tag/\tag<=7
 ·rw [bo H]
  have:tag=4\/tag=5\/tag=6\/tag=7:=by omega
  rcases this with rfl|rfl|rfl|rfl<;>rfl
 rw [aV H]
 by_cases s:12<=tag/\tag<=23
 ·rw [bo s,aV (by simp;omega),aV (by simp;omega),aV (by simp;omega),aV (by simp;omega)];rfl
 rw [aV s]
 by_cases h4:tag=3\/(8<=tag/\tag<=11)
 ·rw [bo (by simpa using h4)]
 rw [aV (by simpa using h4),bo (by simp;omega)]
 rfl
def Dp(n:ap):Bool:=(kW n).getD false
def jG(n:ap):kW n=some (Dp n):=by
 unfold Dp kW
 rw [pN]
 split
 ·rfl
 ·split<;>rfl
def Dj(n:ap):th n=some (Dp n):=by
 rw [<-jG]
 unfold th kW
 rw [pN,Cj]
inductive Tr where
 |lf (n:ap)
 |un (n:ap) (a:Tr)
 |bi (n:ap) (a b:Tr)
 deriving Inhabited
def Tr.size:Tr->Nat
 | .lf _=>1
 | .un _ a=>a.size+1
 | .bi _ a b=>a.size+b.size+1
def kp(n:ap)(l r:Int):ap:={n with L:=l,R:=r}
def Tr.flat:Tr->Nat->List ap
 | .lf n,_=>[kp n (-1) (-1)]
 | .un n a,h3=>a.flat h3++[kp n ((h3+a.size:Nat)-1) (-1)]
 | .bi n a b,h3=>a.flat h3++b.flat (h3+a.size)++[kp n ((h3+a.size:Nat)-1) ((h3+a.size+b.size:Nat)-1)]
def UD(k:Nat)(n:ap):Prop:=pk n.Tag=some k/\Dp n=true/\n.L= -1/\n.R= -1
def Tr.wf:Tr->Prop
 | .lf n=>UD 0 n
 | .un n a=>UD 1 n/\a.wf
 | .bi n a b=>UD 2 n/\a.wf/\b.wf
def Tr.size_pos(t:Tr):0<t.size:=by cases t<;>simp [Tr.size]
def Tr.flat_len(t:Tr): ∀h3,(t.flat h3).length=t.size:=by
 induction t with
 |lf n=>intro h3;rfl
 |un n a ih=>intro h3;simp [Tr.flat,Tr.size,ih]
 |bi n a b iha ihb=>intro h3;simp [Tr.flat,Tr.size,iha,ihb];omega
def cC:List Tr->Nat
 |[]=>0
 |t::st=>cC st+t.size
def vr:List Tr->List ap
 |[]=>[]
 |t::st=>vr st++t.flat (cC st)
def Fk: ∀st:List Tr,(vr st).length=cC st
 |[]=>rfl
 |t::st=>by simp [vr,cC,Fk st,t.flat_len]
def ET: ∀st:List Tr,st.length<=cC st
 |[]=>dY _
 |t::st=>by have:=ET st;have:=t.size_pos;simp [cC];omega
def push(st:List Tr)(n:ap):Option (List Tr):=
 match pk n.Tag,st with
 |some 0,st=>if Dp n&&n.L== -1&&n.R== -1 then some (.lf (kp n (-1) (-1))::st)else none
 |some 1,a::st=>if Dp n&&n.L==((cC st+a.size:Nat):Int)-1&&n.R== -1 then some (.un (kp n (-1) (-1)) a::st)else none
 |some 2,b::a::st=>if Dp n&&n.L==((cC st+a.size:Nat):Int)-1&&n.R==((cC st+a.size+b.size:Nat):Int)-1 then some (.bi (kp n (-1) (-1)) a b::st)else none
 |_,_=>none
def pf:List ap->List Tr->Option (List Tr)
 |[],st=>some st
 |n::ns,st=>(push st n).bind (pf ns)
def YY(st:List Tr):Prop:= ∀t∈st,t.wf
def wY{l r:Int}(h:n.L=l)(H:n.R=r):kp (kp n (-1) (-1)) l r=n:=by subst h H;rfl
def GT{l r:Int}:Dp (kp n l r)=Dp n:=rfl
def Nq{st st' :List Tr}(h:push st n=some st')(hw:YY st):vr st' =vr st++[n]/\cC st' =cC st+1/\YY st' :=by
 unfold push at h
 split at h
 ·rename_i k st0 hk
  split at h
  ·rename_i hc
   simp only [nP,qQ]at hc
   obtain⟨⟨Y,H⟩,s⟩:=hc
   cases h
   refine⟨?_,rfl,fun t D=>?_⟩
   ·simp only [vr,Tr.flat]
    rw [wY H s]
   ·rcases j8.1 D with rfl|D
    ·exact⟨hk,Y,rfl,rfl⟩
    ·exact hw t D
  ·cases h
 ·rename_i k a st0 hk
  split at h
  ·rename_i hc
   simp only [nP,qQ]at hc
   obtain⟨⟨Y,H⟩,s⟩:=hc
   cases h
   refine⟨?_,by simp [cC,Tr.size];omega,fun t D=>?_⟩
   ·simp only [vr,Tr.flat]
    rw [wY H s,oB]
   ·rcases j8.1 D with rfl|D
    ·exact⟨⟨hk,Y,rfl,rfl⟩,hw a (nQ ..)⟩
    ·exact hw t (o4 _ D)
  ·cases h
 ·rename_i k b a st0 hk
  split at h
  ·rename_i hc
   simp only [nP,qQ]at hc
   obtain⟨⟨Y,H⟩,s⟩:=hc
   cases h
   refine⟨?_,by simp [cC,Tr.size];omega,fun t D=>?_⟩
   ·simp only [vr,Tr.flat,cC]
    rw [wY H s]
    simp only [oB]
   ·rcases j8.1 D with rfl|D
    ·exact⟨⟨hk,Y,rfl,rfl⟩,hw a (o4 _ (nQ ..)),hw b (nQ ..)⟩
    ·exact hw t (o4 _ (o4 _ D))
  ·cases h
 ·cases h
variable{ns:List ap}
def yk: ∀{ns:List ap} {st st' :List Tr},pf ns st=some st' ->YY st->vr st' =vr st++ns/\YY st'
 |[],st,st',h,hw=>by cases h;simp [hw]
 |n::ns,st,st',h,hw=>by
  unfold pf at h
  cases hp:push st n with
  |none=>rw [hp]at h;cases h
  |some st1=>
   rw [hp]at h
   obtain⟨Y,_,s⟩:=Nq hp hw
   obtain⟨h4,h5⟩:=yk (ns:=ns) h s
   exact⟨by rw [h4,Y];simp,h5⟩
def rs: ∀(ns ms:List ap) (st:List Tr),pf (ns++ms) st=(pf ns st).bind (pf ms)
 |[],ms,st=>rfl
 |n::ns,ms,st=>by
  simp only [B3,pf]
  cases push st n with
  |none=>rfl
  |some st1=>exact rs ns ms st1
def Kh(t:Tr): ∀(st:List Tr),t.wf->pf (t.flat (cC st)) st=some (t::st):=by
 induction t with
 |lf n=>
  intro st ⟨Y,H,s,h4⟩
  have hn' :kp n (-1) (-1)=n:=by cases n;simp only at s h4;subst s h4;rfl
  simp only [Tr.flat,pf,push,hn']
  rw [Y]
  simp [H,s,h4,pf,hn']
 |un n a ih=>
  intro st ⟨⟨Y,H,s,h4⟩,ha⟩
  have hn' :kp n (-1) (-1)=n:=by cases n;simp only at s h4;subst s h4;rfl
  simp only [Tr.flat]
  rw [rs,ih st ha]
  simp only [bg,pf,push]
  have e1:(kp n (((cC st+a.size:Nat):Int)-1) (-1)).Tag=n.Tag:=rfl
  rw [e1,Y]
  have e2:Dp (kp n (((cC st+a.size:Nat):Int)-1) (-1))=true:=H
  rw [e2]
  simp only [kp,beq_self_eq_true,Bool.and_self,jl,bg,pf]
  simp only [kp]at hn'
  rw [hn']
 |bi n a b iha ihb=>
  intro st ⟨⟨Y,H,s,h4⟩,ha,W⟩
  have hn' :kp n (-1) (-1)=n:=by cases n;simp only at s h4;subst s h4;rfl
  simp only [Tr.flat]
  rw [rs,rs,iha st ha]
  simp only [bg]
  have e0:cC st+a.size=cC (a::st):=rfl
  rw [e0,ihb (a::st) W]
  simp only [bg,pf,push]
  have e1:(kp n (((cC (a::st):Nat):Int)-1) (((cC (a::st)+b.size:Nat):Int)-1)).Tag=n.Tag:=rfl
  rw [e1,Y]
  have e2:Dp (kp n (((cC (a::st):Nat):Int)-1) (((cC (a::st)+b.size:Nat):Int)-1))=true:=H
  rw [e2]
  simp only [kp,cC,beq_self_eq_true,Bool.and_self,jl,bg,pf]
  simp only [kp]at hn'
  rw [hn']
def qg(ns:List ap):Option Tr:=match pf ns []with
 |some [t]=>if ns.length<=1000 then some t else none
 |_=>none
def nl{t:Tr}(h:qg ns=some t):t.wf/\ns=t.flat 0/\t.size<=1000:=by
 unfold qg at h
 split at h
 ·rename_i t0 hp
  split at h
  ·rename_i hl
   cases h
   obtain⟨Y,H⟩:=yk hp (fun t D=>by cases D)
   simp only [vr,cC,mo]at Y
   exact⟨H t (nQ ..),Y.symm,by rw [<-t.flat_len 0,Y];exact hl⟩
  ·cases h
 ·cases h
def HD{t:Tr}(h:t.wf)(hs:t.size<=1000):qg (t.flat 0)=some t:=by
 unfold qg
 have h0:=Kh t [] h
 simp only [cC]at h0
 rw [h0]
 simp only [t.flat_len,hs,jl]
def fl:Tr->Nat->List Int
 | .lf _,h3=>[(h3:Int)]
 | .un _ a,h3=>fl a h3++[(h3:Int)]
 | .bi _ a b,h3=>fl a h3++fl b (h3+a.size)++[(h3:Int)]
def NY:List Tr->List Int
 |[]=>[]
 |t::st=>NY st++fl t (cC st)
def mv:List Tr->List Int
 |[]=>[]
 |t::st=>mv st++[((cC st+t.size:Nat):Int)-1]
def uT(t:Tr): ∀h3,(fl t h3).length=t.size:=by
 induction t with
 |lf n=>intro h3;rfl
 |un n a ih=>intro h3;simp [fl,Tr.size,ih]
 |bi n a b iha ihb=>intro h3;simp [fl,Tr.size,iha,ihb];omega
def s7: ∀st:List Tr,(NY st).length=cC st
 |[]=>rfl
 |t::st=>by simp [NY,cC,s7 st,uT]
def du: ∀st:List Tr,(mv st).length=st.length
 |[]=>rfl
 |t::st=>by simp [mv,du st]
def R5(t:Tr)(h3:Nat):(fl t h3)[t.size-1]? =some (h3:Int):=by
 cases t with
 |lf n=>rfl
 |un n a=>simp only [fl,Tr.size];rw [vz (by rw [uT];omega),uT];simp
 |bi n a b=>simp only [fl,Tr.size];rw [vz (by simp [uT]),kJ,uT,uT];simp
def C6(t:Tr)(st:List Tr)(rest:List Int):(NY st++fl t (cC st)++rest)[cC st+t.size-1]? =some (cC st:Int):=by
 have:=t.size_pos
 rw [yS (by rw [kJ,s7,uT];omega),vz (by rw [s7];omega),s7,show cC st+t.size-1-cC st=t.size-1 from by omega]
 exact R5 t _
def NZ: ∀(ns:List ap) (st:List Tr),cC st+ns.length<=100000->kx ns (cC st) (NY st) (mv st)=some (match pf ns st with
   |some st' =>(NY st',decide (st'.length=1)&&decide (cC st' <=1000))
   |none=>([],false)):=by
 intro ns
 induction ns with
 |nil=>
  intro st _
  simp only [kx,pf,du,s7]
  congr 2
  congr 1
  ·rw [vI];simp;omega
  ·rw [vI];simp;omega
 |cons n ns ih=>
  intro st hs
  simp only [iR]at hs
  have hll:=ET st
  unfold kx
  rw [xM]
  simp only [bg,du,Dj]
  unfold pf
  unfold push
  -- the parts
  cases hk:pk n.Tag with
  |none=>
   have e:Gi n.Tag= -1:=by unfold Gi;rw [hk]
   simp [e]
  |some k=>
   have e:Gi n.Tag=(k:Int):=by unfold Gi;rw [hk]
   have hk3:k=0\/k=1\/k=2:=by
    unfold pk at hk
    repeat' split at hk
    all_goals simp at hk
    all_goals omega
   rw [e]
   rcases hk3 with rfl|rfl|rfl
   ·-- none
    simp only []
    have c1:(decide (((0:Nat):Int)<0)||decide ((st.length:Int)<((0:Nat):Int)))=false:=by simp
    simp only [c1,yW,jl,bg]
    cases hc:Dp n with
    |false=>simp
    |true=>
     simp only [rk,nj,kQ,ni]
     rw [jy st.length st.length (by rw [ew (by omega) (by omega)];omega) rfl (dY _) (by rw [du];exact dY _)]
     have hd:(List.take st.length (mv st)).drop st.length=[]:=FN (by simp;omega)
     simp only [hd,bg,lZ]
     by_cases hL:n.L= -1/\n.R= -1
     ·have W:(n.L== -1&&n.R== -1)=true:=by simp [hL]
      rw [bo W,aV (by simp [hL.1,hL.2])]
      rw [cE (by simp only [iR,vx,s7];omega)]
      simp only [bg]
      rw [jy (i:=0) 0 st.length rfl (by rw [du,ew (by omega) (by omega)];omega) (oC _) (by rw [du];exact dY _)]
      rw [tz (by rw [du];exact dY _),z2]
      simp only [bg]
      rw [cE (by simp only [iR,vx,du];omega)]
      simp only [bg]
      have H:=ih (.lf (kp n (-1) (-1))::st) (by simp [cC,Tr.size];omega)
      simp only [cC,Tr.size,NY,fl,mv]at H
      rw [show(((cC st+1:Nat):Int)-1)=(cC st:Int)from by omega]at H
      exact H
     ·have W:(n.L== -1&&n.R== -1)=false:=by
       rw [B8];intro h;apply hL;simpa using h
      rw [W]
      rw [bo (by
       simp only [DW,Lu]
       intro h
       have Y:(-1:Int)=n.L:=by injection h
       have H:(-1:Int)=n.R:=by injection h with _ h;injection h
       exact hL ⟨Y.symm,H.symm⟩)]
      simp
   ·-- one
    cases st with
    |nil=>simp
    |cons a st=>
     simp only []
     have c1:(decide (((1:Nat):Int)<0)||decide (((a::st).length:Int)<((1:Nat):Int)))=false:=by simp;omega
     simp only [c1,yW,jl,bg]
     cases hc:Dp n with
     |false=>simp
     |true=>
      simp only [rk,nj,kQ,ni]
      simp only [iR]at hll ⊢
      simp only [cC]at hs hll
      have hap:=a.size_pos
      rw [jy st.length (st.length+1) (by rw [ew (by omega) (by omega)];omega) (by omega) (by omega) (by rw [du];exact dY _)]
      have hd:(List.take (st.length+1) (mv (a::st))).drop st.length=[((cC st+a.size:Nat):Int)-1]:=by
       rw [tz (by rw [du];exact dY _)]
       simp only [mv]
       rw [Lx (by rw [du];exact dY _),FN (by rw [du];exact dY _),mo]
      rw [hd]
      simp only [bg,lZ]
      rw [lU (cC st+a.size-1) (by omega)]
      have hf:=C6 a st []
      rw [tv]at hf
      simp only [NY]
      rw [hf]
      simp only [bg]
      rw [lU 0 rfl]
      simp only [EE,bg]
      have hset:([(-1:Int),-1].set ((0:Nat):Int).toNat (((cC st+a.size:Nat):Int)-1))=[((cC st+a.size:Nat):Int)-1,-1]:=rfl
      rw [hset]
      by_cases hL:n.L=((cC st+a.size:Nat):Int)-1/\n.R= -1
      ·have W:(n.L==((cC st+a.size:Nat):Int)-1&&n.R== -1)=true:=by simp [hL]
       rw [bo W,aV (by rw [hL.1,hL.2];simp)]
       rw [cE (by simp only [iR,vx,kJ,s7,uT];omega)]
       simp only [bg]
       rw [jy (i:=0) 0 st.length rfl (by rw [du,ew (by simp<;>omega) (by simp<;>omega)];simp) (oC _) (by rw [du];simp)]
       have D:(List.take st.length (mv (a::st))).drop 0=mv st:=by
        simp only [mv,z2]
        rw [Bw (by rw [du];exact dY _),tz (by rw [du];exact dY _)]
       rw [D]
       simp only [bg]
       rw [cE (by simp only [iR,vx,du];omega)]
       simp only [bg]
       have H:=ih (.un (kp n (-1) (-1)) a::st) (by simp [cC,Tr.size];omega)
       simp only [cC,Tr.size,NY,fl,mv]at H
       rw [show(((cC st+(a.size+1):Nat):Int)-1)=((cC st+a.size:Nat):Int)from by omega]at H
       have hm:min ((cC (a::st):Nat):Int) (cC st:Int)=(cC st:Int):=by simp only [cC];omega
       rw [hm]
       simp only [oB]at H ⊢
       exact H
      ·have W:(n.L==((cC st+a.size:Nat):Int)-1&&n.R== -1)=false:=by
        rw [B8];intro h;apply hL;simpa using h
       rw [W]
       rw [bo (by
        simp only [DW,Lu]
        intro h
        have Y:((cC st+a.size:Nat):Int)-1=n.L:=by injection h
        have H:(-1:Int)=n.R:=by injection h with _ h;injection h
        exact hL ⟨Y.symm,H.symm⟩)]
       simp
   ·-- two
    cases st with
    |nil=>simp
    |cons b st=>
     cases st with
     |nil=>simp
     |cons a st=>
      simp only []
      have c1:(decide (((2:Nat):Int)<0)||decide (((b::a::st).length:Int)<((2:Nat):Int)))=false:=by simp;omega
      simp only [c1,yW,jl,bg]
      cases hc:Dp n with
      |false=>simp
      |true=>
       simp only [rk,nj,kQ,ni]
       simp only [iR]at hll ⊢
       simp only [cC]at hs hll
       have hap:=a.size_pos
       have hbp:=b.size_pos
       rw [jy st.length (st.length+1+1) (by rw [ew (by omega) (by omega)];omega) (by omega) (by omega) (by rw [du];exact dY _)]
       have hd:(List.take (st.length+1+1) (mv (b::a::st))).drop st.length=[((cC st+a.size:Nat):Int)-1,((cC st+a.size+b.size:Nat):Int)-1]:=by
        rw [tz (by rw [du];exact dY _)]
        simp only [mv,cC,oB]
        rw [Lx (by rw [du];exact dY _),FN (by rw [du];exact dY _),mo]
        rfl
       rw [hd]
       simp only [bg,lZ]
       simp only [NY,cC]
       rw [lU (cC st+a.size-1) (by omega)]
       rw [C6 a st (fl b (cC st+a.size))]
       simp only [bg]
       rw [lU 0 rfl]
       simp only [EE,bg]
       have hset:([(-1:Int),-1].set ((0:Nat):Int).toNat (((cC st+a.size:Nat):Int)-1))=[((cC st+a.size:Nat):Int)-1,-1]:=rfl
       rw [hset]
       rw [lU (cC st+a.size+b.size-1) (by omega)]
       have hf:=C6 b (a::st) []
       rw [tv]at hf
       simp only [NY,cC]at hf
       rw [hf]
       simp only [bg]
       rw [lU (0+1) rfl]
       simp only [List.getElem?_cons_succ,EE,bg]
       have hset2:([((cC st+a.size:Nat):Int)-1,-1].set ((0+1:Nat):Int).toNat (((cC st+a.size+b.size:Nat):Int)-1))=[((cC st+a.size:Nat):Int)-1,((cC st+a.size+b.size:Nat):Int)-1]:=rfl
       rw [hset2]
       by_cases hL:n.L=((cC st+a.size:Nat):Int)-1/\n.R=((cC st+a.size+b.size:Nat):Int)-1
       ·have W:(n.L==((cC st+a.size:Nat):Int)-1&&n.R==((cC st+a.size+b.size:Nat):Int)-1)=true:=by rw [hL.1,hL.2];simp
        rw [bo W,aV (by rw [hL.1,hL.2];simp)]
        rw [cE (by simp only [iR,vx,kJ,s7,uT];omega)]
        simp only [bg]
        rw [jy (i:=0) 0 st.length rfl (by rw [du,ew (by simp;omega) (by simp;omega)];simp;omega) (oC _) (by rw [du];simp;omega)]
        have D:(List.take st.length (mv (b::a::st))).drop 0=mv st:=by
         simp only [mv,z2,oB]
         rw [Bw (by rw [du];exact dY _),tz (by rw [du];exact dY _)]
        rw [D]
        simp only [bg]
        rw [cE (by simp only [iR,vx,du];omega)]
        simp only [bg]
        have H:=ih (.bi (kp n (-1) (-1)) a b::st) (by simp [cC,Tr.size];omega)
        simp only [cC,Tr.size,NY,fl,mv]at H
        rw [show(((cC st+(a.size+b.size+1):Nat):Int)-1)=((cC st+a.size+b.size:Nat):Int)from by omega,show cC st+(a.size+b.size+1)=cC st+a.size+b.size+1 from by omega]at H
        have hm:min (min (((cC st+a.size+b.size:Nat)):Int) (cC st:Int)) ((cC st+a.size:Nat):Int)=(cC st:Int):=by omega
        rw [hm]
        simp only [oB]at H ⊢
        exact H
       ·have W:(n.L==((cC st+a.size:Nat):Int)-1&&n.R==((cC st+a.size+b.size:Nat):Int)-1)=false:=by
         rw [B8];intro h;apply hL;simpa using h
        rw [W]
        rw [bo (by
         simp only [DW,Lu]
         intro h
         have Y:((cC st+a.size:Nat):Int)-1=n.L:=by injection h
         have H:((cC st+a.size+b.size:Nat):Int)-1=n.R:=by injection h with _ h;injection h
         exact hL ⟨Y.symm,H.symm⟩)]
        simp

def m8{n:Nat}(h:n<=1000000):n<=eQ:=by unfold eQ;omega
def mY(ns:List ap):Bool:=(qg ns).isSome
def Ie{st:List Tr}(h:pf ns []=some st):cC st=ns.length:=by
 have:=(yk h (fun t D=>by cases D)).1
 rw [<-Fk,this];simp [vr]
def xN(e:aR)(h:e.Nodes.length<=100000):sw e=some (if mY e.Nodes then 0 else 200):=by
 unfold sw wF mY qg
 have:=NZ e.Nodes [] (by simpa [cC] using h)
 simp only [cC,NY,mv]at this
 rw [this]
 cases hp:pf e.Nodes []with
 |none=>rfl
 |some st=>
  have hsz:=Ie hp
  match st,hsz with
  |[],_=>rfl
  |[t],hsz=>
   simp only [bg,hsz]
   by_cases hl:e.Nodes.length<=1000<;>simp [hl]
  |t::t2::st,_=>simp
def Rw(t:Tr):t.wf-> ∀(P R N:List ap) (fu:Nat),N=P++t.flat P.length++R->t.size<=fu->N.length<=100000->jb fu ⟨N⟩ (((P.length+t.size:Nat):Int)-1)=some (t.size:Int):=by
 induction t with
 |lf n=>
  intro⟨Y,H,s,h4⟩ P R N fu hN hf hl
  have hNl:=congrArg List.length hN
  simp only [kJ,Tr.flat_len]at hNl
  simp only [Tr.size]at hf hNl ⊢
  obtain⟨fu,rfl⟩: ∃k,fu=k+1:=⟨fu-1,by omega⟩
  unfold jb
  have X:N[P.length]? =some (kp n (-1) (-1)):=by
   rw [hN,oB,vz (dY _),vn];rfl
  rw [aV (by simp;omega),lU P.length (by omega),X]
  have e1:(kp n (-1) (-1)).Tag=n.Tag:=rfl
  simp only [bg]
  rw [e1,pM]
  have e:Gi n.Tag=0:=by unfold Gi;rw [Y];rfl
  simp only [e,bg,jG]
  have e2:Dp (kp n (-1) (-1))=true:=H
  rw [e2]
  simp [kp]
 |un n a ih=>
  intro⟨⟨Y,H,s,h4⟩,ha⟩ P R N fu hN hf hl
  obtain⟨m,hm⟩: ∃m,m=kp n (((P.length+a.size:Nat):Int)-1) (-1):=⟨_,rfl⟩
  have hNl:=congrArg List.length hN
  simp only [kJ,Tr.flat_len]at hNl
  simp only [Tr.size]at hf hNl ⊢
  simp only [Tr.flat,<-hm]at hN
  obtain⟨fu,rfl⟩: ∃k,fu=k+1:=⟨fu-1,by omega⟩
  have hpos:=a.size_pos
  have hi:=ih ha P ([m]++R) N fu (by rw [hN];simp only [oB]) (by omega) hl
  unfold jb
  have X:N[P.length+a.size]? =some m:=by
   rw [hN,oB,oB,<-oB P,vz (by simp [a.flat_len])]
   simp [a.flat_len]
  rw [aV (by simp;omega),lU (P.length+a.size) (by omega),X]
  simp only [bg]
  have e1:m.Tag=n.Tag:=by rw [hm];rfl
  rw [e1,pM]
  have e:Gi n.Tag=1:=by unfold Gi;rw [Y];rfl
  simp only [e,bg,jG]
  have e2:Dp m=true:=by rw [hm];exact H
  have eL:m.L=((P.length+a.size:Nat):Int)-1:=by rw [hm];rfl
  have eR:m.R= -1:=by rw [hm];rfl
  rw [ew (n:=((P.length+(a.size+1):Nat):Int)-1-1) (by omega) (by omega),show(((P.length+(a.size+1):Nat):Int)-1-1)=(((P.length+a.size:Nat):Int)-1)from by omega]
  rw [hi]
  simp only [bg]
  rw [ew (n:=(a.size:Int)+1) (by omega) (by omega)]
  have n1: ¬a.size=0:=by omega
  simp [e2,eL,eR,n1]
 |bi n a b iha ihb=>
  intro⟨⟨Y,H,s,h4⟩,ha,W⟩ P R N fu hN hf hl
  obtain⟨m,hm⟩: ∃m,m=kp n (((P.length+a.size:Nat):Int)-1) (((P.length+a.size+b.size:Nat):Int)-1):=⟨_,rfl⟩
  have hNl:=congrArg List.length hN
  simp only [kJ,Tr.flat_len]at hNl
  simp only [Tr.size]at hf hNl ⊢
  simp only [Tr.flat,<-hm]at hN
  obtain⟨fu,rfl⟩: ∃k,fu=k+1:=⟨fu-1,by omega⟩
  have hap:=a.size_pos
  have hbp:=b.size_pos
  have hi1:=iha ha P (b.flat (P.length+a.size)++[m]++R) N fu (by rw [hN];simp only [oB]) (by omega) hl
  have hi2:=ihb W (P++a.flat P.length) ([m]++R) N fu (by rw [hN];simp only [oB,kJ,a.flat_len]) (by omega) hl
  rw [kJ,a.flat_len]at hi2
  unfold jb
  have X:N[P.length+a.size+b.size]? =some m:=by
   rw [hN,oB,oB,<-oB P,vz (by simp [a.flat_len,b.flat_len];omega)]
   have:P.length+a.size+b.size-(P++(a.flat P.length++b.flat (P.length+a.size))).length=0:=by simp [a.flat_len,b.flat_len];omega
   rw [this];rfl
  rw [aV (by simp;omega),lU (P.length+a.size+b.size) (by omega),X]
  simp only [bg]
  have e1:m.Tag=n.Tag:=by rw [hm];rfl
  rw [e1,pM]
  have e:Gi n.Tag=2:=by unfold Gi;rw [Y];rfl
  simp only [e,bg,jG]
  have e2:Dp m=true:=by rw [hm];exact H
  have eL:m.L=((P.length+a.size:Nat):Int)-1:=by rw [hm];rfl
  have eR:m.R=((P.length+a.size+b.size:Nat):Int)-1:=by rw [hm];rfl
  rw [ew (n:=((P.length+(a.size+b.size+1):Nat):Int)-1-1) (by omega) (by omega),show(((P.length+(a.size+b.size+1):Nat):Int)-1-1)=(((P.length+a.size+b.size:Nat):Int)-1)from by omega]
  rw [hi2]
  simp only [bg]
  rw [ew (n:=((P.length+a.size+b.size:Nat):Int)-1-(b.size:Int)) (by omega) (by omega),show((P.length+a.size+b.size:Nat):Int)-1-(b.size:Int)=((P.length+a.size:Nat):Int)-1 from by omega]
  rw [hi1]
  simp only [bg]
  rw [ew (n:=(a.size:Int)+(b.size:Int)) (by omega) (by omega),ew (n:=(a.size:Int)+(b.size:Int)+1) (by omega) (by omega)]
  have n1: ¬a.size=0:=by omega
  have n2: ¬b.size=0:=by omega
  have e5:(P.length:Int)+(a.size:Int)+(b.size:Int)-1-(b.size:Int)=(P.length:Int)+(a.size:Int)-1:=by omega
  simp [e2,eL,eR,n1,n2,e5]
def Rx(N:List ap)(hN:N.length<=100000): ∀(fu q:Nat),q<=N.length->q<fu-> ∃k:Nat,jb fu ⟨N⟩ ((q:Int)-1)=some (k:Int)/\(k=0\/ ∃(t:Tr) (P R:List ap),t.wf/\t.size=k/\N=P++t.flat P.length++R/\P.length+k=q):=by
 intro fu
 induction fu with
 |zero=>intro q _ h;omega
 |succ fu ih=>
  intro q hq hf
  unfold jb
  by_cases h0:q=0
  ·subst h0
   exact⟨0,by rw [bo (by simp)];rfl,.inl rfl⟩
  rw [aV (by simp;omega),lU (q-1) (by omega)]
  have hlt:q-1<N.length:=by omega
  rw [sG hlt]
  obtain⟨n,hn⟩: ∃n,n=N[q-1]:=⟨_,rfl⟩
  rw [<-hn]
  have hd:N=N.take (q-1)++([n]++N.drop q):=by
   have Y:=rQ (q-1) N
   rw [Ae hlt,<-hn,show q-1+1=q from by omega]at Y
   exact Y.symm
  simp only [bg,pM,jG]
  cases hk:pk n.Tag with
  |none=>
   have e:Gi n.Tag= -1:=by unfold Gi;rw [hk]
   exact⟨0,by simp [e],.inl rfl⟩
  |some k=>
   have e:Gi n.Tag=(k:Int):=by unfold Gi;rw [hk]
   have hk3:k=0\/k=1\/k=2:=by
    unfold pk at hk
    repeat' split at hk
    all_goals simp at hk
    all_goals omega
   cases hc:Dp n with
   |false=>exact⟨0,by simp [e,hc],.inl rfl⟩
   |true=>
    rcases hk3 with rfl|rfl|rfl
    ·rw [e]
     by_cases hL:n.L= -1/\n.R= -1
     ·refine⟨1,by simp [hL],.inr ⟨.lf (kp n (-1) (-1)),N.take (q-1),N.drop q,⟨hk,hc,rfl,rfl⟩,rfl,?_,by simp;omega⟩⟩
      simp only [Tr.flat]
      rw [wY hL.1 hL.2,oB]
      exact hd
     ·refine⟨0,?_,.inl rfl⟩
      have:(n.L != -1||n.R != -1)=true:=by
       rw [z6,xx,xx]
       by_cases hl:n.L= -1
       ·exact .inr fun h=>hL ⟨hl,h⟩
       ·exact .inl hl
      simp [this]
    ·rw [e,ew (by omega) (by omega)]
     have e9:(((q-1:Nat):Int)-1)=(q:Int)-1-1:=by omega
     obtain⟨r2,H,h2'⟩:=ih (q-1) (by omega) (by omega)
     rw [e9]at H
     rw [H]
     rcases h2' with rfl|⟨t,P,R,hw,hs,hN2,hl⟩
     ·exact⟨0,by simp,.inl rfl⟩
     ·have hp:=t.size_pos
      by_cases hL:n.L=(q:Int)-1-1/\n.R= -1
      ·refine⟨r2+1,?_,.inr ⟨.un (kp n (-1) (-1)) t,P,N.drop q,⟨⟨hk,hc,rfl,rfl⟩,hw⟩,by simp only [Tr.size];omega,?_,by omega⟩⟩
       ·simp only [bg]
        rw [ew (n:=(r2:Int)+1) (by omega) (by omega)]
        have: ¬(r2=0):=by omega
        simp [hL,this]
       ·simp only [Tr.flat]
        rw [wY (by rw [hL.1];omega) hL.2]
        have D:N.take (q-1)=P++t.flat P.length:=by
         rw [hN2,Bw (by simp [t.flat_len];omega),tz (by simp [t.flat_len];omega)]
        rw [D]at hd
        simpa only [oB] using hd
      ·refine⟨0,?_,.inl rfl⟩
       have:(n.L !=(q:Int)-1-1||n.R != -1)=true:=by
        rw [z6,xx,xx]
        by_cases hl:n.L=(q:Int)-1-1
        ·exact .inr fun h=>hL ⟨hl,h⟩
        ·exact .inl hl
       simp [this]
    ·rw [e,ew (n:=(q:Int)-1-1) (by omega) (by omega)]
     have e9:(((q-1:Nat):Int)-1)=(q:Int)-1-1:=by omega
     obtain⟨r2,H,h2'⟩:=ih (q-1) (by omega) (by omega)
     rw [e9]at H
     rw [H]
     rcases h2' with rfl|⟨t,P,R,hw,hs,hN2,hl⟩
     ·exact⟨0,by simp,.inl rfl⟩
     ·have hp:=t.size_pos
      simp only [bg]
      rw [ew (n:=(q:Int)-1-1-(r2:Int)) (by omega) (by omega)]
      have e8:(((q-1-r2:Nat):Int)-1)=(q:Int)-1-1-(r2:Int):=by omega
      have n2: ¬(r2=0):=by omega
      obtain⟨r3,s,h3'⟩:=ih (q-1-r2) (by omega) (by omega)
      rw [e8]at s
      rw [s]
      rcases h3' with rfl|⟨t3,P3,R3,hw3,hs3,hN3,hl3⟩
      ·exact⟨0,by simp,.inl rfl⟩
      ·have hp3:=t3.size_pos
       have n3: ¬(r3=0):=by omega
       by_cases hL:n.R=(q:Int)-1-1/\n.L=(q:Int)-1-1-(r2:Int)
       ·refine⟨r3+r2+1,?_,.inr ⟨.bi (kp n (-1) (-1)) t3 t,P3,N.drop q,⟨⟨hk,hc,rfl,rfl⟩,hw3,hw⟩,by simp only [Tr.size];omega,?_,by omega⟩⟩
        ·simp only [bg]
         rw [ew (n:=(r3:Int)+(r2:Int)) (by omega) (by omega),ew (n:=(r3:Int)+(r2:Int)+1) (by omega) (by omega)]
         simp [hL,n2,n3]
        ·simp only [Tr.flat]
         rw [wY (by rw [hL.2];omega) (by rw [hL.1];omega)]
         have D:N.take (q-1)=P++t.flat P.length:=by
          rw [hN2,Bw (by simp [t.flat_len];omega),tz (by simp [t.flat_len];omega)]
         have hP:P=N.take P.length:=by
          conv=>rhs;rw [hN2,oB,Bw (dY _),tz (dY _)]
         have hP3:P=P3++t3.flat P3.length:=by
          rw [hP]
          have:P.length=P3.length+t3.size:=by omega
          conv=>lhs;rw [this,hN3]
          rw [Bw (by simp [t3.flat_len]),tz (by simp [t3.flat_len])]
         have hPl:P.length=P3.length+t3.size:=by omega
         rw [D,hPl]at hd
         rw [hP3]at hd
         simpa only [oB] using hd
       ·clear ih hN2 hN3
        refine⟨0,?_,.inl rfl⟩
        have:(n.R !=(q:Int)-1-1||n.L !=(q:Int)-1-1-(r2:Int))=true:=by
         rw [z6,xx,xx]
         by_cases hl:n.R=(q:Int)-1-1
         ·exact .inr fun h=>hL ⟨hl,h⟩
         ·exact .inl hl
        have h' :=this
        rw [z6,xx,xx]at h'
        simp [n2,n3]
        intro Y H
        exact absurd H (by rcases h' with h' |h';exact absurd Y h';exact h')
def CP(e:aR):v8 e=some (mY e.Nodes):=by
 unfold v8 mY
 by_cases h:1<=e.Nodes.length/\e.Nodes.length<=1000
 ·rw [bo (by simp;omega),ew (by omega) (by omega)]
  unfold CO
  obtain⟨k,Y,H⟩:=Rx e.Nodes (by omega) eQ e.Nodes.length (dY _) (vK (z8 _) (m8 (by omega)))
  have h1' :jb eQ e ((e.Nodes.length:Int)-1)=some (k:Int):=Y
  rw [h1']
  simp only [bg]
  congr 1
  rw [vI]
  constructor
  ·intro hk
   have hk' :k=e.Nodes.length:=by have:=eq_of_beq hk;omega
   rcases H with rfl|⟨t,P,R,hw,hs,hN,hl⟩
   ·omega
   ·have hP:P=[]:=tA (by omega)
    subst hP
    have hR:R=[]:=by
     have:=congrArg List.length hN
     simp [t.flat_len]at this
     exact tA (by omega)
    subst hR
    have hN' :e.Nodes=t.flat 0:=by simpa using hN
    rw [hN',HD hw (by omega)];rfl
  ·intro hi
   cases D:qg e.Nodes with
   |none=>rw [D]at hi;cases hi
   |some t=>
    obtain⟨hw,hN,hs⟩:=nl D
    have hlen:e.Nodes.length=t.size:=by rw [hN,t.flat_len]
    have s:=Rw t hw [] [] e.Nodes eQ (by simpa using hN) (m8 (by omega)) (by omega)
    simp only [vx,vw]at s
    rw [<-hlen]at s
    have h4:some (k:Int)=some (e.Nodes.length:Int):=Y.symm.trans s
    simpa using h4
 ·rw [aV (by simp;omega)]
  simp only [bg]
  congr 1
  symm
  rw [B8]
  intro hi
  cases D:qg e.Nodes with
  |none=>rw [D]at hi;cases hi
  |some t=>
   obtain⟨hw,hN,hs⟩:=nl D
   have hlen:e.Nodes.length=t.size:=by rw [hN,t.flat_len]
   have:=t.size_pos
   omega
def J8(h:mY ns=true):1<=ns.length/\ns.length<=1000:=by
 unfold mY at h
 cases D:qg ns with
 |none=>rw [D]at h;cases h
 |some t=>
  obtain⟨hw,hN,hs⟩:=nl D
  have hlen:ns.length=t.size:=by rw [hN,t.flat_len]
  have:=t.size_pos
  omega
end Go.Proofs.YtdohlidddcgfjaaGreat

