import Derived.Test.YtdohlidddcgfjaaGreatFgF
import Derived.KernelRfl
import Derived.Test.YtdohlidddcgfjaaGreatFgV4
set_option linter.all false
namespace Go.Proofs.YtdohlidddcgfjaaGreat
open Go IntKind
abbrev UR:=List aD
variable{α:Type}{xs:List α}
def bZ{ys:List α}(h:xs.length+ys.length<=68719476736):hU xs ys=some (xs++ys):=bM h
def iM(v:aD):Bool:=(ip v).getD false
def um(v:aD):ip v=some (iM v):=by
 unfold iM ip;repeat' split
 all_goals rfl
variable{n:bw}
def wL(v:aD):kj v=some (if iM v then 0 else 120):=by
 obtain⟨k,n,u,bx⟩:=v;unfold iM ip kj AE;simp only [mW,ug,uf,ue];by_cases h0:k=0
 ·subst h0;simp;repeat' split
  all_goals simp_all
 by_cases H:k=1
 ·subst H;by_cases n0:n=0
  ·subst n0;simp;repeat' split
   all_goals simp_all
  by_cases n1:n=1
  ·subst n1;simp;repeat' split
   all_goals simp_all
  simp [n0,n1]
 by_cases W:k=2
 ·subst W;simp;repeat' split
  all_goals simp_all
 by_cases h3:k=3
 ·subst h3;simp;repeat' split
  all_goals simp_all
 by_cases h4:k=4
 ·subst h4;simp;repeat' split
  all_goals simp_all
 simp [h0,H,W,h3,h4]
def oM(r:UR):Bool:=decide (r.length<=16)&&r.all iM
def Hw(v:aD):vv v=some (!iM v):=by
 unfold vv;rw [wL];cases iM v<;>rfl
def Ft{f:aD->Option Bool}{g:aD->Bool}(hf: ∀v,f v=some (g v))(l:UR):iY l f=some (l.any g):=by
 have key: ∀(l:UR) (i:Nat),(er f l i).bind (fun r=>some (decide ((0:Int)<=r)))=some (l.any g):=by
  intro l
  induction l with
  |nil=>intro i;simp [er]
  |cons e t ih=>intro i;simp only [er,hf,bz];cases h:g e<;>simp [ih,h]
 exact key l 0
def Lf(r:UR):BC r=some (oM r):=by
 unfold BC oM;rw [Ft (g:=fun v=> !iM v) Hw];by_cases h:r.length<=16
 ·rw [bM (by simp;omega)];simp [h,List.all_eq_not_any_not]
 ·rw [bB (by simp;omega)];simp [h]
def HA(r:UR):xG r=some (oM r):=by
 have key: ∀l:UR,rl l=some (l.all iM):=by
  intro l
  induction l with
  |nil=>rfl
  |cons e t ih=>simp only [rl,um,bz];cases h:iM e<;>simp [ih,h]
 unfold xG oM;rw [key];by_cases h:r.length<=16
 ·rw [bB (by simp;omega)];simp [h]
 ·rw [bM (by simp;omega)];simp [h]
def Lh(r:UR):BD r=some (if oM r then 0 else 150):=by
 unfold BD;rw [Lf];cases oM r<;>rfl
variable{a:Nat}
def Lg(a b:UR):yF a b=some (decide (a=b)):=by
 unfold yF fS;by_cases hl:a.length=b.length
 ·rw [bB (by simp [hl])];have key: ∀(l:UR) (i:Nat),a.drop i=l->fi b l i=some (decide (l=b.drop i)):=by
   intro l
   induction l with
   |nil=>
    intro i H;have h3:a.length<=i:=zc.1 H;rw [EO (by omega)];rfl
   |cons x t ih=>
    intro i H;have hi:i<a.length:=by
     rcases pj i a.length with h|h
     ·exact h
     ·rw [EO h]at H;cases H
    have D:=ih (i+1) (by rw [<-uH,H];rfl);simp only [fi];rw [eU,vp (by omega),Ce (by omega:i<b.length)];simp only [bz,D];by_cases K:x=b[i]
    ·rw [bB (by simp [K])];exact congrArg some (Do.2 ⟨fun h=>by rw [K,h],fun h=>(Dn h).2⟩)
    ·rw [bM (by simp [K])];exact congrArg some (yh (fun h=>K (Dn h).1)).symm
  have:=key a 0 rfl;rw [this];simp
 ·rw [bM (by simp;omega)];have:a≠b:=fun e=>hl (by rw [e]);simp [this]
def Nq(p q:List UR):DP p q=some (decide (p=q)):=by
 unfold DP dg;by_cases hl:p.length=q.length
 ·rw [bB (by simp [hl])];have key: ∀(l:List UR) (i:Nat),p.drop i=l->cP q yF l i=some (decide (l=q.drop i)):=by
   intro l
   induction l with
   |nil=>
    intro i H;have h3:p.length<=i:=zc.1 H;rw [EO (by omega)];rfl
   |cons x t ih=>
    intro i H;have hi:i<p.length:=by
     rcases pj i p.length with h|h
     ·exact h
     ·rw [EO h]at H;cases H
    have D:=ih (i+1) (by rw [<-uH,H];rfl);simp only [cP];rw [eU,vp (by omega),Ce (by omega:i<q.length)];simp only [bz,D,Lg];by_cases K:x=q[i]
    ·rw [bB (by simp [K])];exact congrArg some (Do.2 ⟨fun h=>by rw [K,h],fun h=>(Dn h).2⟩)
    ·rw [bM (by simp [K])];exact congrArg some (yh (fun h=>K (Dn h).1)).symm
  have:=key p 0 rfl;rw [this];simp
 ·rw [bM (by simp;omega)];have:p≠q:=fun e=>hl (by rw [e]);simp [this]
def nb(r:Nat):Nat:=if r%2=1 then(r/2)^^^2197175160 else r/2
def Yl(r:Nat):Nat:=nb (nb (nb (nb (nb (nb (nb (nb r)))))))
def MN(a b:Nat):(a^^^b)/2=(a/2)^^^(b/2):=by
 have:=Nat.xor_div_two_pow (a:=a) (b:=b) (n:=1);simpa using this
def MM(a b:Nat):(a^^^b)%2=(a%2+b%2)%2:=by
 have h:=Nat.xor_mod_two_pow (a:=a) (b:=b) (n:=1);rw [Nat.pow_one]at h;rw [h];rcases Nat.mod_two_eq_zero_or_one a with H|H<;>rcases Nat.mod_two_eq_zero_or_one b with W|W<;>rw [H,W]<;>rfl
def wo(a b:Nat):nb (a^^^2*b)=nb a^^^b:=by
 unfold nb;rw [MM,MN];have H:2*b/2=b:=by omega
 have W:(a%2+2*b%2)%2=a%2:=by omega
 rw [H,W];by_cases h:a%2=1
 ·rw [bM h,bM h,Nat.xor_assoc,Nat.xor_assoc,Nat.xor_comm b]
 ·rw [bB h,bB h]
def abr(a c:Nat):nb (a^^^c)=nb (a^^^(c%2))^^^(c/2):=by
 have:a^^^c=(a^^^(c%2))^^^2*(c/2):=by
  rw [Nat.xor_assoc];congr 1;apply Nat.eq_of_testBit_eq;intro i;rw [Nat.testBit_xor]
  cases i with
  |zero=>simp [Nat.testBit_zero]
  |succ i=>simp [Nat.testBit_succ]
 rw [this,wo]
def VS(a b:Nat):Yl (a^^^256*b)=Yl a^^^b:=by
 unfold Yl;rw [show 256*b=2*(128*b) by omega,wo,show 128*b=2*(64*b) by omega,wo,show 64*b=2*(32*b) by omega,wo,show 32*b=2*(16*b) by omega,wo,
  show 16*b=2*(8*b) by omega,wo,show 8*b=2*(4*b) by omega,wo,show 4*b=2*(2*b) by omega,wo,wo]
def S2(x:Nat):x=(x%256)^^^256*(x/256):=by
 apply Nat.eq_of_testBit_eq;intro i;rw [Nat.testBit_xor,show(256:Nat)=2^8 from rfl,Nat.testBit_mod_two_pow,Nat.testBit_two_pow_mul,Nat.testBit_div_two_pow];by_cases h:i<8
 ·simp [h,show¬8<=i by omega]
 ·simp [h,show 8<=i by omega,show 8+(i-8)=i by omega]
def VT(x:Nat):Yl x=Yl (x%256)^^^(x/256):=by
 conv=>lhs;rw [S2 x,VS]
def DC{b:Nat}(ha:a<4294967296)(V:b<4294967296):a^^^b<4294967296:=Nat.xor_lt_two_pow (n:=32) ha V
def D9(ha:a<4294967296):nb a<4294967296:=by
 unfold nb;split
 ·exact DC (by omega) (by omega)
 ·omega
def VR(ha:a<4294967296):Yl a<4294967296:=D9 (D9 (D9 (D9 (D9 (D9 (D9 (D9 ha)))))))
def U9(n:Nat)(h:n<4294967296):u32.wrap (n:Int)=(n:Int):=by rw [GP];omega
def U6(a b:Nat)(ha:a<4294967296)(V:b<4294967296):sO .xor .u32 (a:Int) (b:Int)=((a^^^b:Nat):Int):=by
 show u32.wrap ((BitVec.ofInt 32 (a:Int)^^^BitVec.ofInt 32 (b:Int)).toNat:Int)=_;rw [show(BitVec.ofInt 32 (a:Int)^^^BitVec.ofInt 32 (b:Int)).toNat=a^^^b by
  rw [BitVec.toNat_xor,BitVec.toNat_ofInt,BitVec.toNat_ofInt];congr 1<;>omega]
 exact U9 _ (DC ha V)
def afF(a b:Nat)(ha:a<256)(V:b<256):sO .xor .u8 (a:Int) (b:Int)=((a^^^b:Nat):Int):=by
 show u8.wrap ((BitVec.ofInt 8 (a:Int)^^^BitVec.ofInt 8 (b:Int)).toNat:Int)=_;rw [show(BitVec.ofInt 8 (a:Int)^^^BitVec.ofInt 8 (b:Int)).toNat=a^^^b by
  rw [BitVec.toNat_xor,BitVec.toNat_ofInt,BitVec.toNat_ofInt];congr 1<;>omega]
 have:=Nat.xor_lt_two_pow (n:=8) ha V;rw [xq];omega
def Lm(r c:Nat)(hr:r<4294967296):BF (r:Int) (((c:Int).tmod 2)==1)=some ((nb (r^^^(c%2)):Nat):Int):=by
 unfold BF wl;have e1:((r:Int).tmod 2==1)=decide (r%2=1):=by
  rw [show(r:Int).tmod 2=((r%2:Nat):Int)from rfl];rw [tY];simp only [oJ,mS];omega
 have e2:((c:Int).tmod 2==1)=decide (c%2=1):=by
  rw [show(c:Int).tmod 2=((c%2:Nat):Int)from rfl];rw [tY];simp only [oJ,mS];omega
 rw [e1,e2,show(r:Int).tdiv 2=((r/2:Nat):Int)from rfl,U9 _ (by omega),show(2197175160:Int)=((2197175160:Nat):Int)from rfl,U6 _ _ (by omega) (by omega)];unfold nb;rw [MM,MN,show c%2/2=0 by omega,Nat.xor_zero,show c%2%2=c%2 by omega];by_cases H:r%2=1<;>by_cases W:c%2=1
 ·simp [H,W]
 ·simp [H,show c%2=0 by omega]
 ·simp [W,show r%2=0 by omega]
 ·simp [show c%2=0 by omega,show r%2=0 by omega]
def FJ(nx:Int->Option Int): ∀(k r c:Nat),r<4294967296->c<2^k->k<=8->oR nx k (r:Int) (c:Int)=nx ((Nat.rec (motive:=fun _=>Nat) (r^^^c) (fun _ x=>nb x) k:Nat):Int)
 |0,r,c,_,hc,_=>by
  have:c=0:=by omega
  subst this;unfold oR;rw [Nat.xor_zero];rfl
 |k+1,r,c,hr,hc,hk=>by
  unfold oR;have hp:(2:Nat)^k<=2^7:=Nat.pow_le_pow_right (by omega) (by omega);have hc2:c/2<2^k:=by rw [Nat.pow_succ]at hc;omega
  rw [Lm r c hr,bz,show(c:Int).tdiv 2=((c/2:Nat):Int)from rfl,show u8.wrap ((c/2:Nat):Int)=((c/2:Nat):Int) by rw [xq];omega];rw [FJ nx k _ _ (D9 (DC hr (by omega))) hc2 (by omega),<-abr];congr 2;clear hr hc hk hp hc2
  induction k with
  |zero=>rfl
  |succ k ih=>show nb _=nb _;rw [ih]
def FS(r c:Nat):Nat:=Yl (r^^^c)
def OD{r c:Nat}(hr:r<4294967296)(hc:c<256):FS r c<4294967296:=VR (DC hr (by omega))
def qV(b:List Int):Prop:= ∀x∈b,∃c:Nat,c<256/\x=(c:Int)
def FK: ∀(b:List Int) (r:Nat),r<4294967296->qV b-> ∃bx:Nat,bx<4294967296/\bx=b.foldl (fun r x=>FS r x.toNat) r/\nd b (r:Int)=some (((4294967295-bx:Nat)):Int)
 |[],r,hr,_=>⟨r,hr,rfl,by unfold nd;rw [GP];congr 1;omega⟩
 |x::b,r,hr,V=>by
  obtain⟨c,hc,rfl⟩:=V _ (jO ..);obtain⟨bx,H,W,h3⟩:=FK b (FS r c) (OD hr hc) (fun y hy=>V y (kX _ hy));refine⟨bx,H,W,?_⟩;unfold nd;rw [FJ _ 8 r c hr (by omega) (kE _)];exact h3
def Ad:List Int:=(List.range 256).map fun i=>(Yl i:Int)
def M4:ES=some Ad:=by kernel_rfl
def Tc(i:Nat)(h:i<256):gw Ad (i:Int)=some (Yl i:Int):=by
 rw [eU];unfold Ad;rw [MC,List.getElem?_range h];rfl
def XV(r c:Nat)(hr:r<4294967296)(hc:c<256):xx (r:Int) Ad (c:Int)=some (FS r c:Int):=by
 unfold xx;have K:(r%256)^^^c<256:=Nat.xor_lt_two_pow (n:=8) (by omega) hc;rw [show u8.wrap (r:Int)=((r%256:Nat):Int) by rw [xq];omega,afF _ _ (by omega) hc,Tc _ K,bz];rw [show((r:Int).fdiv (2^(min (Int.toNat (8:Int)) u32.bits)))=((r/256:Nat):Int) by
  show(r:Int).fdiv 256=_;rw [JB _ (by omega)];omega]
 rw [U6 _ _ (by omega) (VR (by omega))];unfold FS;rw [VT (r^^^c)];rw [show(r^^^c)%256=(r%256)^^^c by
  have:=Nat.xor_mod_two_pow (a:=r) (b:=c) (n:=8);rw [show(256:Nat)=2^8 from rfl,this,Nat.mod_eq_of_lt (a:=c) (by omega)]]
 rw [show(r^^^c)/256=r/256 by
  have:=Nat.xor_div_two_pow (a:=r) (b:=c) (n:=8);rw [show(256:Nat)=2^8 from rfl,this,Nat.div_eq_of_lt (a:=c) (by omega),Nat.xor_zero],Nat.xor_comm]
def ET: ∀(b:List Int) (r:Nat),r<4294967296->qV b-> ∃bx:Nat,bx<4294967296/\bx=b.foldl (fun r x=>FS r x.toNat) r/\rN Ad b (r:Int)=some (((4294967295-bx:Nat)):Int)
 |[],r,hr,_=>⟨r,hr,rfl,by
  unfold rN;rw [show(if u32.signed then -1 else u32.max)=((4294967295:Nat):Int)from rfl,U6 _ _ (by omega) hr];congr 2;have h:=BitVec.allOnes_xor (x:=BitVec.ofNat 32 r);have W:=congrArg BitVec.toNat h;rw [BitVec.toNat_xor,BitVec.toNat_not,BitVec.toNat_allOnes,BitVec.toNat_ofNat,Nat.mod_eq_of_lt (a:=r) (by omega)]at W;exact W⟩
 |x::b,r,hr,V=>by
  obtain⟨c,hc,rfl⟩:=V _ (jO ..);obtain⟨bx,H,W,h3⟩:=ET b (FS r c) (OD hr hc) (fun y hy=>V y (kX _ hy));refine⟨bx,H,W,?_⟩;unfold rN;rw [XV r c hr hc,bz];exact h3
def Te(b:List Int)(V:qV b): ∃n:Nat,n<4294967296/\wy b=some (n:Int)/\AX b=some (n:Int):=by
 obtain⟨bx,_,W,h3⟩:=ET b 4294967295 (by omega) V;obtain⟨s',_,h2',h3'⟩:=FK b 4294967295 (by omega) V;refine⟨_,by omega,?_,h3'⟩;unfold wy;rw [M4,bz,h2',<-W];exact h3
def Q4{a b:List Int}(ha:qV a)(V:qV b):qV (a++b):=fun x K=>(An.1 K).elim (ha x) (V x)
def Bp(n:Nat):Nat->List Int
 |0=>[]
 |k+1=>((n/256^k%256:Nat):Int)::Bp n k
def Ip(n:Nat): ∀k,(Bp n k).length=k
 |0=>rfl
 |k+1=>by simp [Bp,Ip n k]
structure Cmp{α:Type}(f:α->α->Int):Prop where
 rng: ∀x y,f x y= -1\/f x y=0\/f x y=1
 anti: ∀x y,f y x= -f x y
 eq: ∀x y,f x y=0↔x=y
 trans: ∀x y z,f x y<=0->f y z<=0->f x z<=0
def key(v:aD):Int×Int×Int×Xo:=(v.Kind,v.N,v.U,v.S)
section
variable{f:α->α->Int}
def ltB(f:α->α->Int)(x y:α):Bool:=decide (f x y<0)
def srt(f:α->α->Int)(l:List α):List α:=aaq (ltB f) l
def put(f:α->α->Int)(x:α):List α->List α
 |[]=>[x]
 |y::l=>if f x y<0 then x::y::l else y::put f x l
end
def Bm{α:Type} [DecidableEq α]:α->List α->List α
 |_,[]=>[]
 |p,x::t=>if x=p then Bm x t else x::Bm x t
def OC [DecidableEq α](p:α):Bm p []=[]:=by unfold Bm;rfl
def Kt [DecidableEq α]{p x:α}(h:x=p)(t:List α):Bm p (x::t)=Bm x t:=by
 conv=>lhs;unfold Bm
 rw [bM h]
def Sq [DecidableEq α]{p x:α}(h: ¬x=p)(t:List α):Bm p (x::t)=x::Bm x t:=by
 conv=>lhs;unfold Bm
 rw [bB h]
def Sp{α:Type} [DecidableEq α]:List α->List α
 |[]=>[]
 |x::t=>x::Bm x t
def Ik{α:Type} [DecidableEq α]: ∀(p:α) (l:List α) (z:α),z∈Bm p l->z∈l
 |p,x::t,z,h=>by
  unfold Bm at h;split at h
  ·exact kX _ (Ik x t z h)
  ·rcases ll.1 h with rfl|h
   ·exact jO ..
   ·exact kX _ (Ik x t z h)
def HP{α:Type} [DecidableEq α]: ∀(p:α) (l:List α) (z:α),z∈l->z=p\/z∈Bm p l
 |p,x::t,z,h=>by
  unfold Bm;by_cases K:x=p
  ·rw [bM K];rcases ll.1 h with rfl|h
   ·exact .inl K
   ·rcases HP x t z h with h|h
    ·exact .inl (h.trans K)
    ·exact .inr h
  ·rw [bB K];rcases ll.1 h with rfl|h
   ·exact .inr (jO ..)
   ·rcases HP x t z h with h|h
    ·exact .inr (by rw [h];exact jO ..)
    ·exact .inr (kX _ h)
def T0 [DecidableEq α](l:List α)(z:α):z∈Sp l↔z∈l:=by
 cases l with
 |nil=>exact qW
 |cons x t=>
  constructor
  ·intro h;rcases ll.1 h with rfl|h
   ·exact jO ..
   ·exact kX _ (Ik x t z h)
  ·intro h;rcases ll.1 h with rfl|h
   ·exact jO ..
   ·rcases HP x t z h with rfl|h
    ·exact jO ..
    ·exact kX _ h
structure Small(l:List UR):Prop where
 len:l.length<=8000
 row: ∀r∈l,r.length<=1000
def gg{n:Int}(h: -9223372036854775808<=n)(W:n<=9223372036854775807):i64.wrap n=n:=by rw [kW];omega
def oK{l m:Nat}(h:l<=m)(W:m<=xs.length):dr xs (l:Int) (m:Int)=some ((xs.take m).drop l):=by
 unfold dr;rw [bM (by omega)];simp
def kM{i j:Int}(l m:Nat)(hi:i=(l:Int))(hj:j=(m:Int))(h:l<=m)(W:m<=xs.length):dr xs i j=some ((xs.take m).drop l):=by
 subst hi hj;exact oK h W
def oj{i:Int}(k:Nat)(hi:i=(k:Int)):gw xs i=xs[k]? :=by subst hi;exact eU _ _
def AZ(v:aD):Bool:=iM v&&(v.Kind !=4)
def GZ(v:aD):xu v=some (AZ v):=by
 unfold xu AZ;rw [wL];cases iM v<;>simp
def uo(v:aD):xI v=some (AZ v):=by
 unfold xI AZ;rw [um];rfl
def NC{v:aD}(h:AZ v=true):0<=v.Kind/\v.Kind<=3:=by
 obtain⟨k,n,u,bx⟩:=v;unfold AZ iM ip at h;simp only [nw,Ay,ne_eq]at h;obtain⟨H,W⟩:=h;by_cases h0:k=0
 ·simp [h0]
 by_cases k1:k=1
 ·simp [k1]
 by_cases k2:k=2
 ·simp [k2]
 by_cases k3:k=3
 ·simp [k3]
 simp [h0,k1,k2,k3,W]at H
def pk(tag:Int):Option Nat:=if tag=1\/tag=2 then some 0 else if 4<=tag/\tag<=7 then some 1 else if 12<=tag/\tag<=23 then some 2 else none
def BK(tag:Int):Int:=match pk tag with
 |some k=>(k:Int)
 |none=> -1
def CA(tag:Int):u3 tag=some (BK tag):=by
 unfold u3 BK pk;by_cases H:tag=1\/tag=2
 ·rw [bM H,bM (by simpa using H)];rfl
 rw [bB H,bB (by simpa using H)];by_cases W:4<=tag/\tag<=7
 ·rw [bM W,bM (by simpa using W)];rfl
 rw [bB W,bB (by simpa using W)];by_cases h3:12<=tag/\tag<=23
 ·rw [bM h3,bM (by simpa using h3)];rfl
 rw [bB h3,bB (by simpa using h3)]
def ly(tag:Int):vy tag=some (BK tag):=by
 unfold vy AV BK pk;by_cases H:tag=1\/tag=2
 ·rw [bM H];rcases H with rfl|rfl<;>rfl
 rw [bB H];by_cases W:4<=tag/\tag<=7
 ·rw [bM W];have:tag=4\/tag=5\/tag=6\/tag=7:=by omega
  rcases this with rfl|rfl|rfl|rfl<;>rfl
 rw [bB W];by_cases h3:12<=tag/\tag<=23
 ·rw [bM h3,bB (by simp;omega),bB (by simp;omega),bB (by simp;omega),bB (by simp;omega)];rfl
 rw [bB h3];by_cases h4:tag=3\/(8<=tag/\tag<=11)
 ·rw [bM (by simpa using h4)]
 rw [bB (by simpa using h4),bM (by simp;omega)];rfl
def cnt(n:bw):Bool:=(mu n).getD false
def lS(n:bw):mu n=some (cnt n):=by
 unfold cnt mu;rw [uo];split
 ·rfl
 ·split<;>rfl
def If(n:bw):yb n=some (cnt n):=by
 rw [<-lS];unfold yb mu;rw [uo,GZ]
inductive Tr where
 |lf (n:bw)
 |un (n:bw) (a:Tr)
 |bi (n:bw) (a b:Tr)
 deriving Inhabited
def Tr.size:Tr->Nat
 | .lf _=>1
 | .un _ a=>a.size+1
 | .bi _ a b=>a.size+b.size+1
def mN(n:bw)(l r:Int):bw:={n with L:=l,R:=r}
def Tr.flat:Tr->Nat->List bw
 | .lf n,_=>[mN n (-1) (-1)]
 | .un n a,bx=>a.flat bx++[mN n ((bx+a.size:Nat)-1) (-1)]
 | .bi n a b,bx=>a.flat bx++b.flat (bx+a.size)++[mN n ((bx+a.size:Nat)-1) ((bx+a.size+b.size:Nat)-1)]
def abp(k:Nat)(n:bw):Prop:=pk n.Tag=some k/\cnt n=true/\n.L= -1/\n.R= -1
def Tr.wf:Tr->Prop
 | .lf n=>abp 0 n
 | .un n a=>abp 1 n/\a.wf
 | .bi n a b=>abp 2 n/\a.wf/\b.wf
def Tr.size_pos(t:Tr):0<t.size:=by cases t<;>simp [Tr.size]
def Tr.flat_len(t:Tr): ∀bx,(t.flat bx).length=t.size:=by
 induction t with
 |lf n=>intro bx;rfl
 |un n a ih=>intro bx;simp [Tr.flat,Tr.size,ih]
 |bi n a b iha ihb=>intro bx;simp [Tr.flat,Tr.size,iha,ihb];omega
def dB:List Tr->Nat
 |[]=>0
 |t::st=>dB st+t.size
def Ah:List Tr->List bw
 |[]=>[]
 |t::st=>Ah st++t.flat (dB st)
def Km: ∀st:List Tr,(Ah st).length=dB st
 |[]=>rfl
 |t::st=>by simp [Ah,dB,Km st,t.flat_len]
def JT: ∀st:List Tr,st.length<=dB st
 |[]=>kE _
 |t::st=>by have:=JT st;have:=t.size_pos;simp [dB];omega
def push(st:List Tr)(n:bw):Option (List Tr):=
 match pk n.Tag,st with
 |some 0,st=>if cnt n&&n.L== -1&&n.R== -1 then some (.lf (mN n (-1) (-1))::st)else none
 |some 1,a::st=>if cnt n&&n.L==((dB st+a.size:Nat):Int)-1&&n.R== -1 then some (.un (mN n (-1) (-1)) a::st)else none
 |some 2,b::a::st=>if cnt n&&n.L==((dB st+a.size:Nat):Int)-1&&n.R==((dB st+a.size+b.size:Nat):Int)-1 then some (.bi (mN n (-1) (-1)) a b::st)else none
 |_,_=>none
def tJ:List bw->List Tr->Option (List Tr)
 |[],st=>some st
 |n::ns,st=>(push st n).bind (tJ ns)
def wfs(st:List Tr):Prop:= ∀t∈st,t.wf
def BI{l r:Int}(h:n.L=l)(W:n.R=r):mN (mN n (-1) (-1)) l r=n:=by subst h W;rfl
def Mg{l r:Int}:cnt (mN n l r)=cnt n:=rfl
def TB{st st' :List Tr}(h:push st n=some st')(hw:wfs st):Ah st' =Ah st++[n]/\dB st' =dB st+1/\wfs st' :=by
 unfold push at h;split at h
 ·rename_i k st0 hk;split at h
  ·rename_i hc;simp only [nw,oJ]at hc;obtain⟨⟨H,W⟩,h3⟩:=hc;cases h;refine⟨?_,rfl,fun t D=>?_⟩
   ·simp only [Ah,Tr.flat];rw [BI W h3]
   ·rcases ll.1 D with rfl|D
    ·exact⟨hk,H,rfl,rfl⟩
    ·exact hw t D
  ·cases h
 ·rename_i k a st0 hk;split at h
  ·rename_i hc;simp only [nw,oJ]at hc;obtain⟨⟨H,W⟩,h3⟩:=hc;cases h;refine⟨?_,by simp [dB,Tr.size];omega,fun t D=>?_⟩
   ·simp only [Ah,Tr.flat];rw [BI W h3,jR]
   ·rcases ll.1 D with rfl|D
    ·exact⟨⟨hk,H,rfl,rfl⟩,hw a (jO ..)⟩
    ·exact hw t (kX _ D)
  ·cases h
 ·rename_i k b a st0 hk;split at h
  ·rename_i hc;simp only [nw,oJ]at hc;obtain⟨⟨H,W⟩,h3⟩:=hc;cases h;refine⟨?_,by simp [dB,Tr.size];omega,fun t D=>?_⟩
   ·simp only [Ah,Tr.flat,dB];rw [BI W h3];simp only [jR]
   ·rcases ll.1 D with rfl|D
    ·exact⟨⟨hk,H,rfl,rfl⟩,hw a (kX _ (jO ..)),hw b (jO ..)⟩
    ·exact hw t (kX _ (kX _ D))
  ·cases h
 ·cases h
variable{ns:List bw}
def C2: ∀{ns:List bw} {st st' :List Tr},tJ ns st=some st' ->wfs st->Ah st' =Ah st++ns/\wfs st'
 |[],st,st',h,hw=>by cases h;simp [hw]
 |n::ns,st,st',h,hw=>by
  unfold tJ at h
  cases hp:push st n with
  |none=>rw [hp]at h;cases h
  |some st1=>
   rw [hp]at h;obtain⟨H,_,h3⟩:=TB hp hw;obtain⟨h4,h5⟩:=C2 (ns:=ns) h h3;exact⟨by rw [h4,H];simp,h5⟩
def wm: ∀(ns ms:List bw) (st:List Tr),tJ (ns++ms) st=(tJ ns st).bind (tJ ms)
 |[],ms,st=>rfl
 |n::ns,ms,st=>by
  simp only [GL,tJ]
  cases push st n with
  |none=>rfl
  |some st1=>exact wm ns ms st1
def PT(t:Tr): ∀(st:List Tr),t.wf->tJ (t.flat (dB st)) st=some (t::st):=by
 induction t with
 |lf n=>
  intro st ⟨H,W,h3,h4⟩;have hn' :mN n (-1) (-1)=n:=by cases n;simp only at h3 h4;subst h3 h4;rfl
  simp only [Tr.flat,tJ,push,hn'];rw [H];simp [W,h3,h4,tJ,hn']
 |un n a ih=>
  intro st ⟨⟨H,W,h3,h4⟩,ha⟩;have hn' :mN n (-1) (-1)=n:=by cases n;simp only at h3 h4;subst h3 h4;rfl
  simp only [Tr.flat];rw [wm,ih st ha];simp only [bz,tJ,push];have e1:(mN n (((dB st+a.size:Nat):Int)-1) (-1)).Tag=n.Tag:=rfl;rw [e1,H];have e2:cnt (mN n (((dB st+a.size:Nat):Int)-1) (-1))=true:=W;rw [e2];simp only [mN,beq_self_eq_true,Bool.and_self,gQ,bz,tJ];simp only [mN]at hn';rw [hn']
 |bi n a b iha ihb=>
  intro st ⟨⟨H,W,h3,h4⟩,ha,V⟩;have hn' :mN n (-1) (-1)=n:=by cases n;simp only at h3 h4;subst h3 h4;rfl
  simp only [Tr.flat];rw [wm,wm,iha st ha];simp only [bz];have e0:dB st+a.size=dB (a::st):=rfl;rw [e0,ihb (a::st) V];simp only [bz,tJ,push];have e1:(mN n (((dB (a::st):Nat):Int)-1) (((dB (a::st)+b.size:Nat):Int)-1)).Tag=n.Tag:=rfl;rw [e1,H];have e2:cnt (mN n (((dB (a::st):Nat):Int)-1) (((dB (a::st)+b.size:Nat):Int)-1))=true:=W;rw [e2];simp only [mN,dB,beq_self_eq_true,Bool.and_self,gQ,bz,tJ];simp only [mN]at hn';rw [hn']
def uO(ns:List bw):Option Tr:=match tJ ns []with
 |some [t]=>if ns.length<=1000 then some t else none
 |_=>none
def o6{t:Tr}(h:uO ns=some t):t.wf/\ns=t.flat 0/\t.size<=1000:=by
 unfold uO at h;split at h
 ·rename_i t0 hp;split at h
  ·rename_i hl;cases h;obtain⟨H,W⟩:=C2 hp (fun t D=>by cases D);simp only [Ah,dB,pM]at H;exact⟨W t (jO ..),H.symm,by rw [<-t.flat_len 0,H];exact hl⟩
  ·cases h
 ·cases h
def M1{t:Tr}(h:t.wf)(hs:t.size<=1000):uO (t.flat 0)=some t:=by
 unfold uO;have h0:=PT t [] h;simp only [dB]at h0;rw [h0];simp only [t.flat_len,hs,gQ]
def fl:Tr->Nat->List Int
 | .lf _,bx=>[(bx:Int)]
 | .un _ a,bx=>fl a bx++[(bx:Int)]
 | .bi _ a b,bx=>fl a bx++fl b (bx+a.size)++[(bx:Int)]
def Ui:List Tr->List Int
 |[]=>[]
 |t::st=>Ui st++fl t (dB st)
def pr:List Tr->List Int
 |[]=>[]
 |t::st=>pr st++[((dB st+t.size:Nat):Int)-1]
def zJ(t:Tr): ∀bx,(fl t bx).length=t.size:=by
 induction t with
 |lf n=>intro bx;rfl
 |un n a ih=>intro bx;simp [fl,Tr.size,ih]
 |bi n a b iha ihb=>intro bx;simp [fl,Tr.size,iha,ihb];omega
def xU: ∀st:List Tr,(Ui st).length=dB st
 |[]=>rfl
 |t::st=>by simp [Ui,dB,xU st,zJ]
def fm: ∀st:List Tr,(pr st).length=st.length
 |[]=>rfl
 |t::st=>by simp [pr,fm st]
def YF(t:Tr)(bx:Nat):(fl t bx)[t.size-1]? =some (bx:Int):=by
 cases t with
 |lf n=>rfl
 |un n a=>simp only [fl,Tr.size];rw [Ap (by rw [zJ];omega),zJ];simp
 |bi n a b=>simp only [fl,Tr.size];rw [Ap (by simp [zJ]),nY,zJ,zJ];simp
def HY(t:Tr)(st:List Tr)(rest:List Int):(Ui st++fl t (dB st)++rest)[dB st+t.size-1]? =some (dB st:Int):=by
 have:=t.size_pos;rw [Ds (by rw [nY,xU,zJ];omega),Ap (by rw [xU];omega),xU,show dB st+t.size-1-dB st=t.size-1 from by omega];exact YF t _
def Uj: ∀(ns:List bw) (st:List Tr),dB st+ns.length<=100000->ni ns (dB st) (Ui st) (pr st)=some (match tJ ns st with
   |some st' =>(Ui st',decide (st'.length=1)&&decide (dB st' <=1000))
   |none=>([],false)):=by
 intro ns
 induction ns with
 |nil=>
  intro st _;simp only [ni,tJ,fm,xU];congr 2;congr 1
  ·rw [tY];simp;omega
  ·rw [tY];simp;omega
 |cons n ns ih=>
  intro st hs;simp only [jl]at hs;have hll:=JT st;unfold ni;rw [CA];simp only [bz,fm,If];unfold tJ;unfold push
  cases hk:pk n.Tag with
  |none=>
   have e:BK n.Tag= -1:=by unfold BK;rw [hk]
   simp [e]
  |some k=>
   have e:BK n.Tag=(k:Int):=by unfold BK;rw [hk]
   have hk3:k=0\/k=1\/k=2:=by
    unfold pk at hk;repeat' split at hk
    all_goals simp at hk
    all_goals omega
   rw [e];rcases hk3 with rfl|rfl|rfl
   ·-- none
    simp only [];have c1:(decide (((0:Nat):Int)<0)||decide ((st.length:Int)<((0:Nat):Int)))=false:=by simp
    simp only [c1,Ab,gQ,bz]
    cases hc:cnt n with
    |false=>simp
    |true=>
     simp only [uc,jc,hX,o4];rw [kM st.length st.length (by rw [gg (by omega) (by omega)];omega) rfl (kE _) (by rw [fm];exact kE _)];have hd:(List.take st.length (pr st)).drop st.length=[]:=IV (by simp;omega);simp only [hd,bz,oZ];by_cases hL:n.L= -1/\n.R= -1
     ·have V:(n.L== -1&&n.R== -1)=true:=by simp [hL]
      rw [bM V,bB (by simp [hL.1,hL.2])];rw [bZ (by simp only [jl,yg,xU];omega)];simp only [bz];rw [kM (i:=0) 0 st.length rfl (by rw [fm,gg (by omega) (by omega)];omega) (mT _) (by rw [fm];exact kE _)];rw [yi (by rw [fm];exact kE _),yf];simp only [bz];rw [bZ (by simp only [jl,yg,fm];omega)];simp only [bz];have W:=ih (.lf (mN n (-1) (-1))::st) (by simp [dB,Tr.size];omega);simp only [dB,Tr.size,Ui,fl,pr]at W;rw [show(((dB st+1:Nat):Int)-1)=(dB st:Int)from by omega]at W;exact W
     ·have V:(n.L== -1&&n.R== -1)=false:=by
       rw [IU];intro h;apply hL;simpa using h
      rw [V];rw [bM (by
       simp only [Cn,Rq];intro h;have H:(-1:Int)=n.L:=by injection h
       have W:(-1:Int)=n.R:=by injection h with _ h;injection h
       exact hL ⟨H.symm,W.symm⟩)]
      simp
   ·-- one
    cases st with
    |nil=>simp
    |cons a st=>
     simp only [];have c1:(decide (((1:Nat):Int)<0)||decide (((a::st).length:Int)<((1:Nat):Int)))=false:=by simp;omega
     simp only [c1,Ab,gQ,bz]
     cases hc:cnt n with
     |false=>simp
     |true=>
      simp only [uc,jc,hX,o4];simp only [jl]at hll ⊢;simp only [dB]at hs hll;have hap:=a.size_pos;rw [kM st.length (st.length+1) (by rw [gg (by omega) (by omega)];omega) (by omega) (by omega) (by rw [fm];exact kE _)];have hd:(List.take (st.length+1) (pr (a::st))).drop st.length=[((dB st+a.size:Nat):Int)-1]:=by
       rw [yi (by rw [fm];exact kE _)];simp only [pr];rw [MG (by rw [fm];exact kE _),IV (by rw [fm];exact kE _),pM]
      rw [hd];simp only [bz,oZ];rw [oj (dB st+a.size-1) (by omega)];have hf:=HY a st [];rw [vW]at hf;simp only [Ui];rw [hf];simp only [bz];rw [oj 0 rfl];simp only [JA,bz];have hset:([(-1:Int),-1].set ((0:Nat):Int).toNat (((dB st+a.size:Nat):Int)-1))=[((dB st+a.size:Nat):Int)-1,-1]:=rfl;rw [hset];by_cases hL:n.L=((dB st+a.size:Nat):Int)-1/\n.R= -1
      ·have V:(n.L==((dB st+a.size:Nat):Int)-1&&n.R== -1)=true:=by simp [hL]
       rw [bM V,bB (by rw [hL.1,hL.2];simp)];rw [bZ (by simp only [jl,yg,nY,xU,zJ];omega)];simp only [bz];rw [kM (i:=0) 0 st.length rfl (by rw [fm,gg (by simp<;>omega) (by simp<;>omega)];simp) (mT _) (by rw [fm];simp)];have D:(List.take st.length (pr (a::st))).drop 0=pr st:=by
        simp only [pr,yf];rw [GM (by rw [fm];exact kE _),yi (by rw [fm];exact kE _)]
       rw [D];simp only [bz];rw [bZ (by simp only [jl,yg,fm];omega)];simp only [bz];have W:=ih (.un (mN n (-1) (-1)) a::st) (by simp [dB,Tr.size];omega);simp only [dB,Tr.size,Ui,fl,pr]at W;rw [show(((dB st+(a.size+1):Nat):Int)-1)=((dB st+a.size:Nat):Int)from by omega]at W;have hm:min ((dB (a::st):Nat):Int) (dB st:Int)=(dB st:Int):=by simp only [dB];omega
       rw [hm];simp only [jR]at W ⊢;exact W
      ·have V:(n.L==((dB st+a.size:Nat):Int)-1&&n.R== -1)=false:=by
        rw [IU];intro h;apply hL;simpa using h
       rw [V];rw [bM (by
        simp only [Cn,Rq];intro h;have H:((dB st+a.size:Nat):Int)-1=n.L:=by injection h
        have W:(-1:Int)=n.R:=by injection h with _ h;injection h
        exact hL ⟨H.symm,W.symm⟩)]
       simp
   ·-- two
    cases st with
    |nil=>simp
    |cons b st=>
     cases st with
     |nil=>simp
     |cons a st=>
      simp only [];have c1:(decide (((2:Nat):Int)<0)||decide (((b::a::st).length:Int)<((2:Nat):Int)))=false:=by simp;omega
      simp only [c1,Ab,gQ,bz]
      cases hc:cnt n with
      |false=>simp
      |true=>
       simp only [uc,jc,hX,o4];simp only [jl]at hll ⊢;simp only [dB]at hs hll;have hap:=a.size_pos;have hbp:=b.size_pos;rw [kM st.length (st.length+1+1) (by rw [gg (by omega) (by omega)];omega) (by omega) (by omega) (by rw [fm];exact kE _)];have hd:(List.take (st.length+1+1) (pr (b::a::st))).drop st.length=[((dB st+a.size:Nat):Int)-1,((dB st+a.size+b.size:Nat):Int)-1]:=by
        rw [yi (by rw [fm];exact kE _)];simp only [pr,dB,jR];rw [MG (by rw [fm];exact kE _),IV (by rw [fm];exact kE _),pM];rfl
       rw [hd];simp only [bz,oZ];simp only [Ui,dB];rw [oj (dB st+a.size-1) (by omega)];rw [HY a st (fl b (dB st+a.size))];simp only [bz];rw [oj 0 rfl];simp only [JA,bz];have hset:([(-1:Int),-1].set ((0:Nat):Int).toNat (((dB st+a.size:Nat):Int)-1))=[((dB st+a.size:Nat):Int)-1,-1]:=rfl;rw [hset];rw [oj (dB st+a.size+b.size-1) (by omega)];have hf:=HY b (a::st) [];rw [vW]at hf;simp only [Ui,dB]at hf;rw [hf];simp only [bz];rw [oj (0+1) rfl];simp only [List.getElem?_cons_succ,JA,bz];have hset2:([((dB st+a.size:Nat):Int)-1,-1].set ((0+1:Nat):Int).toNat (((dB st+a.size+b.size:Nat):Int)-1))=[((dB st+a.size:Nat):Int)-1,((dB st+a.size+b.size:Nat):Int)-1]:=rfl;rw [hset2];by_cases hL:n.L=((dB st+a.size:Nat):Int)-1/\n.R=((dB st+a.size+b.size:Nat):Int)-1
       ·have V:(n.L==((dB st+a.size:Nat):Int)-1&&n.R==((dB st+a.size+b.size:Nat):Int)-1)=true:=by rw [hL.1,hL.2];simp
        rw [bM V,bB (by rw [hL.1,hL.2];simp)];rw [bZ (by simp only [jl,yg,nY,xU,zJ];omega)];simp only [bz];rw [kM (i:=0) 0 st.length rfl (by rw [fm,gg (by simp;omega) (by simp;omega)];simp;omega) (mT _) (by rw [fm];simp;omega)];have D:(List.take st.length (pr (b::a::st))).drop 0=pr st:=by
         simp only [pr,yf,jR];rw [GM (by rw [fm];exact kE _),yi (by rw [fm];exact kE _)]
        rw [D];simp only [bz];rw [bZ (by simp only [jl,yg,fm];omega)];simp only [bz];have W:=ih (.bi (mN n (-1) (-1)) a b::st) (by simp [dB,Tr.size];omega);simp only [dB,Tr.size,Ui,fl,pr]at W;rw [show(((dB st+(a.size+b.size+1):Nat):Int)-1)=((dB st+a.size+b.size:Nat):Int)from by omega,show dB st+(a.size+b.size+1)=dB st+a.size+b.size+1 from by omega]at W;have hm:min (min (((dB st+a.size+b.size:Nat)):Int) (dB st:Int)) ((dB st+a.size:Nat):Int)=(dB st:Int):=by omega
        rw [hm];simp only [jR]at W ⊢;exact W
       ·have V:(n.L==((dB st+a.size:Nat):Int)-1&&n.R==((dB st+a.size+b.size:Nat):Int)-1)=false:=by
         rw [IU];intro h;apply hL;simpa using h
        rw [V];rw [bM (by
         simp only [Cn,Rq];intro h;have H:((dB st+a.size:Nat):Int)-1=n.L:=by injection h
         have W:((dB st+a.size+b.size:Nat):Int)-1=n.R:=by injection h with _ h;injection h
         exact hL ⟨H.symm,W.symm⟩)]
        simp
def qL{n:Nat}(h:n<=1000000):n<=de:=by unfold de;omega
def pt(ns:List bw):Bool:=(uO ns).isSome
def NJ{st:List Tr}(h:tJ ns []=some st):dB st=ns.length:=by
 have:=(C2 h (fun t D=>by cases D)).1;rw [<-Km,this];simp [Ah]
def CB(e:bQ)(h:e.i'.length<=100000):xe e=some (if pt e.i' then 0 else 200):=by
 unfold xe Bk pt uO;have:=Uj e.i' [] (by simpa [dB] using h);simp only [dB,Ui,pr]at this;rw [this]
 cases hp:tJ e.i' []with
 |none=>rfl
 |some st=>
  have hsz:=NJ hp
  match st,hsz with
  |[],_=>rfl
  |[t],hsz=>
   simp only [bz,hsz];by_cases hl:e.i'.length<=1000<;>simp [hl]
  |t::t2::st,_=>simp
def XZ(t:Tr):t.wf-> ∀(P R N:List bw) (fu:Nat),N=P++t.flat P.length++R->t.size<=fu->N.length<=100000->jY fu ⟨N⟩ (((P.length+t.size:Nat):Int)-1)=some (t.size:Int):=by
 induction t with
 |lf n=>
  intro⟨H,W,h3,h4⟩ P R N fu hN hf hl;have hNl:=congrArg List.length hN;simp only [nY,Tr.flat_len]at hNl;simp only [Tr.size]at hf hNl ⊢;obtain⟨fu,rfl⟩: ∃k,fu=k+1:=⟨fu-1,by omega⟩;unfold jY;have K:N[P.length]? =some (mN n (-1) (-1)):=by
   rw [hN,jR,Ap (kE _),Aa];rfl
  rw [bB (by simp;omega),oj P.length (by omega),K];have e1:(mN n (-1) (-1)).Tag=n.Tag:=rfl;simp only [bz];rw [e1,ly];have e:BK n.Tag=0:=by unfold BK;rw [H];rfl
  simp only [e,bz,lS];have e2:cnt (mN n (-1) (-1))=true:=W;rw [e2];simp [mN]
 |un n a ih=>
  intro⟨⟨H,W,h3,h4⟩,ha⟩ P R N fu hN hf hl;obtain⟨m,hm⟩: ∃m,m=mN n (((P.length+a.size:Nat):Int)-1) (-1):=⟨_,rfl⟩;have hNl:=congrArg List.length hN;simp only [nY,Tr.flat_len]at hNl;simp only [Tr.size]at hf hNl ⊢;simp only [Tr.flat,<-hm]at hN;obtain⟨fu,rfl⟩: ∃k,fu=k+1:=⟨fu-1,by omega⟩;have hpos:=a.size_pos;have hi:=ih ha P ([m]++R) N fu (by rw [hN];simp only [jR]) (by omega) hl;unfold jY;have K:N[P.length+a.size]? =some m:=by
   rw [hN,jR,jR,<-jR P,Ap (by simp [a.flat_len])];simp [a.flat_len]
  rw [bB (by simp;omega),oj (P.length+a.size) (by omega),K];simp only [bz];have e1:m.Tag=n.Tag:=by rw [hm];rfl
  rw [e1,ly];have e:BK n.Tag=1:=by unfold BK;rw [H];rfl
  simp only [e,bz,lS];have e2:cnt m=true:=by rw [hm];exact W
  have eL:m.L=((P.length+a.size:Nat):Int)-1:=by rw [hm];rfl
  have eR:m.R= -1:=by rw [hm];rfl
  rw [gg (n:=((P.length+(a.size+1):Nat):Int)-1-1) (by omega) (by omega),show(((P.length+(a.size+1):Nat):Int)-1-1)=(((P.length+a.size:Nat):Int)-1)from by omega];rw [hi];simp only [bz];rw [gg (n:=(a.size:Int)+1) (by omega) (by omega)];have n1: ¬a.size=0:=by omega
  simp [e2,eL,eR,n1]
 |bi n a b iha ihb=>
  intro⟨⟨H,W,h3,h4⟩,ha,V⟩ P R N fu hN hf hl;obtain⟨m,hm⟩: ∃m,m=mN n (((P.length+a.size:Nat):Int)-1) (((P.length+a.size+b.size:Nat):Int)-1):=⟨_,rfl⟩;have hNl:=congrArg List.length hN;simp only [nY,Tr.flat_len]at hNl;simp only [Tr.size]at hf hNl ⊢;simp only [Tr.flat,<-hm]at hN;obtain⟨fu,rfl⟩: ∃k,fu=k+1:=⟨fu-1,by omega⟩;have hap:=a.size_pos;have hbp:=b.size_pos;have hi1:=iha ha P (b.flat (P.length+a.size)++[m]++R) N fu (by rw [hN];simp only [jR]) (by omega) hl;have hi2:=ihb V (P++a.flat P.length) ([m]++R) N fu (by rw [hN];simp only [jR,nY,a.flat_len]) (by omega) hl;rw [nY,a.flat_len]at hi2;unfold jY;have K:N[P.length+a.size+b.size]? =some m:=by
   rw [hN,jR,jR,<-jR P,Ap (by simp [a.flat_len,b.flat_len];omega)];have:P.length+a.size+b.size-(P++(a.flat P.length++b.flat (P.length+a.size))).length=0:=by simp [a.flat_len,b.flat_len];omega
   rw [this];rfl
  rw [bB (by simp;omega),oj (P.length+a.size+b.size) (by omega),K];simp only [bz];have e1:m.Tag=n.Tag:=by rw [hm];rfl
  rw [e1,ly];have e:BK n.Tag=2:=by unfold BK;rw [H];rfl
  simp only [e,bz,lS];have e2:cnt m=true:=by rw [hm];exact W
  have eL:m.L=((P.length+a.size:Nat):Int)-1:=by rw [hm];rfl
  have eR:m.R=((P.length+a.size+b.size:Nat):Int)-1:=by rw [hm];rfl
  rw [gg (n:=((P.length+(a.size+b.size+1):Nat):Int)-1-1) (by omega) (by omega),show(((P.length+(a.size+b.size+1):Nat):Int)-1-1)=(((P.length+a.size+b.size:Nat):Int)-1)from by omega];rw [hi2];simp only [bz];rw [gg (n:=((P.length+a.size+b.size:Nat):Int)-1-(b.size:Int)) (by omega) (by omega),show((P.length+a.size+b.size:Nat):Int)-1-(b.size:Int)=((P.length+a.size:Nat):Int)-1 from by omega];rw [hi1];simp only [bz];rw [gg (n:=(a.size:Int)+(b.size:Int)) (by omega) (by omega),gg (n:=(a.size:Int)+(b.size:Int)+1) (by omega) (by omega)];have n1: ¬a.size=0:=by omega
  have n2: ¬b.size=0:=by omega
  have e5:(P.length:Int)+(a.size:Int)+(b.size:Int)-1-(b.size:Int)=(P.length:Int)+(a.size:Int)-1:=by omega
  simp [e2,eL,eR,n1,n2,e5]
def X0(N:List bw)(hN:N.length<=100000): ∀(fu q:Nat),q<=N.length->q<fu-> ∃k:Nat,jY fu ⟨N⟩ ((q:Int)-1)=some (k:Int)/\(k=0\/ ∃(t:Tr) (P R:List bw),t.wf/\t.size=k/\N=P++t.flat P.length++R/\P.length+k=q):=by
 intro fu
 induction fu with
 |zero=>intro q _ h;omega
 |succ fu ih=>
  intro q hq hf;unfold jY;by_cases h0:q=0
  ·subst h0;exact⟨0,by rw [bM (by simp)];rfl,.inl rfl⟩
  rw [bB (by simp;omega),oj (q-1) (by omega)];have hlt:q-1<N.length:=by omega
  rw [vp hlt];obtain⟨n,hn⟩: ∃n,n=N[q-1]:=⟨_,rfl⟩;rw [<-hn];have hd:N=N.take (q-1)++([n]++N.drop q):=by
   have H:=vX (q-1) N;rw [Ce hlt,<-hn,show q-1+1=q from by omega]at H;exact H.symm
  simp only [bz,ly,lS]
  cases hk:pk n.Tag with
  |none=>
   have e:BK n.Tag= -1:=by unfold BK;rw [hk]
   exact⟨0,by simp [e],.inl rfl⟩
  |some k=>
   have e:BK n.Tag=(k:Int):=by unfold BK;rw [hk]
   have hk3:k=0\/k=1\/k=2:=by
    unfold pk at hk;repeat' split at hk
    all_goals simp at hk
    all_goals omega
   cases hc:cnt n with
   |false=>exact⟨0,by simp [e,hc],.inl rfl⟩
   |true=>
    rcases hk3 with rfl|rfl|rfl
    ·rw [e];by_cases hL:n.L= -1/\n.R= -1
     ·refine⟨1,by simp [hL],.inr ⟨.lf (mN n (-1) (-1)),N.take (q-1),N.drop q,⟨hk,hc,rfl,rfl⟩,rfl,?_,by simp;omega⟩⟩;simp only [Tr.flat];rw [BI hL.1 hL.2,jR];exact hd
     ·refine⟨0,?_,.inl rfl⟩;have:(n.L != -1||n.R != -1)=true:=by
       rw [CK,Ay,Ay];by_cases hl:n.L= -1
       ·exact .inr fun h=>hL ⟨hl,h⟩
       ·exact .inl hl
      simp [this]
    ·rw [e,gg (by omega) (by omega)];have e9:(((q-1:Nat):Int)-1)=(q:Int)-1-1:=by omega
     obtain⟨r2,W,h2'⟩:=ih (q-1) (by omega) (by omega);rw [e9]at W;rw [W];rcases h2' with rfl|⟨t,P,R,hw,hs,hN2,hl⟩
     ·exact⟨0,by simp,.inl rfl⟩
     ·have hp:=t.size_pos;by_cases hL:n.L=(q:Int)-1-1/\n.R= -1
      ·refine⟨r2+1,?_,.inr ⟨.un (mN n (-1) (-1)) t,P,N.drop q,⟨⟨hk,hc,rfl,rfl⟩,hw⟩,by simp only [Tr.size];omega,?_,by omega⟩⟩
       ·simp only [bz];rw [gg (n:=(r2:Int)+1) (by omega) (by omega)];have: ¬(r2=0):=by omega
        simp [hL,this]
       ·simp only [Tr.flat];rw [BI (by rw [hL.1];omega) hL.2];have D:N.take (q-1)=P++t.flat P.length:=by
         rw [hN2,GM (by simp [t.flat_len];omega),yi (by simp [t.flat_len];omega)]
        rw [D]at hd;simpa only [jR] using hd
      ·refine⟨0,?_,.inl rfl⟩;have:(n.L !=(q:Int)-1-1||n.R != -1)=true:=by
        rw [CK,Ay,Ay];by_cases hl:n.L=(q:Int)-1-1
        ·exact .inr fun h=>hL ⟨hl,h⟩
        ·exact .inl hl
       simp [this]
    ·rw [e,gg (n:=(q:Int)-1-1) (by omega) (by omega)];have e9:(((q-1:Nat):Int)-1)=(q:Int)-1-1:=by omega
     obtain⟨r2,W,h2'⟩:=ih (q-1) (by omega) (by omega);rw [e9]at W;rw [W];rcases h2' with rfl|⟨t,P,R,hw,hs,hN2,hl⟩
     ·exact⟨0,by simp,.inl rfl⟩
     ·have hp:=t.size_pos;simp only [bz];rw [gg (n:=(q:Int)-1-1-(r2:Int)) (by omega) (by omega)];have e8:(((q-1-r2:Nat):Int)-1)=(q:Int)-1-1-(r2:Int):=by omega
      have n2: ¬(r2=0):=by omega
      obtain⟨r3,h3,h3'⟩:=ih (q-1-r2) (by omega) (by omega);rw [e8]at h3;rw [h3];rcases h3' with rfl|⟨t3,P3,R3,hw3,hs3,hN3,hl3⟩
      ·exact⟨0,by simp,.inl rfl⟩
      ·have hp3:=t3.size_pos;have n3: ¬(r3=0):=by omega
       by_cases hL:n.R=(q:Int)-1-1/\n.L=(q:Int)-1-1-(r2:Int)
       ·refine⟨r3+r2+1,?_,.inr ⟨.bi (mN n (-1) (-1)) t3 t,P3,N.drop q,⟨⟨hk,hc,rfl,rfl⟩,hw3,hw⟩,by simp only [Tr.size];omega,?_,by omega⟩⟩
        ·simp only [bz];rw [gg (n:=(r3:Int)+(r2:Int)) (by omega) (by omega),gg (n:=(r3:Int)+(r2:Int)+1) (by omega) (by omega)];simp [hL,n2,n3]
        ·simp only [Tr.flat];rw [BI (by rw [hL.2];omega) (by rw [hL.1];omega)];have D:N.take (q-1)=P++t.flat P.length:=by
          rw [hN2,GM (by simp [t.flat_len];omega),yi (by simp [t.flat_len];omega)]
         have hP:P=N.take P.length:=by
          conv=>rhs;rw [hN2,jR,GM (kE _),yi (kE _)]
         have hP3:P=P3++t3.flat P3.length:=by
          rw [hP];have:P.length=P3.length+t3.size:=by omega
          conv=>lhs;rw [this,hN3]
          rw [GM (by simp [t3.flat_len]),yi (by simp [t3.flat_len])]
         have hPl:P.length=P3.length+t3.size:=by omega
         rw [D,hPl]at hd;rw [hP3]at hd;simpa only [jR] using hd
       ·clear ih hN2 hN3;refine⟨0,?_,.inl rfl⟩;have:(n.R !=(q:Int)-1-1||n.L !=(q:Int)-1-1-(r2:Int))=true:=by
         rw [CK,Ay,Ay];by_cases hl:n.R=(q:Int)-1-1
         ·exact .inr fun h=>hL ⟨hl,h⟩
         ·exact .inl hl
        have h' :=this;rw [CK,Ay,Ay]at h';simp [n2,n3];intro H W;exact absurd W (by rcases h' with h' |h';exact absurd H h';exact h')
def Hz(e:bQ):xE e=some (pt e.i'):=by
 unfold xE pt;by_cases h:1<=e.i'.length/\e.i'.length<=1000
 ·rw [bM (by simp;omega),gg (by omega) (by omega)];unfold C1;obtain⟨k,H,W⟩:=X0 e.i' (by omega) de e.i'.length (kE _) (Ax (EL _) (qL (by omega)));have h1' :jY de e ((e.i'.length:Int)-1)=some (k:Int):=H;rw [h1'];simp only [bz];congr 1;rw [tY];constructor
  ·intro hk;have hk' :k=e.i'.length:=by have:=eq_of_beq hk;omega
   rcases W with rfl|⟨t,P,R,hw,hs,hN,hl⟩
   ·omega
   ·have hP:P=[]:=vM (by omega);subst hP;have hR:R=[]:=by
     have:=congrArg List.length hN;simp [t.flat_len]at this;exact vM (by omega)
    subst hR;have hN' :e.i'=t.flat 0:=by simpa using hN
    rw [hN',M1 hw (by omega)];rfl
  ·intro hi
   cases D:uO e.i' with
   |none=>rw [D]at hi;cases hi
   |some t=>
    obtain⟨hw,hN,hs⟩:=o6 D;have hlen:e.i'.length=t.size:=by rw [hN,t.flat_len]
    have h3:=XZ t hw [] [] e.i' de (by simpa using hN) (qL (by omega)) (by omega);simp only [yg,yA]at h3;rw [<-hlen]at h3;have h4:some (k:Int)=some (e.i'.length:Int):=H.symm.trans h3;simpa using h4
 ·rw [bB (by simp;omega)];simp only [bz];congr 1
  symm
  rw [IU];intro hi
  cases D:uO e.i' with
  |none=>rw [D]at hi;cases hi
  |some t=>
   obtain⟨hw,hN,hs⟩:=o6 D;have hlen:e.i'.length=t.size:=by rw [hN,t.flat_len]
   have:=t.size_pos;omega
def PI(h:pt ns=true):1<=ns.length/\ns.length<=1000:=by
 unfold pt at h
 cases D:uO ns with
 |none=>rw [D]at h;cases h
 |some t=>
  obtain⟨hw,hN,hs⟩:=o6 D;have hlen:ns.length=t.size:=by rw [hN,t.flat_len]
  have:=t.size_pos;omega
