/- cT of this claim: K1, K6, K2, K3, K4, L1, L2. -/
import Derived.Test.YtdohlidddcgfjaaGreatFaF
import Derived.KernelRfl
import Derived.Test.YtdohlidddcgfjaaGreatFaV3
set_option linter.all false
namespace Go.Proofs.YtdohlidddcgfjaaGreat
open Go

abbrev KV:=List aF
variable{α:Type}{xs:List α}
theorem bH{ys:List α}(h:xs.length+ys.length≤68719476736):gn xs ys=some (xs++ys):=bq h
def jJ(v:aF):Bool:=(kJ v).getD false
theorem r0(v:aF):kJ v=some (jJ v):=by
 unfold jJ kJ
 repeat' split
 all_goals rfl
variable{n:bC}
theorem rP(v:aF):pb v=some (if jJ v then 0 else 120):=by
 obtain⟨k,n,u,s⟩:=v
 unfold jJ kJ pb vn
 simp only [jX,pw,pu,pt]
 by_cases h0:k=0
 ·subst h0;simp
  repeat' split
  all_goals simp_all
 by_cases h1:k=1
 ·subst h1
  by_cases n0:n=0
  ·subst n0;simp
   repeat' split
   all_goals simp_all
  by_cases n1:n=1
  ·subst n1;simp
   repeat' split
   all_goals simp_all
  simp [n0,n1]
 by_cases h2:k=2
 ·subst h2;simp
  repeat' split
  all_goals simp_all
 by_cases h3:k=3
 ·subst h3;simp
  repeat' split
  all_goals simp_all
 by_cases h4:k=4
 ·subst h4;simp
  repeat' split
  all_goals simp_all
 simp [h0,h1,h2,h3,h4]
def rX(r:KV):Bool:=decide (r.length≤16)&&r.all jJ
theorem Be(v:aF):qP v=some (!jJ v):=by
 unfold qP
 rw [rP]
 cases jJ v<;>rfl
theorem zA{f:aF→Option Bool}{g:aF→Bool}(hf: ∀v,f v=some (g v))(l:KV):gk l f=some (l.any g):=by
 have key: ∀(l:KV) (i:Nat),(cZ f l i).bind (fun r=>some (decide ((0:Int)≤r)))=some (l.any g):=by
  intro l
  induction l with
  |nil=>intro i;simp [cZ]
  |cons e t ih=>intro i;simp only [cZ,hf,bj];cases h:g e<;>simp [ih,h]
 exact key l 0
theorem DX(r:KV):wj r=some (rX r):=by
 unfold wj rX
 rw [zA (g:=fun v=> !jJ v) Be]
 by_cases h:r.length≤16
 ·rw [bq (by simp;omega)]
  simp [h,List.all_eq_not_any_not]
 ·rw [aW (by simp;omega)]
  simp [h]
theorem Bl(r:KV):sN r=some (rX r):=by
 have key: ∀l:KV,nD l=some (l.all jJ):=by
  intro l
  induction l with
  |nil=>rfl
  |cons e t ih=>simp only [nD,r0,bj];cases h:jJ e<;>simp [ih,h]
 unfold sN rX
 rw [key]
 by_cases h:r.length≤16
 ·rw [aW (by simp;omega)]
  simp [h]
 ·rw [bq (by simp;omega)]
  simp [h]
theorem DZ(r:KV):wk r=some (if rX r then 0 else 150):=by
 unfold wk
 rw [DX]
 cases rX r<;>rfl
variable{a:Nat}
theorem DY(a b:KV):tG a b=some (decide (a=b)):=by
 unfold tG d7
 by_cases hl:a.length=b.length
 ·rw [aW (by simp [hl])]
  have key: ∀(l:KV) (i:Nat),a.drop i=l→dE b l i=some (decide (l=b.drop i)):=by
   intro l
   induction l with
   |nil=>
    intro i h1
    have h3:a.length≤i:=ub.1 h1
    rw [yU (by omega)];rfl
   |cons x t ih=>
    intro i h1
    have hi:i<a.length:=by
     rcases oZ i a.length with h|h
     ·exact h
     ·rw [yU h]at h1;cases h1
    have ht:=ih (i+1) (by rw [←t6,h1];rfl)
    simp only [dE]
    rw [dJ,kW (by omega),xf (by omega:i<b.length)]
    simp only [bj,ht]
    by_cases hx:x=b[i]
    ·rw [aW (by simp [hx])]
     exact congrArg some (xJ.2 ⟨fun h=>by rw [hx,h],fun h=>(z7 h).2⟩)
    ·rw [bq (by simp [hx])]
     exact congrArg some (xe (fun h=>hx (z7 h).1)).symm
  have:=key a 0 rfl
  rw [this];simp
 ·rw [bq (by simp;omega)]
  have:a≠b:=fun e=>hl (by rw [e])
  simp [this]
theorem FD(p q:List KV):yd p q=some (decide (p=q)):=by
 unfold yd cm
 by_cases hl:p.length=q.length
 ·rw [aW (by simp [hl])]
  have key: ∀(l:List KV) (i:Nat),p.drop i=l→bW q tG l i=some (decide (l=q.drop i)):=by
   intro l
   induction l with
   |nil=>
    intro i h1
    have h3:p.length≤i:=ub.1 h1
    rw [yU (by omega)];rfl
   |cons x t ih=>
    intro i h1
    have hi:i<p.length:=by
     rcases oZ i p.length with h|h
     ·exact h
     ·rw [yU h]at h1;cases h1
    have ht:=ih (i+1) (by rw [←t6,h1];rfl)
    simp only [bW]
    rw [dJ,kW (by omega),xf (by omega:i<q.length)]
    simp only [bj,ht,DY]
    by_cases hx:x=q[i]
    ·rw [aW (by simp [hx])]
     exact congrArg some (xJ.2 ⟨fun h=>by rw [hx,h],fun h=>(z7 h).2⟩)
    ·rw [bq (by simp [hx])]
     exact congrArg some (xe (fun h=>hx (z7 h).1)).symm
  have:=key p 0 rfl
  rw [this];simp
 ·rw [bq (by simp;omega)]
  have:p≠q:=fun e=>hl (by rw [e])
  simp [this]

def nb(r:Nat):Nat:=if r%2=1 then(r/2)^^^2197175160 else r/2
def Ny(r:Nat):Nat:=nb (nb (nb (nb (nb (nb (nb (nb r)))))))
theorem Fb(a b:Nat):(a^^^b)/2=(a/2)^^^(b/2):=by
 have:=Nat.xor_div_two_pow (a:=a) (b:=b) (n:=1)
 simpa using this
theorem Fa(a b:Nat):(a^^^b)%2=(a%2+b%2)%2:=by
 have h:=Nat.xor_mod_two_pow (a:=a) (b:=b) (n:=1)
 rw [Nat.pow_one]at h
 rw [h]
 rcases Nat.mod_two_eq_zero_or_one a with h1|h1<;>rcases Nat.mod_two_eq_zero_or_one b with h2|h2<;>rw [h1,h2]<;>rfl
theorem rA(a b:Nat):nb (a^^^2*b)=nb a^^^b:=by
 unfold nb
 rw [Fa,Fb]
 have h1:2*b/2=b:=by omega
 have h2:(a%2+2*b%2)%2=a%2:=by omega
 rw [h1,h2]
 by_cases h:a%2=1
 ·rw [bq h,bq h,Nat.xor_assoc,Nat.xor_assoc,Nat.xor_comm b]
 ·rw [aW h,aW h]
theorem Qx(a c:Nat):nb (a^^^c)=nb (a^^^(c%2))^^^(c/2):=by
 have:a^^^c=(a^^^(c%2))^^^2*(c/2):=by
  rw [Nat.xor_assoc]
  congr 1
  apply Nat.eq_of_testBit_eq
  intro i
  rw [Nat.testBit_xor]
  cases i with
  |zero=>simp [Nat.testBit_zero]
  |succ i=>simp [Nat.testBit_succ]
 rw [this,rA]
theorem LJ(a b:Nat):Ny (a^^^256*b)=Ny a^^^b:=by
 unfold Ny
 rw [show 256*b=2*(128*b) by omega,rA,show 128*b=2*(64*b) by omega,rA,show 64*b=2*(32*b) by omega,rA,show 32*b=2*(16*b) by omega,rA,
  show 16*b=2*(8*b) by omega,rA,show 8*b=2*(4*b) by omega,rA,show 4*b=2*(2*b) by omega,rA,rA]
theorem Jx(x:Nat):x=(x%256)^^^256*(x/256):=by
 apply Nat.eq_of_testBit_eq
 intro i
 rw [Nat.testBit_xor,show(256:Nat)=2^8 from rfl,Nat.testBit_mod_two_pow,Nat.testBit_two_pow_mul,Nat.testBit_div_two_pow]
 by_cases h:i<8
 ·simp [h,show¬8≤i by omega]
 ·simp [h,show 8≤i by omega,show 8+(i-8)=i by omega]
theorem LK(x:Nat):Ny x=Ny (x%256)^^^(x/256):=by
 conv=>lhs;rw [Jx x,LJ]
theorem xU{b:Nat}(ha:a<4294967296)(hb:b<4294967296):a^^^b<4294967296:=Nat.xor_lt_two_pow (n:=32) ha hb
theorem yo(ha:a<4294967296):nb a<4294967296:=by
 unfold nb
 split
 ·exact xU (by omega) (by omega)
 ·omega
theorem LI(ha:a<4294967296):Ny a<4294967296:=yo (yo (yo (yo (yo (yo (yo (yo ha)))))))
theorem La(n:Nat)(h:n<4294967296):IntKind.u32.wrap (n:Int)=(n:Int):=by rw [IntKind.wrap_u32];omega
theorem K9(a b:Nat)(ha:a<4294967296)(hb:b<4294967296):oB .xor .u32 (a:Int) (b:Int)=((a^^^b:Nat):Int):=by
 show IntKind.u32.wrap ((BitVec.ofInt 32 (a:Int)^^^BitVec.ofInt 32 (b:Int)).toNat:Int)=_
 rw [show(BitVec.ofInt 32 (a:Int)^^^BitVec.ofInt 32 (b:Int)).toNat=a^^^b by
  rw [BitVec.toNat_xor,BitVec.toNat_ofInt,BitVec.toNat_ofInt]
  congr 1<;>omega]
 exact La _ (xU ha hb)
theorem UL(a b:Nat)(ha:a<256)(hb:b<256):oB .xor .u8 (a:Int) (b:Int)=((a^^^b:Nat):Int):=by
 show IntKind.u8.wrap ((BitVec.ofInt 8 (a:Int)^^^BitVec.ofInt 8 (b:Int)).toNat:Int)=_
 rw [show(BitVec.ofInt 8 (a:Int)^^^BitVec.ofInt 8 (b:Int)).toNat=a^^^b by
  rw [BitVec.toNat_xor,BitVec.toNat_ofInt,BitVec.toNat_ofInt]
  congr 1<;>omega]
 have:=Nat.xor_lt_two_pow (n:=8) ha hb
 rw [Cf];omega
theorem D8(r c:Nat)(hr:r<4294967296):wn (r:Int) (((c:Int).tmod 2)==1)=some ((nb (r^^^(c%2)):Nat):Int):=by
 unfold wn rx
 have e1:((r:Int).tmod 2==1)=decide (r%2=1):=by
  rw [show(r:Int).tmod 2=((r%2:Nat):Int)from rfl]
  rw [pX];simp only [ss,rl];omega
 have e2:((c:Int).tmod 2==1)=decide (c%2=1):=by
  rw [show(c:Int).tmod 2=((c%2:Nat):Int)from rfl]
  rw [pX];simp only [ss,rl];omega
 rw [e1,e2,show(r:Int).tdiv 2=((r/2:Nat):Int)from rfl,La _ (by omega),show(2197175160:Int)=((2197175160:Nat):Int)from rfl,K9 _ _ (by omega) (by omega)]
 unfold nb
 rw [Fa,Fb,show c%2/2=0 by omega,Nat.xor_zero,show c%2%2=c%2 by omega]
 by_cases h1:r%2=1<;>by_cases h2:c%2=1
 ·simp [h1,h2]
 ·simp [h1,show c%2=0 by omega]
 ·simp [h2,show r%2=0 by omega]
 ·simp [show c%2=0 by omega,show r%2=0 by omega]
theorem zM(nx:Int→Option Int): ∀(k r c:Nat),r<4294967296→c<2^k→k≤8→lz nx k (r:Int) (c:Int)=nx ((Nat.rec (motive:=fun _=>Nat) (r^^^c) (fun _ x=>nb x) k:Nat):Int)
 |0,r,c,_,hc,_=>by
  have:c=0:=by omega
  subst this
  unfold lz
  rw [Nat.xor_zero]
  rfl
 |k+1,r,c,hr,hc,hk=>by
  unfold lz
  have hp:(2:Nat)^k≤2^7:=Nat.pow_le_pow_right (by omega) (by omega)
  have hc2:c/2<2^k:=by rw [Nat.pow_succ]at hc;omega
  rw [D8 r c hr,bj,show(c:Int).tdiv 2=((c/2:Nat):Int)from rfl,show IntKind.u8.wrap ((c/2:Nat):Int)=((c/2:Nat):Int) by rw [Cf];omega]
  rw [zM nx k _ _ (yo (xU hr (by omega))) hc2 (by omega),←Qx]
  congr 2
  clear hr hc hk hp hc2
  induction k with
  |zero=>rfl
  |succ k ih=>show nb _=nb _;rw [ih]
def BS(r c:Nat):Nat:=Ny (r^^^c)
theorem GF{r c:Nat}(hr:r<4294967296)(hc:c<256):BS r c<4294967296:=LI (xU hr (by omega))
def xF(b:List Int):Prop:= ∀x∈b,∃c:Nat,c<256∧x=(c:Int)
theorem zN: ∀(b:List Int) (r:Nat),r<4294967296→xF b→ ∃s:Nat,s<4294967296∧s=b.foldl (fun r x=>BS r x.toNat) r∧kb b (r:Int)=some (((4294967295-s:Nat)):Int)
 |[],r,hr,_=>⟨r,hr,rfl,by unfold kb;rw [IntKind.wrap_u32];congr 1;omega⟩
 |x::b,r,hr,hb=>by
  obtain⟨c,hc,rfl⟩:=hb _ (nf ..)
  obtain⟨s,h1,h2,h3⟩:=zN b (BS r c) (GF hr hc) (fun y hy=>hb y (oO _ hy))
  refine⟨s,h1,h2,?_⟩
  unfold kb
  rw [zM _ 8 r c hr (by omega) (eE _)]
  exact h3
def uP:List Int:=(List.range 256).map fun i=>(Ny i:Int)
theorem Lp:y5=some uP:=by kernel_rfl
theorem JG(i:Nat)(h:i<256):gj uP (i:Int)=some (Ny i:Int):=by
 rw [dJ]
 unfold uP
 rw [List.getElem?_map,List.getElem?_range h]
 rfl
theorem Nf(r c:Nat)(hr:r<4294967296)(hc:c<256):sC (r:Int) uP (c:Int)=some (BS r c:Int):=by
 unfold sC
 have hx:(r%256)^^^c<256:=Nat.xor_lt_two_pow (n:=8) (by omega) hc
 rw [show IntKind.u8.wrap (r:Int)=((r%256:Nat):Int) by rw [Cf];omega,UL _ _ (by omega) hc,JG _ hx,bj]
 rw [show((r:Int).fdiv (2^(min (Int.toNat (8:Int)) IntKind.u32.bits)))=((r/256:Nat):Int) by
  show(r:Int).fdiv 256=_
  rw [Int.fdiv_eq_ediv_of_nonneg _ (by omega)];omega]
 rw [K9 _ _ (by omega) (LI (by omega))]
 unfold BS
 rw [LK (r^^^c)]
 rw [show(r^^^c)%256=(r%256)^^^c by
  have:=Nat.xor_mod_two_pow (a:=r) (b:=c) (n:=8)
  rw [show(256:Nat)=2^8 from rfl,this,Nat.mod_eq_of_lt (a:=c) (by omega)]]
 rw [show(r^^^c)/256=r/256 by
  have:=Nat.xor_div_two_pow (a:=r) (b:=c) (n:=8)
  rw [show(256:Nat)=2^8 from rfl,this,Nat.div_eq_of_lt (a:=c) (by omega),Nat.xor_zero],Nat.xor_comm]
theorem CY: ∀(b:List Int) (r:Nat),r<4294967296→xF b→ ∃s:Nat,s<4294967296∧s=b.foldl (fun r x=>BS r x.toNat) r∧nZ uP b (r:Int)=some (((4294967295-s:Nat)):Int)
 |[],r,hr,_=>⟨r,hr,rfl,by
  unfold nZ
  rw [show(if IntKind.u32.signed then -1 else IntKind.u32.max)=((4294967295:Nat):Int)from rfl,K9 _ _ (by omega) hr]
  congr 2
  have h:=BitVec.allOnes_xor (x:=BitVec.ofNat 32 r)
  have h2:=congrArg BitVec.toNat h
  rw [BitVec.toNat_xor,BitVec.toNat_not,BitVec.toNat_allOnes,BitVec.toNat_ofNat,Nat.mod_eq_of_lt (a:=r) (by omega)]at h2
  exact h2⟩
 |x::b,r,hr,hb=>by
  obtain⟨c,hc,rfl⟩:=hb _ (nf ..)
  obtain⟨s,h1,h2,h3⟩:=CY b (BS r c) (GF hr hc) (fun y hy=>hb y (oO _ hy))
  refine⟨s,h1,h2,?_⟩
  unfold nZ
  rw [Nf r c hr hc,bj]
  exact h3
theorem JH(b:List Int)(hb:xF b): ∃n:Nat,n<4294967296∧wh b=some (n:Int)∧vD b=some (n:Int):=by
 obtain⟨s,_,h2,h3⟩:=CY b 4294967295 (by omega) hb
 obtain⟨s',_,h2',h3'⟩:=zN b 4294967295 (by omega) hb
 refine⟨_,by omega,?_,h3'⟩
 unfold wh
 rw [Lp,bj,h2',←h2]
 exact h3
theorem ii{a b:List Int}(ha:xF a)(hb:xF b):xF (a++b):=fun x hx=>(yS.1 hx).elim (ha x) (hb x)
theorem AH(n:Int):xF [IntKind.u8.wrap n]:=fun x hx=>by
 rw [Cj.1 hx]
 exact⟨(IntKind.u8.wrap n).toNat,by rw [Cf];omega,by rw [Cf];omega⟩
theorem Kx(s:Ky):xF (oV s):=fun x hx=>by
 obtain⟨b,_,rfl⟩:=AL.1 hx
 exact⟨b.toNat,UInt8.toNat_lt b,rfl⟩
def sl(n:Nat):Nat→List Int
 |0=>[]
 |k+1=>((n/256^k%256:Nat):Int)::sl n k
theorem BU(n:Nat): ∀k,(sl n k).length=k
 |0=>rfl
 |k+1=>by simp [sl,BU n k]

structure Cmp{α:Type}(f:α→α→Int):Prop where
 rng: ∀x y,f x y= -1∨f x y=0∨f x y=1
 anti: ∀x y,f y x= -f x y
 eq: ∀x y,f x y=0↔x=y
 trans: ∀x y z,f x y≤0→f y z≤0→f x z≤0
def key(v:aF):Int×Int×Int×Ky:=(v.Kind,v.N,v.U,v.S)

section
variable{f:α→α→Int}
def ltB(f:α→α→Int)(x y:α):Bool:=decide (f x y<0)
def Sy(f:α→α→Int)(l:List α):List α:=Px (ltB f) l
def put(f:α→α→Int)(x:α):List α→List α
 |[]=>[x]
 |y::l=>if f x y<0 then x::y::l else y::put f x l
end
def v7{α:Type} [DecidableEq α]:α→List α→List α
 |_,[]=>[]
 |p,x::t=>if x=p then v7 x t else x::v7 x t
theorem GD [DecidableEq α](p:α):v7 p []=[]:=by unfold v7;rfl
theorem Du [DecidableEq α]{p x:α}(h:x=p)(t:List α):v7 p (x::t)=v7 x t:=by
 conv=>lhs;unfold v7
 rw [bq h]
theorem Jb [DecidableEq α]{p x:α}(h: ¬x=p)(t:List α):v7 p (x::t)=x::v7 x t:=by
 conv=>lhs;unfold v7
 rw [aW h]
def Ja{α:Type} [DecidableEq α]:List α→List α
 |[]=>[]
 |x::t=>x::v7 x t
theorem BQ{α:Type} [DecidableEq α]: ∀(p:α) (l:List α) (z:α),z∈v7 p l→z∈l
 |p,x::t,z,h=>by
  unfold v7 at h
  split at h
  ·exact oO _ (BQ x t z h)
  ·rcases jW.1 h with rfl|h
   ·exact nf ..
   ·exact oO _ (BQ x t z h)
theorem Bv{α:Type} [DecidableEq α]: ∀(p:α) (l:List α) (z:α),z∈l→z=p∨z∈v7 p l
 |p,x::t,z,h=>by
  unfold v7
  by_cases hx:x=p
  ·rw [bq hx]
   rcases jW.1 h with rfl|h
   ·exact .inl hx
   ·rcases Bv x t z h with h|h
    ·exact .inl (h.trans hx)
    ·exact .inr h
  ·rw [aW hx]
   rcases jW.1 h with rfl|h
   ·exact .inr (nf ..)
   ·rcases Bv x t z h with h|h
    ·exact .inr (by rw [h];exact nf ..)
    ·exact .inr (oO _ h)
theorem J7 [DecidableEq α](l:List α)(z:α):z∈Ja l↔z∈l:=by
 cases l with
 |nil=>exact rO
 |cons x t=>
  constructor
  ·intro h
   rcases jW.1 h with rfl|h
   ·exact nf ..
   ·exact oO _ (BQ x t z h)
  ·intro h
   rcases jW.1 h with rfl|h
   ·exact nf ..
   ·rcases Bv x t z h with rfl|h
    ·exact nf ..
    ·exact oO _ h

structure Small(l:List KV):Prop where
 len:l.length≤8000
 row: ∀r∈l,r.length≤1000
theorem eC{n:Int}(h: -9223372036854775808≤n)(h2:n≤9223372036854775807):IntKind.i64.wrap n=n:=by rw [Ab];omega
theorem wi{l m:Nat}(h:l≤m)(h2:m≤xs.length):eP xs (l:Int) (m:Int)=some ((xs.take m).drop l):=by
 unfold eP
 rw [bq (by omega)]
 simp

theorem jS{i j:Int}(l m:Nat)(hi:i=(l:Int))(hj:j=(m:Int))(h:l≤m)(h2:m≤xs.length):eP xs i j=some ((xs.take m).drop l):=by
 subst hi hj;exact wi h h2
theorem lC{i:Int}(k:Nat)(hi:i=(k:Int)):gj xs i=xs[k]? :=by subst hi;exact dJ _ _
def vF(v:aF):Bool:=jJ v&&(v.Kind !=4)
theorem AU(v:aF):sy v=some (vF v):=by
 unfold sy vF
 rw [rP]
 cases jJ v<;>simp
theorem pD(v:aF):sO v=some (vF v):=by
 unfold sO vF
 rw [r0]
 rfl
theorem FQ{v:aF}(h:vF v=true):0≤v.Kind∧v.Kind≤3:=by
 obtain⟨k,n,u,s⟩:=v
 unfold vF jJ kJ at h
 simp only [gX,wW,ne_eq]at h
 obtain⟨h1,h2⟩:=h
 by_cases h0:k=0
 ·simp [h0]
 by_cases k1:k=1
 ·simp [k1]
 by_cases k2:k=2
 ·simp [k2]
 by_cases k3:k=3
 ·simp [k3]
 simp [h0,k1,k2,k3,h2]at h1
def pk(tag:Int):Option Nat:=if tag=1∨tag=2 then some 0 else if 4≤tag∧tag≤7 then some 1 else if 12≤tag∧tag≤23 then some 2 else none
def Ec(tag:Int):Int:=match pk tag with
 |some k=>(k:Int)
 |none=> -1
theorem w8(tag:Int):qr tag=some (Ec tag):=by
 unfold qr Ec pk
 by_cases h1:tag=1∨tag=2
 ·rw [bq h1,bq (by simpa using h1)];rfl
 rw [aW h1,aW (by simpa using h1)]
 by_cases h2:4≤tag∧tag≤7
 ·rw [bq h2,bq (by simpa using h2)];rfl
 rw [aW h2,aW (by simpa using h2)]
 by_cases h3:12≤tag∧tag≤23
 ·rw [bq h3,bq (by simpa using h3)];rfl
 rw [aW h3,aW (by simpa using h3)]
theorem pC(tag:Int):sL tag=some (Ec tag):=by
 unfold sL vA Ec pk
 by_cases h1:tag=1∨tag=2
 ·rw [bq h1];rcases h1 with rfl|rfl<;>rfl
 rw [aW h1]
 by_cases h2:4≤tag∧tag≤7
 ·rw [bq h2]
  have:tag=4∨tag=5∨tag=6∨tag=7:=by omega
  rcases this with rfl|rfl|rfl|rfl<;>rfl
 rw [aW h2]
 by_cases h3:12≤tag∧tag≤23
 ·rw [bq h3,aW (by simp;omega),aW (by simp;omega),aW (by simp;omega),aW (by simp;omega)];rfl
 rw [aW h3]
 by_cases h4:tag=3∨(8≤tag∧tag≤11)
 ·rw [bq (by simpa using h4)]
 rw [aW (by simpa using h4),bq (by simp;omega)]
 rfl
def BT(n:bC):Bool:=(jK n).getD false
theorem jx(n:bC):jK n=some (BT n):=by
 unfold BT jK
 rw [pD]
 split
 ·rfl
 ·split<;>rfl
theorem BL(n:bC):sY n=some (BT n):=by
 rw [←jx]
 unfold sY jK
 rw [pD,AU]
inductive Tr where
 |lf (n:bC)
 |un (n:bC) (a:Tr)
 |bi (n:bC) (a b:Tr)
 deriving Inhabited
def Tr.size:Tr→Nat
 | .lf _=>1
 | .un _ a=>a.size+1
 | .bi _ a b=>a.size+b.size+1
def kc(n:bC)(l r:Int):bC:={n with L:=l,R:=r}
def Tr.flat:Tr→Nat→List bC
 | .lf n,_=>[kc n (-1) (-1)]
 | .un n a,s=>a.flat s++[kc n ((s+a.size:Nat)-1) (-1)]
 | .bi n a b,s=>a.flat s++b.flat (s+a.size)++[kc n ((s+a.size:Nat)-1) ((s+a.size+b.size:Nat)-1)]
def Qu(k:Nat)(n:bC):Prop:=pk n.Tag=some k∧BT n=true∧n.L= -1∧n.R= -1
def Tr.wf:Tr→Prop
 | .lf n=>Qu 0 n
 | .un n a=>Qu 1 n∧a.wf
 | .bi n a b=>Qu 2 n∧a.wf∧b.wf
theorem Tr.size_pos(t:Tr):0<t.size:=by cases t<;>simp [Tr.size]
theorem Tr.flat_len(t:Tr): ∀s,(t.flat s).length=t.size:=by
 induction t with
 |lf n=>intro s;rfl
 |un n a ih=>intro s;simp [Tr.flat,Tr.size,ih]
 |bi n a b iha ihb=>intro s;simp [Tr.flat,Tr.size,iha,ihb];omega
def cB:List Tr→Nat
 |[]=>0
 |t::st=>cB st+t.size
def uT:List Tr→List bC
 |[]=>[]
 |t::st=>uT st++t.flat (cB st)
theorem Dn: ∀st:List Tr,(uT st).length=cB st
 |[]=>rfl
 |t::st=>by simp [uT,cB,Dn st,t.flat_len]
theorem C2: ∀st:List Tr,st.length≤cB st
 |[]=>eE _
 |t::st=>by have:=C2 st;have:=t.size_pos;simp [cB];omega
def push(st:List Tr)(n:bC):Option (List Tr):=
 match pk n.Tag,st with
 |some 0,st=>if BT n&&n.L== -1&&n.R== -1 then some (.lf (kc n (-1) (-1))::st)else none
 |some 1,a::st=>if BT n&&n.L==((cB st+a.size:Nat):Int)-1&&n.R== -1 then some (.un (kc n (-1) (-1)) a::st)else none
 |some 2,b::a::st=>if BT n&&n.L==((cB st+a.size:Nat):Int)-1&&n.R==((cB st+a.size+b.size:Nat):Int)-1 then some (.bi (kc n (-1) (-1)) a b::st)else none
 |_,_=>none
def pf:List bC→List Tr→Option (List Tr)
 |[],st=>some st
 |n::ns,st=>(push st n).bind (pf ns)
def UF(st:List Tr):Prop:= ∀t∈st,t.wf
theorem wq{l r:Int}(h:n.L=l)(h2:n.R=r):kc (kc n (-1) (-1)) l r=n:=by subst h h2;rfl
theorem EE{l r:Int}:BT (kc n l r)=BT n:=rfl
theorem JZ{st st' :List Tr}(h:push st n=some st')(hw:UF st):uT st' =uT st++[n]∧cB st' =cB st+1∧UF st' :=by
 unfold push at h
 split at h
 ·rename_i k st0 hk
  split at h
  ·rename_i hc
   simp only [gX,ss]at hc
   obtain⟨⟨h1,h2⟩,h3⟩:=hc
   cases h
   refine⟨?_,rfl,fun t ht=>?_⟩
   ·simp only [uT,Tr.flat]
    rw [wq h2 h3]
   ·rcases jW.1 ht with rfl|ht
    ·exact⟨hk,h1,rfl,rfl⟩
    ·exact hw t ht
  ·cases h
 ·rename_i k a st0 hk
  split at h
  ·rename_i hc
   simp only [gX,ss]at hc
   obtain⟨⟨h1,h2⟩,h3⟩:=hc
   cases h
   refine⟨?_,by simp [cB,Tr.size];omega,fun t ht=>?_⟩
   ·simp only [uT,Tr.flat]
    rw [wq h2 h3,nh]
   ·rcases jW.1 ht with rfl|ht
    ·exact⟨⟨hk,h1,rfl,rfl⟩,hw a (nf ..)⟩
    ·exact hw t (oO _ ht)
  ·cases h
 ·rename_i k b a st0 hk
  split at h
  ·rename_i hc
   simp only [gX,ss]at hc
   obtain⟨⟨h1,h2⟩,h3⟩:=hc
   cases h
   refine⟨?_,by simp [cB,Tr.size];omega,fun t ht=>?_⟩
   ·simp only [uT,Tr.flat,cB]
    rw [wq h2 h3]
    simp only [nh]
   ·rcases jW.1 ht with rfl|ht
    ·exact⟨⟨hk,h1,rfl,rfl⟩,hw a (oO _ (nf ..)),hw b (nf ..)⟩
    ·exact hw t (oO _ (oO _ ht))
  ·cases h
 ·cases h
variable{ns:List bC}
theorem xq: ∀{ns:List bC} {st st' :List Tr},pf ns st=some st' →UF st→uT st' =uT st++ns∧UF st'
 |[],st,st',h,hw=>by cases h;simp [hw]
 |n::ns,st,st',h,hw=>by
  unfold pf at h
  cases hp:push st n with
  |none=>rw [hp]at h;cases h
  |some st1=>
   rw [hp]at h
   obtain⟨h1,_,h3⟩:=JZ hp hw
   obtain⟨h4,h5⟩:=xq (ns:=ns) h h3
   exact⟨by rw [h4,h1];simp,h5⟩
theorem ry: ∀(ns ms:List bC) (st:List Tr),pf (ns++ms) st=(pf ns st).bind (pf ms)
 |[],ms,st=>rfl
 |n::ns,ms,st=>by
  simp only [DC,pf]
  cases push st n with
  |none=>rfl
  |some st1=>exact ry ns ms st1
theorem Hv(t:Tr): ∀(st:List Tr),t.wf→pf (t.flat (cB st)) st=some (t::st):=by
 induction t with
 |lf n=>
  intro st ⟨h1,h2,h3,h4⟩
  have hn' :kc n (-1) (-1)=n:=by cases n;simp only at h3 h4;subst h3 h4;rfl
  simp only [Tr.flat,pf,push,hn']
  rw [h1]
  simp [h2,h3,h4,pf,hn']
 |un n a ih=>
  intro st ⟨⟨h1,h2,h3,h4⟩,ha⟩
  have hn' :kc n (-1) (-1)=n:=by cases n;simp only at h3 h4;subst h3 h4;rfl
  simp only [Tr.flat]
  rw [ry,ih st ha]
  simp only [bj,pf,push]
  have e1:(kc n (((cB st+a.size:Nat):Int)-1) (-1)).Tag=n.Tag:=rfl
  rw [e1,h1]
  have e2:BT (kc n (((cB st+a.size:Nat):Int)-1) (-1))=true:=h2
  rw [e2]
  simp only [kc,beq_self_eq_true,Bool.and_self,ow,bj,pf]
  simp only [kc]at hn'
  rw [hn']
 |bi n a b iha ihb=>
  intro st ⟨⟨h1,h2,h3,h4⟩,ha,hb⟩
  have hn' :kc n (-1) (-1)=n:=by cases n;simp only at h3 h4;subst h3 h4;rfl
  simp only [Tr.flat]
  rw [ry,ry,iha st ha]
  simp only [bj]
  have e0:cB st+a.size=cB (a::st):=rfl
  rw [e0,ihb (a::st) hb]
  simp only [bj,pf,push]
  have e1:(kc n (((cB (a::st):Nat):Int)-1) (((cB (a::st)+b.size:Nat):Int)-1)).Tag=n.Tag:=rfl
  rw [e1,h1]
  have e2:BT (kc n (((cB (a::st):Nat):Int)-1) (((cB (a::st)+b.size:Nat):Int)-1))=true:=h2
  rw [e2]
  simp only [kc,cB,beq_self_eq_true,Bool.and_self,ow,bj,pf]
  simp only [kc]at hn'
  rw [hn']
def p7(ns:List bC):Option Tr:=match pf ns []with
 |some [t]=>if ns.length≤1000 then some t else none
 |_=>none
theorem nl{t:Tr}(h:p7 ns=some t):t.wf∧ns=t.flat 0∧t.size≤1000:=by
 unfold p7 at h
 split at h
 ·rename_i t0 hp
  split at h
  ·rename_i hl
   cases h
   obtain⟨h1,h2⟩:=xq hp (fun t ht=>by cases ht)
   simp only [uT,cB,lL]at h1
   exact⟨h2 t (nf ..),h1.symm,by rw [←t.flat_len 0,h1];exact hl⟩
  ·cases h
 ·cases h
theorem Fl{t:Tr}(h:t.wf)(hs:t.size≤1000):p7 (t.flat 0)=some t:=by
 unfold p7
 have h0:=Hv t [] h
 simp only [cB]at h0
 rw [h0]
 simp only [t.flat_len,hs,ow]
def fl:Tr→Nat→List Int
 | .lf _,s=>[(s:Int)]
 | .un _ a,s=>fl a s++[(s:Int)]
 | .bi _ a b,s=>fl a s++fl b (s+a.size)++[(s:Int)]
def Km:List Tr→List Int
 |[]=>[]
 |t::st=>Km st++fl t (cB st)
def lX:List Tr→List Int
 |[]=>[]
 |t::st=>lX st++[((cB st+t.size:Nat):Int)-1]
theorem uz(t:Tr): ∀s,(fl t s).length=t.size:=by
 induction t with
 |lf n=>intro s;rfl
 |un n a ih=>intro s;simp [fl,Tr.size,ih]
 |bi n a b iha ihb=>intro s;simp [fl,Tr.size,iha,ihb];omega
theorem sV: ∀st:List Tr,(Km st).length=cB st
 |[]=>rfl
 |t::st=>by simp [Km,cB,sV st,uz]
theorem dF: ∀st:List Tr,(lX st).length=st.length
 |[]=>rfl
 |t::st=>by simp [lX,dF st]
theorem NJ(t:Tr)(s:Nat):(fl t s)[t.size-1]? =some (s:Int):=by
 cases t with
 |lf n=>rfl
 |un n a=>simp only [fl,Tr.size];rw [ve (by rw [uz];omega),uz];simp
 |bi n a b=>simp only [fl,Tr.size];rw [ve (by simp [uz]),lM,uz,uz];simp
theorem BF(t:Tr)(st:List Tr)(rest:List Int):(Km st++fl t (cB st)++rest)[cB st+t.size-1]? =some (cB st:Int):=by
 have:=t.size_pos
 rw [Af (by rw [lM,sV,uz];omega),ve (by rw [sV];omega),sV,show cB st+t.size-1-cB st=t.size-1 from by omega]
 exact NJ t _
theorem Kn: ∀(ns:List bC) (st:List Tr),cB st+ns.length≤100000→kg ns (cB st) (Km st) (lX st)=some (match pf ns st with
   |some st' =>(Km st',decide (st'.length=1)&&decide (cB st' ≤1000))
   |none=>([],false)):=by
 intro ns
 induction ns with
 |nil=>
  intro st _
  simp only [kg,pf,dF,sV]
  congr 2
  congr 1
  ·rw [pX];simp;omega
  ·rw [pX];simp;omega
 |cons n ns ih=>
  intro st hs
  simp only [nT]at hs
  have hll:=C2 st
  unfold kg
  rw [w8]
  simp only [bj,dF,BL]
  unfold pf
  unfold push
  -- the parts
  cases hk:pk n.Tag with
  |none=>
   have e:Ec n.Tag= -1:=by unfold Ec;rw [hk]
   simp [e]
  |some k=>
   have e:Ec n.Tag=(k:Int):=by unfold Ec;rw [hk]
   have hk3:k=0∨k=1∨k=2:=by
    unfold pk at hk
    repeat' split at hk
    all_goals simp at hk
    all_goals omega
   rw [e]
   rcases hk3 with rfl|rfl|rfl
   ·-- none
    simp only []
    have c1:(decide (((0:Nat):Int)<0)||decide ((st.length:Int)<((0:Nat):Int)))=false:=by simp
    simp only [c1,xL,ow,bj]
    cases hc:BT n with
    |false=>simp
    |true=>
     simp only [uY,vb,qK,mZ]
     rw [jS st.length st.length (by rw [eC (by omega) (by omega)];omega) rfl (eE _) (by rw [dF];exact eE _)]
     have hd:(List.take st.length (lX st)).drop st.length=[]:=E2 (by simp;omega)
     simp only [hd,bj,lG]
     by_cases hL:n.L= -1∧n.R= -1
     ·have hb:(n.L== -1&&n.R== -1)=true:=by simp [hL]
      rw [bq hb,aW (by simp [hL.1,hL.2])]
      rw [bH (by simp only [nT,ua,sV];omega)]
      simp only [bj]
      rw [jS (i:=0) 0 st.length rfl (by rw [dF,eC (by omega) (by omega)];omega) (nU _) (by rw [dF];exact eE _)]
      rw [tu (by rw [dF];exact eE _),xd]
      simp only [bj]
      rw [bH (by simp only [nT,ua,dF];omega)]
      simp only [bj]
      have h2:=ih (.lf (kc n (-1) (-1))::st) (by simp [cB,Tr.size];omega)
      simp only [cB,Tr.size,Km,fl,lX]at h2
      rw [show(((cB st+1:Nat):Int)-1)=(cB st:Int)from by omega]at h2
      exact h2
     ·have hb:(n.L== -1&&n.R== -1)=false:=by
       rw [zI];intro h;apply hL;simpa using h
      rw [hb]
      rw [bq (by
       simp only [DD,Ip]
       intro h
       have h1:(-1:Int)=n.L:=by injection h
       have h2:(-1:Int)=n.R:=by injection h with _ h;injection h
       exact hL ⟨h1.symm,h2.symm⟩)]
      simp
   ·-- one
    cases st with
    |nil=>simp
    |cons a st=>
     simp only []
     have c1:(decide (((1:Nat):Int)<0)||decide (((a::st).length:Int)<((1:Nat):Int)))=false:=by simp;omega
     simp only [c1,xL,ow,bj]
     cases hc:BT n with
     |false=>simp
     |true=>
      simp only [uY,vb,qK,mZ]
      simp only [nT]at hll ⊢
      simp only [cB]at hs hll
      have hap:=a.size_pos
      rw [jS st.length (st.length+1) (by rw [eC (by omega) (by omega)];omega) (by omega) (by omega) (by rw [dF];exact eE _)]
      have hd:(List.take (st.length+1) (lX (a::st))).drop st.length=[((cB st+a.size:Nat):Int)-1]:=by
       rw [tu (by rw [dF];exact eE _)]
       simp only [lX]
       rw [KX (by rw [dF];exact eE _),E2 (by rw [dF];exact eE _),lL]
      rw [hd]
      simp only [bj,lG]
      rw [lC (cB st+a.size-1) (by omega)]
      have hf:=BF a st []
      rw [t8]at hf
      simp only [Km]
      rw [hf]
      simp only [bj]
      rw [lC 0 rfl]
      simp only [E4,bj]
      have hset:([(-1:Int),-1].set ((0:Nat):Int).toNat (((cB st+a.size:Nat):Int)-1))=[((cB st+a.size:Nat):Int)-1,-1]:=rfl
      rw [hset]
      by_cases hL:n.L=((cB st+a.size:Nat):Int)-1∧n.R= -1
      ·have hb:(n.L==((cB st+a.size:Nat):Int)-1&&n.R== -1)=true:=by simp [hL]
       rw [bq hb,aW (by rw [hL.1,hL.2];simp)]
       rw [bH (by simp only [nT,ua,lM,sV,uz];omega)]
       simp only [bj]
       rw [jS (i:=0) 0 st.length rfl (by rw [dF,eC (by simp<;>omega) (by simp<;>omega)];simp) (nU _) (by rw [dF];simp)]
       have ht:(List.take st.length (lX (a::st))).drop 0=lX st:=by
        simp only [lX,xd]
        rw [Ag (by rw [dF];exact eE _),tu (by rw [dF];exact eE _)]
       rw [ht]
       simp only [bj]
       rw [bH (by simp only [nT,ua,dF];omega)]
       simp only [bj]
       have h2:=ih (.un (kc n (-1) (-1)) a::st) (by simp [cB,Tr.size];omega)
       simp only [cB,Tr.size,Km,fl,lX]at h2
       rw [show(((cB st+(a.size+1):Nat):Int)-1)=((cB st+a.size:Nat):Int)from by omega]at h2
       have hm:min ((cB (a::st):Nat):Int) (cB st:Int)=(cB st:Int):=by simp only [cB];omega
       rw [hm]
       simp only [nh]at h2 ⊢
       exact h2
      ·have hb:(n.L==((cB st+a.size:Nat):Int)-1&&n.R== -1)=false:=by
        rw [zI];intro h;apply hL;simpa using h
       rw [hb]
       rw [bq (by
        simp only [DD,Ip]
        intro h
        have h1:((cB st+a.size:Nat):Int)-1=n.L:=by injection h
        have h2:(-1:Int)=n.R:=by injection h with _ h;injection h
        exact hL ⟨h1.symm,h2.symm⟩)]
       simp
   ·-- two
    cases st with
    |nil=>simp
    |cons b st=>
     cases st with
     |nil=>simp
     |cons a st=>
      simp only []
      have c1:(decide (((2:Nat):Int)<0)||decide (((b::a::st).length:Int)<((2:Nat):Int)))=false:=by simp;omega
      simp only [c1,xL,ow,bj]
      cases hc:BT n with
      |false=>simp
      |true=>
       simp only [uY,vb,qK,mZ]
       simp only [nT]at hll ⊢
       simp only [cB]at hs hll
       have hap:=a.size_pos
       have hbp:=b.size_pos
       rw [jS st.length (st.length+1+1) (by rw [eC (by omega) (by omega)];omega) (by omega) (by omega) (by rw [dF];exact eE _)]
       have hd:(List.take (st.length+1+1) (lX (b::a::st))).drop st.length=[((cB st+a.size:Nat):Int)-1,((cB st+a.size+b.size:Nat):Int)-1]:=by
        rw [tu (by rw [dF];exact eE _)]
        simp only [lX,cB,nh]
        rw [KX (by rw [dF];exact eE _),E2 (by rw [dF];exact eE _),lL]
        rfl
       rw [hd]
       simp only [bj,lG]
       simp only [Km,cB]
       rw [lC (cB st+a.size-1) (by omega)]
       rw [BF a st (fl b (cB st+a.size))]
       simp only [bj]
       rw [lC 0 rfl]
       simp only [E4,bj]
       have hset:([(-1:Int),-1].set ((0:Nat):Int).toNat (((cB st+a.size:Nat):Int)-1))=[((cB st+a.size:Nat):Int)-1,-1]:=rfl
       rw [hset]
       rw [lC (cB st+a.size+b.size-1) (by omega)]
       have hf:=BF b (a::st) []
       rw [t8]at hf
       simp only [Km,cB]at hf
       rw [hf]
       simp only [bj]
       rw [lC (0+1) rfl]
       simp only [List.getElem?_cons_succ,E4,bj]
       have hset2:([((cB st+a.size:Nat):Int)-1,-1].set ((0+1:Nat):Int).toNat (((cB st+a.size+b.size:Nat):Int)-1))=[((cB st+a.size:Nat):Int)-1,((cB st+a.size+b.size:Nat):Int)-1]:=rfl
       rw [hset2]
       by_cases hL:n.L=((cB st+a.size:Nat):Int)-1∧n.R=((cB st+a.size+b.size:Nat):Int)-1
       ·have hb:(n.L==((cB st+a.size:Nat):Int)-1&&n.R==((cB st+a.size+b.size:Nat):Int)-1)=true:=by rw [hL.1,hL.2];simp
        rw [bq hb,aW (by rw [hL.1,hL.2];simp)]
        rw [bH (by simp only [nT,ua,lM,sV,uz];omega)]
        simp only [bj]
        rw [jS (i:=0) 0 st.length rfl (by rw [dF,eC (by simp;omega) (by simp;omega)];simp;omega) (nU _) (by rw [dF];simp;omega)]
        have ht:(List.take st.length (lX (b::a::st))).drop 0=lX st:=by
         simp only [lX,xd,nh]
         rw [Ag (by rw [dF];exact eE _),tu (by rw [dF];exact eE _)]
        rw [ht]
        simp only [bj]
        rw [bH (by simp only [nT,ua,dF];omega)]
        simp only [bj]
        have h2:=ih (.bi (kc n (-1) (-1)) a b::st) (by simp [cB,Tr.size];omega)
        simp only [cB,Tr.size,Km,fl,lX]at h2
        rw [show(((cB st+(a.size+b.size+1):Nat):Int)-1)=((cB st+a.size+b.size:Nat):Int)from by omega,show cB st+(a.size+b.size+1)=cB st+a.size+b.size+1 from by omega]at h2
        have hm:min (min (((cB st+a.size+b.size:Nat)):Int) (cB st:Int)) ((cB st+a.size:Nat):Int)=(cB st:Int):=by omega
        rw [hm]
        simp only [nh]at h2 ⊢
        exact h2
       ·have hb:(n.L==((cB st+a.size:Nat):Int)-1&&n.R==((cB st+a.size+b.size:Nat):Int)-1)=false:=by
         rw [zI];intro h;apply hL;simpa using h
        rw [hb]
        rw [bq (by
         simp only [DD,Ip]
         intro h
         have h1:((cB st+a.size:Nat):Int)-1=n.L:=by injection h
         have h2:((cB st+a.size+b.size:Nat):Int)-1=n.R:=by injection h with _ h;injection h
         exact hL ⟨h1.symm,h2.symm⟩)]
        simp

theorem m8{n:Nat}(h:n≤1000000):n≤ef:=by unfold ef;omega
def np(ns:List bC):Bool:=(p7 ns).isSome
theorem FR{st:List Tr}(h:pf ns []=some st):cB st=ns.length:=by
 have:=(xq h (fun t ht=>by cases ht)).1
 rw [←Dn,this];simp [uT]
theorem w9(e:bv)(h:e.Nodes.length≤100000):sk e=some (if np e.Nodes then 0 else 200):=by
 unfold sk vY np p7
 have:=Kn e.Nodes [] (by simpa [cB] using h)
 simp only [cB,Km,lX]at this
 rw [this]
 cases hp:pf e.Nodes []with
 |none=>rfl
 |some st=>
  have hsz:=FR hp
  match st,hsz with
  |[],_=>rfl
  |[t],hsz=>
   simp only [bj,hsz]
   by_cases hl:e.Nodes.length≤1000<;>simp [hl]
  |t::t2::st,_=>simp
theorem Nh(t:Tr):t.wf→ ∀(P R N:List bC) (fu:Nat),N=P++t.flat P.length++R→t.size≤fu→N.length≤100000→hT fu ⟨N⟩ (((P.length+t.size:Nat):Int)-1)=some (t.size:Int):=by
 induction t with
 |lf n=>
  intro⟨h1,h2,h3,h4⟩ P R N fu hN hf hl
  have hNl:=congrArg List.length hN
  simp only [lM,Tr.flat_len]at hNl
  simp only [Tr.size]at hf hNl ⊢
  obtain⟨fu,rfl⟩: ∃k,fu=k+1:=⟨fu-1,by omega⟩
  unfold hT
  have hx:N[P.length]? =some (kc n (-1) (-1)):=by
   rw [hN,nh,ve (eE _),vg];rfl
  rw [aW (by simp;omega),lC P.length (by omega),hx]
  have e1:(kc n (-1) (-1)).Tag=n.Tag:=rfl
  simp only [bj]
  rw [e1,pC]
  have e:Ec n.Tag=0:=by unfold Ec;rw [h1];rfl
  simp only [e,bj,jx]
  have e2:BT (kc n (-1) (-1))=true:=h2
  rw [e2]
  simp [kc]
 |un n a ih=>
  intro⟨⟨h1,h2,h3,h4⟩,ha⟩ P R N fu hN hf hl
  obtain⟨m,hm⟩: ∃m,m=kc n (((P.length+a.size:Nat):Int)-1) (-1):=⟨_,rfl⟩
  have hNl:=congrArg List.length hN
  simp only [lM,Tr.flat_len]at hNl
  simp only [Tr.size]at hf hNl ⊢
  simp only [Tr.flat,←hm]at hN
  obtain⟨fu,rfl⟩: ∃k,fu=k+1:=⟨fu-1,by omega⟩
  have hpos:=a.size_pos
  have hi:=ih ha P ([m]++R) N fu (by rw [hN];simp only [nh]) (by omega) hl
  unfold hT
  have hx:N[P.length+a.size]? =some m:=by
   rw [hN,nh,nh,←nh P,ve (by simp [a.flat_len])]
   simp [a.flat_len]
  rw [aW (by simp;omega),lC (P.length+a.size) (by omega),hx]
  simp only [bj]
  have e1:m.Tag=n.Tag:=by rw [hm];rfl
  rw [e1,pC]
  have e:Ec n.Tag=1:=by unfold Ec;rw [h1];rfl
  simp only [e,bj,jx]
  have e2:BT m=true:=by rw [hm];exact h2
  have eL:m.L=((P.length+a.size:Nat):Int)-1:=by rw [hm];rfl
  have eR:m.R= -1:=by rw [hm];rfl
  rw [eC (n:=((P.length+(a.size+1):Nat):Int)-1-1) (by omega) (by omega),show(((P.length+(a.size+1):Nat):Int)-1-1)=(((P.length+a.size:Nat):Int)-1)from by omega]
  rw [hi]
  simp only [bj]
  rw [eC (n:=(a.size:Int)+1) (by omega) (by omega)]
  have n1: ¬a.size=0:=by omega
  simp [e2,eL,eR,n1]
 |bi n a b iha ihb=>
  intro⟨⟨h1,h2,h3,h4⟩,ha,hb⟩ P R N fu hN hf hl
  obtain⟨m,hm⟩: ∃m,m=kc n (((P.length+a.size:Nat):Int)-1) (((P.length+a.size+b.size:Nat):Int)-1):=⟨_,rfl⟩
  have hNl:=congrArg List.length hN
  simp only [lM,Tr.flat_len]at hNl
  simp only [Tr.size]at hf hNl ⊢
  simp only [Tr.flat,←hm]at hN
  obtain⟨fu,rfl⟩: ∃k,fu=k+1:=⟨fu-1,by omega⟩
  have hap:=a.size_pos
  have hbp:=b.size_pos
  have hi1:=iha ha P (b.flat (P.length+a.size)++[m]++R) N fu (by rw [hN];simp only [nh]) (by omega) hl
  have hi2:=ihb hb (P++a.flat P.length) ([m]++R) N fu (by rw [hN];simp only [nh,lM,a.flat_len]) (by omega) hl
  rw [lM,a.flat_len]at hi2
  unfold hT
  have hx:N[P.length+a.size+b.size]? =some m:=by
   rw [hN,nh,nh,←nh P,ve (by simp [a.flat_len,b.flat_len];omega)]
   have:P.length+a.size+b.size-(P++(a.flat P.length++b.flat (P.length+a.size))).length=0:=by simp [a.flat_len,b.flat_len];omega
   rw [this];rfl
  rw [aW (by simp;omega),lC (P.length+a.size+b.size) (by omega),hx]
  simp only [bj]
  have e1:m.Tag=n.Tag:=by rw [hm];rfl
  rw [e1,pC]
  have e:Ec n.Tag=2:=by unfold Ec;rw [h1];rfl
  simp only [e,bj,jx]
  have e2:BT m=true:=by rw [hm];exact h2
  have eL:m.L=((P.length+a.size:Nat):Int)-1:=by rw [hm];rfl
  have eR:m.R=((P.length+a.size+b.size:Nat):Int)-1:=by rw [hm];rfl
  rw [eC (n:=((P.length+(a.size+b.size+1):Nat):Int)-1-1) (by omega) (by omega),show(((P.length+(a.size+b.size+1):Nat):Int)-1-1)=(((P.length+a.size+b.size:Nat):Int)-1)from by omega]
  rw [hi2]
  simp only [bj]
  rw [eC (n:=((P.length+a.size+b.size:Nat):Int)-1-(b.size:Int)) (by omega) (by omega),show((P.length+a.size+b.size:Nat):Int)-1-(b.size:Int)=((P.length+a.size:Nat):Int)-1 from by omega]
  rw [hi1]
  simp only [bj]
  rw [eC (n:=(a.size:Int)+(b.size:Int)) (by omega) (by omega),eC (n:=(a.size:Int)+(b.size:Int)+1) (by omega) (by omega)]
  have n1: ¬a.size=0:=by omega
  have n2: ¬b.size=0:=by omega
  have e5:(P.length:Int)+(a.size:Int)+(b.size:Int)-1-(b.size:Int)=(P.length:Int)+(a.size:Int)-1:=by omega
  simp [e2,eL,eR,n1,n2,e5]
theorem Ni(N:List bC)(hN:N.length≤100000): ∀(fu q:Nat),q≤N.length→q<fu→ ∃k:Nat,hT fu ⟨N⟩ ((q:Int)-1)=some (k:Int)∧(k=0∨ ∃(t:Tr) (P R:List bC),t.wf∧t.size=k∧N=P++t.flat P.length++R∧P.length+k=q):=by
 intro fu
 induction fu with
 |zero=>intro q _ h;omega
 |succ fu ih=>
  intro q hq hf
  unfold hT
  by_cases h0:q=0
  ·subst h0
   exact⟨0,by rw [bq (by simp)];rfl,.inl rfl⟩
  rw [aW (by simp;omega),lC (q-1) (by omega)]
  have hlt:q-1<N.length:=by omega
  rw [kW hlt]
  obtain⟨n,hn⟩: ∃n,n=N[q-1]:=⟨_,rfl⟩
  rw [←hn]
  have hd:N=N.take (q-1)++([n]++N.drop q):=by
   have h1:=tt (q-1) N
   rw [xf hlt,←hn,show q-1+1=q from by omega]at h1
   exact h1.symm
  simp only [bj,pC,jx]
  cases hk:pk n.Tag with
  |none=>
   have e:Ec n.Tag= -1:=by unfold Ec;rw [hk]
   exact⟨0,by simp [e],.inl rfl⟩
  |some k=>
   have e:Ec n.Tag=(k:Int):=by unfold Ec;rw [hk]
   have hk3:k=0∨k=1∨k=2:=by
    unfold pk at hk
    repeat' split at hk
    all_goals simp at hk
    all_goals omega
   cases hc:BT n with
   |false=>exact⟨0,by simp [e,hc],.inl rfl⟩
   |true=>
    rcases hk3 with rfl|rfl|rfl
    ·rw [e]
     by_cases hL:n.L= -1∧n.R= -1
     ·refine⟨1,by simp [hL],.inr ⟨.lf (kc n (-1) (-1)),N.take (q-1),N.drop q,⟨hk,hc,rfl,rfl⟩,rfl,?_,by simp;omega⟩⟩
      simp only [Tr.flat]
      rw [wq hL.1 hL.2,nh]
      exact hd
     ·refine⟨0,?_,.inl rfl⟩
      have:(n.L != -1||n.R != -1)=true:=by
       rw [zF,wW,wW]
       by_cases hl:n.L= -1
       ·exact .inr fun h=>hL ⟨hl,h⟩
       ·exact .inl hl
      simp [this]
    ·rw [e,eC (by omega) (by omega)]
     have e9:(((q-1:Nat):Int)-1)=(q:Int)-1-1:=by omega
     obtain⟨r2,h2,h2'⟩:=ih (q-1) (by omega) (by omega)
     rw [e9]at h2
     rw [h2]
     rcases h2' with rfl|⟨t,P,R,hw,hs,hN2,hl⟩
     ·exact⟨0,by simp,.inl rfl⟩
     ·have hp:=t.size_pos
      by_cases hL:n.L=(q:Int)-1-1∧n.R= -1
      ·refine⟨r2+1,?_,.inr ⟨.un (kc n (-1) (-1)) t,P,N.drop q,⟨⟨hk,hc,rfl,rfl⟩,hw⟩,by simp only [Tr.size];omega,?_,by omega⟩⟩
       ·simp only [bj]
        rw [eC (n:=(r2:Int)+1) (by omega) (by omega)]
        have: ¬(r2=0):=by omega
        simp [hL,this]
       ·simp only [Tr.flat]
        rw [wq (by rw [hL.1];omega) hL.2]
        have ht:N.take (q-1)=P++t.flat P.length:=by
         rw [hN2,Ag (by simp [t.flat_len];omega),tu (by simp [t.flat_len];omega)]
        rw [ht]at hd
        simpa only [nh] using hd
      ·refine⟨0,?_,.inl rfl⟩
       have:(n.L !=(q:Int)-1-1||n.R != -1)=true:=by
        rw [zF,wW,wW]
        by_cases hl:n.L=(q:Int)-1-1
        ·exact .inr fun h=>hL ⟨hl,h⟩
        ·exact .inl hl
       simp [this]
    ·rw [e,eC (n:=(q:Int)-1-1) (by omega) (by omega)]
     have e9:(((q-1:Nat):Int)-1)=(q:Int)-1-1:=by omega
     obtain⟨r2,h2,h2'⟩:=ih (q-1) (by omega) (by omega)
     rw [e9]at h2
     rw [h2]
     rcases h2' with rfl|⟨t,P,R,hw,hs,hN2,hl⟩
     ·exact⟨0,by simp,.inl rfl⟩
     ·have hp:=t.size_pos
      simp only [bj]
      rw [eC (n:=(q:Int)-1-1-(r2:Int)) (by omega) (by omega)]
      have e8:(((q-1-r2:Nat):Int)-1)=(q:Int)-1-1-(r2:Int):=by omega
      have n2: ¬(r2=0):=by omega
      obtain⟨r3,h3,h3'⟩:=ih (q-1-r2) (by omega) (by omega)
      rw [e8]at h3
      rw [h3]
      rcases h3' with rfl|⟨t3,P3,R3,hw3,hs3,hN3,hl3⟩
      ·exact⟨0,by simp,.inl rfl⟩
      ·have hp3:=t3.size_pos
       have n3: ¬(r3=0):=by omega
       by_cases hL:n.R=(q:Int)-1-1∧n.L=(q:Int)-1-1-(r2:Int)
       ·refine⟨r3+r2+1,?_,.inr ⟨.bi (kc n (-1) (-1)) t3 t,P3,N.drop q,⟨⟨hk,hc,rfl,rfl⟩,hw3,hw⟩,by simp only [Tr.size];omega,?_,by omega⟩⟩
        ·simp only [bj]
         rw [eC (n:=(r3:Int)+(r2:Int)) (by omega) (by omega),eC (n:=(r3:Int)+(r2:Int)+1) (by omega) (by omega)]
         simp [hL,n2,n3]
        ·simp only [Tr.flat]
         rw [wq (by rw [hL.2];omega) (by rw [hL.1];omega)]
         have ht:N.take (q-1)=P++t.flat P.length:=by
          rw [hN2,Ag (by simp [t.flat_len];omega),tu (by simp [t.flat_len];omega)]
         have hP:P=N.take P.length:=by
          conv=>rhs;rw [hN2,nh,Ag (eE _),tu (eE _)]
         have hP3:P=P3++t3.flat P3.length:=by
          rw [hP]
          have:P.length=P3.length+t3.size:=by omega
          conv=>lhs;rw [this,hN3]
          rw [Ag (by simp [t3.flat_len]),tu (by simp [t3.flat_len])]
         have hPl:P.length=P3.length+t3.size:=by omega
         rw [ht,hPl]at hd
         rw [hP3]at hd
         simpa only [nh] using hd
       ·clear ih hN2 hN3
        refine⟨0,?_,.inl rfl⟩
        have:(n.R !=(q:Int)-1-1||n.L !=(q:Int)-1-1-(r2:Int))=true:=by
         rw [zF,wW,wW]
         by_cases hl:n.R=(q:Int)-1-1
         ·exact .inr fun h=>hL ⟨hl,h⟩
         ·exact .inl hl
        have h' :=this
        rw [zF,wW,wW]at h'
        simp [n2,n3]
        intro h1 h2
        exact absurd h2 (by rcases h' with h' |h';exact absurd h1 h';exact h')
theorem Bk(e:bv):sK e=some (np e.Nodes):=by
 unfold sK np
 by_cases h:1≤e.Nodes.length∧e.Nodes.length≤1000
 ·rw [bq (by simp;omega),eC (by omega) (by omega)]
  unfold xp
  obtain⟨k,h1,h2⟩:=Ni e.Nodes (by omega) ef e.Nodes.length (eE _) (vd (yT _) (m8 (by omega)))
  have h1' :hT ef e ((e.Nodes.length:Int)-1)=some (k:Int):=h1
  rw [h1']
  simp only [bj]
  congr 1
  rw [pX]
  constructor
  ·intro hk
   have hk' :k=e.Nodes.length:=by have:=eq_of_beq hk;omega
   rcases h2 with rfl|⟨t,P,R,hw,hs,hN,hl⟩
   ·omega
   ·have hP:P=[]:=tv (by omega)
    subst hP
    have hR:R=[]:=by
     have:=congrArg List.length hN
     simp [t.flat_len]at this
     exact tv (by omega)
    subst hR
    have hN' :e.Nodes=t.flat 0:=by simpa using hN
    rw [hN',Fl hw (by omega)];rfl
  ·intro hi
   cases ht:p7 e.Nodes with
   |none=>rw [ht]at hi;cases hi
   |some t=>
    obtain⟨hw,hN,hs⟩:=nl ht
    have hlen:e.Nodes.length=t.size:=by rw [hN,t.flat_len]
    have h3:=Nh t hw [] [] e.Nodes ef (by simpa using hN) (m8 (by omega)) (by omega)
    simp only [ua,va]at h3
    rw [←hlen]at h3
    have h4:some (k:Int)=some (e.Nodes.length:Int):=h1.symm.trans h3
    simpa using h4
 ·rw [aW (by simp;omega)]
  simp only [bj]
  congr 1
  symm
  rw [zI]
  intro hi
  cases ht:p7 e.Nodes with
  |none=>rw [ht]at hi;cases hi
  |some t=>
   obtain⟨hw,hN,hs⟩:=nl ht
   have hlen:e.Nodes.length=t.size:=by rw [hN,t.flat_len]
   have:=t.size_pos
   omega
theorem Hr(h:np ns=true):1≤ns.length∧ns.length≤1000:=by
 unfold np at h
 cases ht:p7 ns with
 |none=>rw [ht]at h;cases h
 |some t=>
  obtain⟨hw,hN,hs⟩:=nl ht
  have hlen:ns.length=t.size:=by rw [hN,t.flat_len]
  have:=t.size_pos
  omega
end Go.Proofs.YtdohlidddcgfjaaGreat

