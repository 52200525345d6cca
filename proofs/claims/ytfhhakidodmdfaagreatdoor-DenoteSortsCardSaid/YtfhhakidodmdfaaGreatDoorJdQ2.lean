/- da of this claim: M10, M11, M12, M13, M14, M15, J1, K5, J2, J3, K6, K7, K8. -/
import Derived.Test.YtfhhakidodmdfaaGreatDoorJdQ1
set_option linter.all false
namespace Go.Proofs.YtfhhakidodmdfaaGreatDoor
open Go

variable{x:Int}
theorem Db(h:r64 x):(BitVec.ofInt 64 x).msb=decide (x<0):=by
 unfold r64 at h
 rw [BitVec.msb_eq_toInt,BitVec.toInt_ofInt]
 congr 1
 have:x.bmod (2^64)=x:=by
  rw [Int.bmod_def]
  split<;>omega
 rw [this]
variable{b:ac}
theorem DA(b:BitVec 64):IntKind.i64.wrap (b.toNat:Int)=b.toInt:=by
 rw [uB,BitVec.toInt_eq_toNat_cond]
 have:=b.isLt
 first|done|omega|(split<;>omega)
variable{y:Int}
theorem xy(hx:r64 x)(hy:r64 y):(decide (fm .xor .i64 x y<0))=(decide (x<0) !=decide (y<0))∧r64 (fm .xor .i64 x y):=by
 refine⟨?_,ot _⟩
 have e:fm .xor .i64 x y=(BitVec.ofInt 64 x^^^BitVec.ofInt 64 y).toInt:=DA _
 rw [e,←BitVec.msb_eq_toInt,BitVec.msb_xor,Db hx,Db hy]
theorem Iw(hx:r64 x)(hy:r64 y):(decide (fm .and .i64 x y<0))=(decide (x<0)&&decide (y<0)):=by
 have e:fm .and .i64 x y=(BitVec.ofInt 64 x&&&BitVec.ofInt 64 y).toInt:=DA _
 rw [e,←BitVec.msb_eq_toInt,BitVec.msb_and,Db hx,Db hy]
variable{z:Int}
theorem ER(z:Int):decide (0≤z)= !decide (z<0):=by
 by_cases h:z<0
 ·have: ¬0≤z:=by omega
  simp [h,this]
 ·have:0≤z:=by omega
  simp [h,this]
instance(z:Int):Decidable (r64 z):=by unfold r64;infer_instance
variable{c:List Int}
theorem Sz(hx:r64 x)(hy:r64 y):MQ 12 x y=(IntKind.i64.wrap (x+y),decide (r64 (x+y))):=by
 have hc:=ot (x+y)
 show(IntKind.i64.wrap (x+y),_)=_
 congr 1
 show decide ((0:Int)≤_)=_
 obtain⟨h1,h2⟩:=xy hx hc
 obtain⟨h3,h4⟩:=xy hy hc
 rw [ER,Iw h2 h4,h1,h3]
 have hcw:=uB (x+y)
 unfold r64 at hx hy hc ⊢
 generalize IntKind.i64.wrap (x+y)=c at hc hcw ⊢
 by_cases hr: -9223372036854775808≤x+y∧x+y≤9223372036854775807
 ·rw [ug hr]
  by_cases p1:x<0<;>by_cases p2:y<0<;>by_cases p3:c<0<;>simp only [p1,p2,p3,Cb,decide_false]<;>first|rfl|(exfalso;omega)
 ·rw [tu hr]
  by_cases p1:x<0<;>by_cases p2:y<0<;>by_cases p3:c<0<;>simp only [p1,p2,p3,Cb,decide_false]<;>first|rfl|(exfalso;omega)
theorem Qz(hx:r64 x)(hy:r64 y):MQ 13 x y=(IntKind.i64.wrap (x-y),decide (r64 (x-y))):=by
 have hc:=ot (x-y)
 show(IntKind.i64.wrap (x-y),_)=_
 congr 1
 show decide ((0:Int)≤_)=_
 obtain⟨h1,h2⟩:=xy hx hy
 obtain⟨h3,h4⟩:=xy hx hc
 rw [ER,Iw h2 h4,h1,h3]
 have hcw:=uB (x-y)
 unfold r64 at hx hy hc ⊢
 generalize IntKind.i64.wrap (x-y)=c at hc hcw ⊢
 by_cases hr: -9223372036854775808≤x-y∧x-y≤9223372036854775807
 ·rw [ug hr]
  by_cases p1:x<0<;>by_cases p2:y<0<;>by_cases p3:c<0<;>simp only [p1,p2,p3,Cb,decide_false]<;>first|rfl|(exfalso;omega)
 ·rw [tu hr]
  by_cases p1:x<0<;>by_cases p2:y<0<;>by_cases p3:c<0<;>simp only [p1,p2,p3,Cb,decide_false]<;>first|rfl|(exfalso;omega)
theorem EX{y:Nat}(h:y<18446744073709551616):fm .and .u64 (y:Int) 4294967295=((y%4294967296:Nat):Int):=by
 have e:fm .and .u64 (y:Int) 4294967295=IntKind.u64.wrap (((BitVec.ofInt 64 (y:Int)&&&BitVec.ofInt 64 4294967295).toNat:Nat):Int):=rfl
 have e1:BitVec.ofInt 64 (y:Int)=BitVec.ofNat 64 y:=BitVec.ofInt_natCast 64 y
 have e2:BitVec.ofInt 64 4294967295=BitVec.ofNat 64 (2^32-1):=by decide
 rw [e,e1,e2,BitVec.toNat_and,BitVec.toNat_ofNat,BitVec.toNat_ofNat,Cf (by omega:y<2^64),Cf (by omega:2^32-1<2^64),Nat.and_two_pow_sub_one_eq_mod,Gb (by omega) (by omega)]
theorem we(y:Nat):((y:Int)).fdiv (2^(min (Int.toNat (32:Int)) IntKind.u64.bits))=((y/4294967296:Nat):Int):=by
 have e:(2:Int)^(min (Int.toNat (32:Int)) IntKind.u64.bits)=4294967296:=by decide
 rw [e,Int.fdiv_eq_ediv_of_nonneg _ (by decide)]
 rfl
theorem p6{n:Nat}(h:n<18446744073709551616):IntKind.u64.wrap (n:Int)=(n:Int):=Gb (by omega) (by omega)
variable{p q:Nat}{r:co}
theorem QZ(x y:Nat)(hx:x<18446744073709551616)(hy:y<18446744073709551616):mL (x:Int) (y:Int)=some (((x*y/18446744073709551616:Nat):Int),((x*y%18446744073709551616:Nat):Int)):=by
 unfold mL
 have hx0:x%4294967296<4294967296:=uD _ (by decide)
 have hy0:y%4294967296<4294967296:=uD _ (by decide)
 have hx1:x/4294967296<4294967296:=by omega
 have hy1:y/4294967296<4294967296:=by omega
 have ex:x=x/4294967296*4294967296+x%4294967296:=by omega
 have ey:y=y/4294967296*4294967296+y%4294967296:=by omega
 rw [EX hx,EX hy,we,we]
 generalize x/4294967296=x1 at*
 generalize x%4294967296=x0 at*
 generalize y/4294967296=y1 at*
 generalize y%4294967296=y0 at*
 have b00:x0*y0≤4294967295*4294967295:=wr (by omega) (by omega)
 have b10:x1*y0≤4294967295*4294967295:=wr (by omega) (by omega)
 have b01:x0*y1≤4294967295*4294967295:=wr (by omega) (by omega)
 have b11:x1*y1≤4294967295*4294967295:=wr (by omega) (by omega)
 have exy:x*y=x1*y1*18446744073709551616+(x1*y0+x0*y1)*4294967296+x0*y0:=by
  rw [ex,ey]
  simp only [uf,Nat.mul_add]
  have h1:x1*4294967296*(y1*4294967296)=x1*y1*18446744073709551616:=by
   rw [Nat.mul_mul_mul_comm]
  have h2:x1*4294967296*y0=x1*y0*4294967296:=by rw [Nat.mul_right_comm]
  have h3:x0*(y1*4294967296)=x0*y1*4294967296:=by rw [Nat.mul_assoc]
  rw [h1,h2,h3];omega
 rw [←wJ x1 y1,←wJ x1 y0,←wJ x0 y0,←wJ x0 y1,←wJ x y]
 rw [exy]
 generalize x0*y0=p at*
 generalize x1*y0=q at*
 generalize x0*y1=r at*
 generalize x1*y1=s at*
 rw [p6 (n:=s) (by omega),p6 (n:=q) (by omega),p6 (n:=p) (by omega),p6 (n:=r) (by omega),we]
 rw [←Ae q (p/4294967296),p6 (n:=q+p/4294967296) (by omega),we,←Ae s,p6 (n:=s+(q+p/4294967296)/4294967296) (by omega)]
 rw [EX (by omega),←Ae,p6 (n:=(q+p/4294967296)%4294967296+r) (by omega),we,←Ae,p6 (n:=s+(q+p/4294967296)/4294967296+((q+p/4294967296)%4294967296+r)/4294967296) (by omega)]
 congr 1
 refine Prod.ext ?_ ?_
 ·simp only
  congr 1
  omega
 ·simp only
  rw [tw];omega
theorem Jt(x y:Int):x*y=if(decide (x<0) !=decide (y<0))=true then -(((x.natAbs*y.natAbs:Nat)):Int)else((x.natAbs*y.natAbs:Nat):Int):=by
 have hx:x=if x<0 then -(x.natAbs:Int)else(x.natAbs:Int):=by split<;>omega
 have hy:y=if y<0 then -(y.natAbs:Int)else(y.natAbs:Int):=by split<;>omega
 rw [wJ]
 by_cases p1:x<0<;>by_cases p2:y<0
 ·rw [aW p1]at hx;rw [aW p2]at hy
  conv=>lhs;rw [hx,hy]
  simp [p1,p2,Int.neg_mul_neg]
 ·rw [aW p1]at hx;rw [aM p2]at hy
  conv=>lhs;rw [hx,hy]
  simp [p1,p2,Int.neg_mul]
 ·rw [aM p1]at hx;rw [aW p2]at hy
  conv=>lhs;rw [hx,hy]
  simp [p1,p2,Int.mul_neg]
 ·rw [aM p1]at hx;rw [aM p2]at hy
  conv=>lhs;rw [hx,hy]
  simp [p1,p2]
variable{m:Nat}
theorem Gj(m:Nat)(hm:m<18446744073709551616)(b:Bool): ∃n,mF (m:Int) b=some (n,decide (r64 (if b then -(m:Int)else(m:Int))))∧(r64 (if b then -(m:Int)else(m:Int))→n=if b then -(m:Int)else(m:Int)):=by
 unfold mF
 cases b with
 |true=>
  simp only [fe]
  refine⟨IntKind.i64.wrap (IntKind.u64.wrap (0-(m:Int))),?_,fun hr=>?_⟩
  ·congr 2
   exact Ac.mpr (by unfold r64;omega)
  ·unfold r64 at hr
   rw [tw,uB];omega
 |false=>
  simp only [gh,ez]
  refine⟨IntKind.i64.wrap (m:Int),?_,fun hr=>?_⟩
  ·congr 2
   exact Ac.mpr (by unfold r64;omega)
  ·unfold r64 at hr
   rw [uB];omega
theorem QY(hx:r64 x)(hy:r64 y):(MQ 14 x y).2=decide (r64 (x*y))∧(r64 (x*y)→(MQ 14 x y).1=x*y):=by
 have ha:x.natAbs≤9223372036854775808:=by unfold r64 at hx;omega
 have hb:y.natAbs≤9223372036854775808:=by unfold r64 at hy;omega
 have hprod:=Jt x y
 have e:MQ 14 x y=(mb x y).getD (0,false):=rfl
 rw [e]
 unfold mb
 rw [tH x hx,tH y hy]
 simp only [aY]
 rw [QZ _ _ (by omega) (by omega)]
 simp only [aY]
 generalize (decide (x<0) !=decide (y<0))=b at hprod ⊢
 generalize x.natAbs*y.natAbs=m at hprod ⊢
 obtain⟨n,h1,h2⟩:=Gj (m%18446744073709551616) (uD _ (by decide)) b
 rw [h1]
 simp only [aY,F3]
 rw [hprod]
 by_cases hm:m<18446744073709551616
 ·rw [Cf hm]at h2 ⊢
  have hd:m/18446744073709551616=0:=Nat.div_eq_of_lt hm
  rw [hd]
  refine⟨by simp,fun hr=>h2 hr⟩
 ·have hd:m/18446744073709551616≠0:=by omega
  have hnr: ¬r64 (if b=true then -(m:Int)else(m:Int)):=by
   unfold r64
   split<;>omega
  refine⟨?_,fun hr=>absurd hr hnr⟩
  have:((((m/18446744073709551616:Nat):Int))==0)=false:=by simp;omega
  rw [this]
  simp [hnr]
variable{a:ac}
theorem Jr(x y:Int):x.tdiv y=if(decide (x<0) !=decide (y<0))=true then -((x.natAbs/y.natAbs:Nat):Int)else((x.natAbs/y.natAbs:Nat):Int):=by
 have hx:x=if x<0 then -(x.natAbs:Int)else(x.natAbs:Int):=by split<;>omega
 have hy:y=if y<0 then -(y.natAbs:Int)else(y.natAbs:Int):=by split<;>omega
 have ht: ∀a b:Nat,((a:Int)).tdiv (b:Int)=((a/b:Nat):Int):=fun a b=>rfl
 by_cases p1:x<0<;>by_cases p2:y<0
 ·rw [aW p1]at hx;rw [aW p2]at hy
  conv=>lhs;rw [hx,hy]
  rw [Int.neg_tdiv,Int.tdiv_neg,ht]
  simp [p1,p2]
 ·rw [aW p1]at hx;rw [aM p2]at hy
  conv=>lhs;rw [hx,hy]
  rw [Int.neg_tdiv,ht]
  simp [p1,p2]
 ·rw [aM p1]at hx;rw [aW p2]at hy
  conv=>lhs;rw [hx,hy]
  rw [Int.tdiv_neg,ht]
  simp [p1,p2]
 ·rw [aM p1]at hx;rw [aM p2]at hy
  conv=>lhs;rw [hx,hy]
  rw [ht]
  simp [p1,p2]
theorem R5(hx:r64 x)(hy:r64 y)(h0:y≠0):(MQ 15 x y).2=decide (r64 (x.tdiv y))∧(r64 (x.tdiv y)→(MQ 15 x y).1=x.tdiv y):=by
 have ha:x.natAbs≤9223372036854775808:=by unfold r64 at hx;omega
 have hq:=Jr x y
 have e:MQ 15 x y=(md x y).getD (0,false):=rfl
 rw [e]
 unfold md
 rw [aM (by simpa using h0),tH x hx,tH y hy]
 simp only [aY]
 have hn:nz ((y.natAbs:Nat):Int)=some ():=by
  unfold nz
  rw [aM (by omega)]
 rw [hn]
 have ht:((x.natAbs:Int)).tdiv (y.natAbs:Int)=((x.natAbs/y.natAbs:Nat):Int):=rfl
 have hle:x.natAbs/y.natAbs≤x.natAbs:=Nat.div_le_self _ _
 simp only [aY]
 rw [ht,p6 (by omega)]
 generalize (decide (x<0) !=decide (y<0))=b at hq ⊢
 obtain⟨n,h1,h2⟩:=Gj (x.natAbs/y.natAbs) (by omega) b
 rw [h1]
 simp only [aY,F3]
 rw [hq]
 exact⟨rfl,h2⟩
def Yc(tag x y:Int):Option Int:=if tag=12 then some (x+y)else if tag=13 then some (x-y)else if tag=14 then some (x*y)else if y=0 then none else some (x.tdiv y)
def FH(tag x y:Int):ac×Int:=match Yc tag x y with
 |none=>(zV,140)
 |some z=>if r64 z then(iV z,0)else(zV,140)
theorem V8(x y:Int):Yc 12 x y=some (x+y):=rfl
theorem V7(x y:Int):Yc 13 x y=some (x-y):=rfl
theorem V6(x y:Int):Yc 14 x y=some (x*y):=rfl
theorem Ol(x y:Int):Yc 15 x y=if y=0 then none else some (x.tdiv y):=rfl
variable{tag:Int}
theorem o9(h:Yc tag x y=some z):FH tag x y=if r64 z then(iV z,0)else(zV,140):=by
 unfold FH;rw [h]
theorem Gp(h:Yc tag x y=none):FH tag x y=(zV,140):=by
 unfold FH;rw [h]
theorem Hv{a:Int×Bool}(h1:a.2=decide (r64 z))(h2:r64 z→a.1=z):(if a.2=true then(iV a.1,(0:Int))else(zV,140))=if r64 z then(iV z,0)else(zV,140):=by
 by_cases h:r64 z
 ·rw [h1,ug h,aW rfl,aW h,h2 h]
 ·rw [h1,tu h,aM (by decide),aM h]
theorem VF(ht:tag=12∨tag=13∨tag=14∨tag=15)(hx:r64 x)(hy:r64 y):(if(MQ tag x y).2=true then(iV (MQ tag x y).1,(0:Int))else(zV,140))=FH tag x y:=by
 have hw: ∀z,r64 z→IntKind.i64.wrap z=z:=fun z h=>by unfold r64 at h;exact cx h.1 h.2
 rcases ht with rfl|rfl|rfl|rfl
 ·rw [o9 (V8 x y)]
  exact Hv (by rw [Sz hx hy]) (fun h=>by rw [Sz hx hy];exact hw _ h)
 ·rw [o9 (V7 x y)]
  exact Hv (by rw [Qz hx hy]) (fun h=>by rw [Qz hx hy];exact hw _ h)
 ·rw [o9 (V6 x y)]
  exact Hv (QY hx hy).1 (QY hx hy).2
 ·by_cases h0:y=0
  ·subst h0
   rw [Gp (by rw [Ol,aW rfl])]
   rfl
  ·rw [o9 (z:=x.tdiv y) (by rw [Ol,aM h0])]
   exact Hv (R5 hx hy h0).1 (R5 hx hy h0).2

def jH(m:Nat):List Int:=[((m%4294967296:Nat):Int),((m/4294967296%4294967296:Nat):Int),((m/18446744073709551616%4294967296:Nat):Int),((m/79228162514264337593543950336%4294967296:Nat):Int),0,0,0,0]
def lk(z:Int):eP:=⟨jH z.natAbs,decide (z<0)⟩
theorem vb(h:m<18446744073709551616):jH m=[((m%4294967296:Nat):Int),((m/4294967296:Nat):Int),0,0,0,0,0,0]:=by
 unfold jH
 rw [Cf (show m/4294967296<4294967296 by omega),Nat.div_eq_of_lt h,Nat.div_eq_of_lt (show m<79228162514264337593543950336 by omega)]
 rfl
theorem DK(x:Nat):((x:Int)).tmod 4294967296=((x%4294967296:Nat):Int):=rfl
theorem xp{u:Nat}(h:u<18446744073709551616):fm .xor .u64 (if IntKind.u64.signed then -1 else IntKind.u64.max) (u:Int)=((18446744073709551615-u:Nat):Int):=by
 have e:fm .xor .u64 (if IntKind.u64.signed then -1 else IntKind.u64.max) (u:Int)=IntKind.u64.wrap (((BitVec.ofInt 64 (if IntKind.u64.signed then -1 else IntKind.u64.max)^^^BitVec.ofInt 64 (u:Int)).toNat:Nat):Int):=rfl
 have e1:BitVec.ofInt 64 (if IntKind.u64.signed then -1 else IntKind.u64.max)=BitVec.allOnes 64:=by decide
 have e2:BitVec.ofInt 64 (u:Int)=BitVec.ofNat 64 u:=BitVec.ofInt_natCast 64 u
 rw [e,e1,e2,BitVec.allOnes_xor,BitVec.toNat_not,BitVec.toNat_ofNat,Cf (by omega:u<2^64),p6 (by omega)]
theorem KN(m:Nat)(h:m<18446744073709551616)(b:Bool):ny 0 (m:Int) ⟨List.replicate 8 0,b⟩=some ⟨jH m,b⟩:=by
 rw [vb h]
 unfold ny
 rw [DK,we]
 rfl
theorem jh(h:r64 z):fS z=some (lk z):=by
 unfold r64 at h
 unfold fS lk
 by_cases hz:z<0
 ·rw [aW (by simpa using hz)]
  unfold qV
  rw [aW (by decide)]
  have eu:IntKind.u64.wrap z=((18446744073709551616-z.natAbs:Nat):Int):=by rw [tw];omega
  rw [eu,xp (by omega)]
  have e1:IntKind.u64.wrap (((18446744073709551615-(18446744073709551616-z.natAbs):Nat):Int)+1)=((z.natAbs:Nat):Int):=by rw [tw];omega
  rw [e1,aM (by simp;omega)]
  have e2:IntKind.u64.wrap (-1)=((18446744073709551615:Nat):Int):=by decide
  rw [e2,xp (by omega)]
  have:=KN z.natAbs (by omega) true
  rw [show((18446744073709551615-18446744073709551615:Nat):Int)=0 from rfl,this]
  simp [hz]
 ·rw [aM (by simpa using hz)]
  unfold qV
  rw [aM (by decide)]
  have eu:IntKind.u64.wrap z=((z.natAbs:Nat):Int):=by rw [tw];omega
  rw [eu,show IntKind.u64.wrap 0=0 from by decide,KN z.natAbs (by omega) false]
  simp [hz]
theorem Dz(h:m<340282366920938463463374607431768211456)(b:Bool):sL ⟨jH m,b⟩=some (decide (m=0)):=by
 unfold sL
 congr 1
 apply jI
 simp only [kZ]
 constructor
 ·intro he
  unfold jH at he
  have he:[((m%4294967296:Nat):Int),((m/4294967296%4294967296:Nat):Int),((m/18446744073709551616%4294967296:Nat):Int),((m/79228162514264337593543950336%4294967296:Nat):Int),0,0,0,0]=[0,0,0,0,0,0,0,0]:=he
  simp only [List.cons.injEq]at he
  omega
 ·intro he;subst he;rfl
theorem PN(h:z.natAbs<340282366920938463463374607431768211456):rO (lk z)=some (lk (-z)):=by
 unfold rO lk
 rw [Dz h]
 simp only [Int.natAbs_neg]
 by_cases h1:z<0
 ·have h2: ¬(-z<0):=by omega
  simp [h1,h2]
  omega
 ·by_cases h0:z=0
  ·subst h0;simp
  ·have h2: -z<0:=by omega
   have h3: ¬z.natAbs=0:=by omega
   have h4:decide (z<0)=false:=tu h1
   have h5:decide (-z<0)=true:=ug h2
   have h6:decide (z.natAbs=0)=false:=tu h3
   rw [h4,h5,h6]
   rfl
variable{i:Nat}
theorem TP(h:i<8):Rd (i:Int) 8=some ():=by unfold Rd;rw [aW (by omega)]
theorem iy(aa bb ds:List Int)(s t:Bool)(k i:Nat)(hi:i<8)(e1 e2 c:Nat)(h1:aa[i]? =some (e1:Int))(h2:bb[i]? =some (e2:Int))(b1:e1<4294967296)(b2:e2<4294967296)(b3:c≤1):
  gG ⟨aa,s⟩ ⟨bb,s⟩ (k+1) i (c:Int) ⟨ds,t⟩=gG ⟨aa,s⟩ ⟨bb,s⟩ k (i+1) (((e1+e2+c)/4294967296:Nat):Int) ⟨ds.set i (((e1+e2+c)%4294967296:Nat):Int),t⟩:=by
 conv=>lhs;unfold gG
 rw [aW (by simp),TP hi,bX,h1,bX,h2]
 simp only [aY]
 rw [←Ae,p6 (by omega),←Ae,p6 (by omega),we,DK]
 rfl
theorem iz(aa bb ds:List Int)(s u t:Bool)(hsu:(s==u)=false)(k i:Nat)(hi:i<8)(e1 e2 c:Nat)(h1:aa[i]? =some (e1:Int))(h2:bb[i]? =some (e2:Int))(b1:e1<4294967296)(b2:e2<4294967296)(b3:c≤1):
  gG ⟨aa,s⟩ ⟨bb,u⟩ (k+1) i (c:Int) ⟨ds,t⟩=gG ⟨aa,s⟩ ⟨bb,u⟩ k (i+1) ((1-(e1+4294967296-e2-c)/4294967296:Nat):Int) ⟨ds.set i (((e1+4294967296-e2-c)%4294967296:Nat):Int),t⟩:=by
 conv=>lhs;unfold gG
 rw [aM (by simp only [hsu];decide),TP hi,bX,h1,bX,h2]
 simp only [aY]
 have q1:IntKind.u64.wrap ((e1:Int)+4294967296)=((e1+4294967296:Nat):Int):=by rw [Gb (by omega) (by omega)];omega
 have q2:IntKind.u64.wrap (((e1+4294967296:Nat):Int)-(e2:Int))=((e1+4294967296-e2:Nat):Int):=by rw [Gb (by omega) (by omega)];omega
 have q3:IntKind.u64.wrap (((e1+4294967296-e2:Nat):Int)-(c:Int))=((e1+4294967296-e2-c:Nat):Int):=by rw [Gb (by omega) (by omega)];omega
 rw [q1,q2,q3,we,DK]
 have q4:IntKind.u64.wrap (1-(((e1+4294967296-e2-c)/4294967296:Nat):Int))=((1-(e1+4294967296-e2-c)/4294967296:Nat):Int):=by rw [Gb (by omega) (by omega)];omega
 rw [q4]
 rfl
theorem Ay(aa bb:eP)(i:Nat)(c:Int)(m:Nat)(hm:m<340282366920938463463374607431768211456)(t:Bool):gG aa bb 0 i c ⟨jH m,t⟩=some ⟨jH m,t&&decide (m≠0)⟩:=by
 unfold gG
 cases t with
 |false=>rfl
 |true=>
  simp only [fe]
  rw [Dz hm]
  simp
theorem YQ(hp:p<18446744073709551616)(hq:q<18446744073709551616)(s:Bool):ic ⟨jH p,s⟩ ⟨jH q,s⟩=some ⟨jH (p+q),s&&decide (p+q≠0)⟩:=by
 have hd:jH (p+q)=[(((p%4294967296+q%4294967296+0)%4294967296:Nat):Int),(((p/4294967296+q/4294967296+(p%4294967296+q%4294967296+0)/4294967296)%4294967296:Nat):Int),(((0+0+(p/4294967296+q/4294967296+(p%4294967296+q%4294967296+0)/4294967296)/4294967296)%4294967296:Nat):Int),0,0,0,0,0]:=by
  unfold jH
  congr 1
  ·congr 1;omega
  ·congr 1
   ·congr 1;omega
   ·congr 1
    ·congr 1;omega
    ·congr 1
     have:(p+q)/79228162514264337593543950336%4294967296=0:=by omega
     rw [this];rfl
 have rt:=hd
 rw [vb hp,vb hq]
 unfold ic
 generalize hp0:p%4294967296=p0 at rt ⊢
 generalize hp1:p/4294967296=p1 at rt ⊢
 generalize hq0:q%4294967296=q0 at rt ⊢
 generalize hq1:q/4294967296=q1 at rt ⊢
 have c1:(p0+q0+0)/4294967296≤1:=by omega
 generalize hc:(p0+q0+0)/4294967296=c at rt c1 ⊢
 have c2:(p1+q1+c)/4294967296≤1:=by omega
 generalize hcc:(p1+q1+c)/4294967296=cc at rt c2 ⊢
 rw [show((0:Int))=((0:Nat):Int)from rfl]
 rw [iy _ _ _ s s 7 0 (by omega) p0 q0 0 rfl rfl (by omega) (by omega) (by omega),hc]
 rw [iy _ _ _ s s 6 1 (by omega) p1 q1 c rfl rfl (by omega) (by omega) (by omega),hcc]
 rw [iy _ _ _ s s 5 2 (by omega) 0 0 cc rfl rfl (by omega) (by omega) (by omega)]
 have c3:(0+0+cc)/4294967296=0:=by omega
 rw [c3]
 rw [iy _ _ _ s s 4 3 (by omega) 0 0 0 rfl rfl (by omega) (by omega) (by omega)]
 rw [show(0+0+0)/4294967296=0 from rfl]
 rw [iy _ _ _ s s 3 4 (by omega) 0 0 0 rfl rfl (by omega) (by omega) (by omega)]
 rw [show(0+0+0)/4294967296=0 from rfl]
 rw [iy _ _ _ s s 2 5 (by omega) 0 0 0 rfl rfl (by omega) (by omega) (by omega)]
 rw [show(0+0+0)/4294967296=0 from rfl]
 rw [iy _ _ _ s s 1 6 (by omega) 0 0 0 rfl rfl (by omega) (by omega) (by omega)]
 rw [show(0+0+0)/4294967296=0 from rfl]
 rw [iy _ _ _ s s 0 7 (by omega) 0 0 0 rfl rfl (by omega) (by omega) (by omega)]
 have he:=Ay ⟨[(p0:Int),(p1:Int),0,0,0,0,0,0],s⟩ ⟨[(q0:Int),(q1:Int),0,0,0,0,0,0],s⟩ (7+1) (((0+0+0)/4294967296:Nat):Int) (p+q) (by omega) s
 rw [rt]at he
 rw [rt]
 exact he
theorem VV(hp:p<18446744073709551616)(hq:q≤p)(s u:Bool)(hsu:(s==u)=false):ic ⟨jH p,s⟩ ⟨jH q,u⟩=some ⟨jH (p-q),s&&decide (p-q≠0)⟩:=by
 have hd:jH (p-q)=[(((p%4294967296+4294967296-q%4294967296-0)%4294967296:Nat):Int),(((p/4294967296+4294967296-q/4294967296-(1-(p%4294967296+4294967296-q%4294967296-0)/4294967296))%4294967296:Nat):Int),0,0,0,0,0,0]:=by
  rw [vb (by omega)]
  congr 1
  ·congr 1;omega
  ·congr 1
   ·congr 1;omega
 have rt:=hd
 rw [vb hp,vb (m:=q) (by omega)]
 unfold ic
 have hge:(p/4294967296+4294967296-q/4294967296-(1-(p%4294967296+4294967296-q%4294967296-0)/4294967296))/4294967296=1:=by omega
 generalize hp0:p%4294967296=p0 at rt hge ⊢
 generalize hp1:p/4294967296=p1 at rt hge ⊢
 generalize hq0:q%4294967296=q0 at rt hge ⊢
 generalize hq1:q/4294967296=q1 at rt hge ⊢
 have c1:1-(p0+4294967296-q0-0)/4294967296≤1:=by omega
 generalize hc:1-(p0+4294967296-q0-0)/4294967296=c at rt hge c1 ⊢
 rw [show((0:Int))=((0:Nat):Int)from rfl]
 rw [iz _ _ _ s u s hsu 7 0 (by omega) p0 q0 0 rfl rfl (by omega) (by omega) (by omega),hc]
 rw [iz _ _ _ s u s hsu 6 1 (by omega) p1 q1 c rfl rfl (by omega) (by omega) (by omega),hge]
 rw [show 1-1=0 from rfl]
 rw [iz _ _ _ s u s hsu 5 2 (by omega) 0 0 0 rfl rfl (by omega) (by omega) (by omega)]
 rw [show 1-(0+4294967296-0-0)/4294967296=0 from rfl]
 rw [iz _ _ _ s u s hsu 4 3 (by omega) 0 0 0 rfl rfl (by omega) (by omega) (by omega)]
 rw [show 1-(0+4294967296-0-0)/4294967296=0 from rfl]
 rw [iz _ _ _ s u s hsu 3 4 (by omega) 0 0 0 rfl rfl (by omega) (by omega) (by omega)]
 rw [show 1-(0+4294967296-0-0)/4294967296=0 from rfl]
 rw [iz _ _ _ s u s hsu 2 5 (by omega) 0 0 0 rfl rfl (by omega) (by omega) (by omega)]
 rw [show 1-(0+4294967296-0-0)/4294967296=0 from rfl]
 rw [iz _ _ _ s u s hsu 1 6 (by omega) 0 0 0 rfl rfl (by omega) (by omega) (by omega)]
 rw [show 1-(0+4294967296-0-0)/4294967296=0 from rfl]
 rw [iz _ _ _ s u s hsu 0 7 (by omega) 0 0 0 rfl rfl (by omega) (by omega) (by omega)]
 have he:=Ay ⟨[(p0:Int),(p1:Int),0,0,0,0,0,0],s⟩ ⟨[(q0:Int),(q1:Int),0,0,0,0,0,0],u⟩ (7+1) ((1-(0+4294967296-0-0)/4294967296:Nat):Int) (p-q) (by omega) s
 rw [rt]at he
 rw [rt]
 exact he
theorem iA(aa bb:List Int)(s t:Bool)(n:Nat)(i:Nat)(hi:i<8)(e1 e2:Int)(h1:aa[i]? =some e1)(h2:bb[i]? =some e2):
  ld ⟨aa,s⟩ ⟨bb,t⟩ (n+1) (i:Int)=if e1=e2 then ld ⟨aa,s⟩ ⟨bb,t⟩ n ((i:Int)-1)else some (decide (e1<e2)):=by
 conv=>lhs;unfold ld
 rw [aW (by simp),bX,h1,bX,h2]
 simp only [aY]
 by_cases h:e1=e2
 ·rw [aM (by simp [h]),aW h,cx (by omega) (by omega)]
 ·rw [aW (by simpa using h),aM h]
theorem TG(hp:p<18446744073709551616)(hq:q<18446744073709551616)(s t:Bool):sM ⟨jH p,s⟩ ⟨jH q,t⟩=some (decide (p<q)):=by
 rw [vb hp,vb hq]
 unfold sM
 obtain⟨f,hf⟩: ∃f,ge=f+9:=⟨ge-9,by have:=kY (n:=9) (by omega);omega⟩
 rw [hf]
 rw [show(7:Int)=((7:Nat):Int)from rfl,iA _ _ s t (f+8) 7 (by omega) 0 0 rfl rfl,aW rfl]
 rw [show((7:Nat):Int)-1=((6:Nat):Int)from rfl,iA _ _ s t (f+7) 6 (by omega) 0 0 rfl rfl,aW rfl]
 rw [show((6:Nat):Int)-1=((5:Nat):Int)from rfl,iA _ _ s t (f+6) 5 (by omega) 0 0 rfl rfl,aW rfl]
 rw [show((5:Nat):Int)-1=((4:Nat):Int)from rfl,iA _ _ s t (f+5) 4 (by omega) 0 0 rfl rfl,aW rfl]
 rw [show((4:Nat):Int)-1=((3:Nat):Int)from rfl,iA _ _ s t (f+4) 3 (by omega) 0 0 rfl rfl,aW rfl]
 rw [show((3:Nat):Int)-1=((2:Nat):Int)from rfl,iA _ _ s t (f+3) 2 (by omega) 0 0 rfl rfl,aW rfl]
 rw [show((2:Nat):Int)-1=((1:Nat):Int)from rfl,iA _ _ s t (f+2) 1 (by omega) _ _ rfl rfl]
 by_cases h1:((p/4294967296:Nat):Int)=((q/4294967296:Nat):Int)
 ·rw [aW h1,show((1:Nat):Int)-1=((0:Nat):Int)from rfl,iA _ _ s t (f+1) 0 (by omega) _ _ rfl rfl]
  by_cases h0:((p%4294967296:Nat):Int)=((q%4294967296:Nat):Int)
  ·rw [aW h0]
   unfold ld
   rw [aM (by decide)]
   congr 1
   symm
   rw [Fp];omega
  ·rw [aM h0]
   congr 1
   apply jI
   simp only [kZ];omega
 ·rw [aM h1]
  congr 1
  apply jI
  simp only [kZ];omega
theorem OL(hx:x.natAbs≤9223372036854775808)(hy:y.natAbs≤9223372036854775808):mp (lk x) (lk y)=some (lk (x+y)):=by
 unfold mp lk
 rw [TG (by omega) (by omega)]
 simp only [aY]
 by_cases h:(decide (x<0)==decide (y<0))=true
 ·have hs:decide (y<0)=decide (x<0):=(eq_of_beq h).symm
  have hne:(decide (x<0) !=decide (y<0))=false:=by rw [hs];simp
  rw [hne]
  simp only [gh,ez,aY]
  rw [hs,YQ (by omega) (by omega)]
  congr 2
  ·congr 1
   have:(decide (x<0)=true↔decide (y<0)=true):=by rw [hs]
   simp only [kZ]at this
   omega
  ·apply jI
   have:(decide (x<0)=true↔decide (y<0)=true):=by rw [hs]
   simp only [kZ]at this
   simp only [lr,kZ]
   omega
 ·have hb:(decide (x<0)==decide (y<0))=false:=by simpa using h
  have hne:(decide (x<0) !=decide (y<0))=true:=by simp only [bne,hb];rfl
  rw [hne]
  simp only [fe,aY]
  have hxy: ¬(x<0↔y<0):=by
   intro hi
   have:decide (x<0)=decide (y<0):=by simp only [Ac];exact hi
   rw [this]at hb;simp at hb
  by_cases hlt:x.natAbs<y.natAbs
  ·rw [aW (by simpa using hlt)]
   have hb' :(decide (y<0)==decide (x<0))=false:=by
    cases q1:decide (x<0)<;>cases q2:decide (y<0)<;>simp_all
   rw [VV (by omega) (by omega) _ _ hb']
   congr 2
   ·congr 1;omega
   ·apply jI
    simp only [lr,kZ]
    omega
  ·rw [aM (by simpa using hlt)]
   rw [VV (by omega) (by omega) _ _ hb]
   congr 2
   ·congr 1;omega
   ·apply jI
    simp only [lr,kZ]
    omega
theorem E9(m:Nat)(b:Bool)(e e1 e2 e3:Int):ft ⟨jH m,b⟩ e e1 e2 e3 (8-4) 4=ft ⟨jH m,b⟩ e e1 e2 e3 0 8:=by
 have step: ∀k i,(jH m)[i]? =some 0→ft ⟨jH m,b⟩ e e1 e2 e3 (k+1) i=ft ⟨jH m,b⟩ e e1 e2 e3 k (i+1):=by
  intro k i h
  conv=>lhs;unfold ft
  rw [bX]
  simp only [h,aY]
  rw [aM (by decide)]
 show ft _ _ _ _ _ (3+1) 4=_
 rw [step 3 4 rfl]
 show ft _ _ _ _ _ (2+1) 5=_
 rw [step 2 5 rfl]
 show ft _ _ _ _ _ (1+1) 6=_
 rw [step 1 6 rfl]
 show ft _ _ _ _ _ (0+1) 7=_
 rw [step 0 7 rfl]
theorem YD:(2:Int)^(min (Int.toNat (32:Int)) IntKind.u64.bits)=((4294967296:Nat):Int):=by
 have:(2:Int)^(min (Int.toNat (32:Int)) IntKind.u64.bits)=4294967296:=by decide
 rw [this];rfl
theorem xE(d e:Nat)(hd:d<4294967296)(he:e<4294967296):IntKind.u64.wrap (IntKind.u64.wrap ((d:Int)*2^(min (Int.toNat (32:Int)) IntKind.u64.bits))+(e:Int))=((d*4294967296+e:Nat):Int):=by
 have e0:(2:Int)^(min (Int.toNat (32:Int)) IntKind.u64.bits)=((4294967296:Nat):Int):=YD
 rw [e0,←wJ,p6 (by omega),←Ae,p6 (by omega)]
theorem KK(h:z.natAbs<340282366920938463463374607431768211456): ∃n,iH (lk z)=some (n,decide (r64 z))∧(r64 z→n=z):=by
 unfold iH vG lk
 generalize hm:z.natAbs=m at h ⊢
 have i3:cE (jH m) 3=some ((m/79228162514264337593543950336%4294967296:Nat):Int):=rfl
 have i2:cE (jH m) 2=some ((m/18446744073709551616%4294967296:Nat):Int):=rfl
 have i1:cE (jH m) 1=some ((m/4294967296%4294967296:Nat):Int):=rfl
 have i0:cE (jH m) 0=some ((m%4294967296:Nat):Int):=rfl
 simp only [i3,i2,i1,i0,aY]
 rw [E9]
 unfold ft
 rw [xE _ _ (uD _ (by decide)) (uD _ (by decide)),xE _ _ (uD _ (by decide)) (uD _ (by decide))]
 have hhi:m/79228162514264337593543950336%4294967296*4294967296+m/18446744073709551616%4294967296=m/18446744073709551616:=by omega
 have hlo:m/4294967296%4294967296*4294967296+m%4294967296=m%18446744073709551616:=by
  have:=Nat.mod_mul (x:=m) (a:=4294967296) (b:=4294967296)
  rw [show 4294967296*4294967296=18446744073709551616 from rfl]at this
  rw [this,Nat.mul_comm,Nat.add_comm]
 rw [hhi,hlo]
 have bhi:m/18446744073709551616<18446744073709551616:=by omega
 have blo:m%18446744073709551616<18446744073709551616:=uD _ (by decide)
 have hsplit:m=m/18446744073709551616*18446744073709551616+m%18446744073709551616:=by omega
 generalize m/18446744073709551616=hi at bhi hsplit ⊢
 generalize m%18446744073709551616=lo at blo hsplit ⊢
 by_cases hz:z<0
 ·have hzm:z= -(m:Int):=by omega
  have hm0:0<m:=by omega
  rw [aW (by simpa using hz),xp blo,xp bhi]
  have ew:IntKind.u64.wrap (((18446744073709551615-lo:Nat):Int)+1)=(((18446744073709551616-lo)%18446744073709551616:Nat):Int):=by rw [tw];omega
  have eh:IntKind.u64.wrap (((18446744073709551615-hi:Nat):Int)+1)=(((18446744073709551616-hi)%18446744073709551616:Nat):Int):=by rw [tw];omega
  rw [ew,eh]
  unfold lg
  simp only [hz,Cb]
  by_cases hl0:lo=0
  ·subst hl0
   rw [aW (by decide)]
   simp only [aY]
   refine⟨IntKind.i64.wrap (((18446744073709551616-0)%18446744073709551616:Nat):Int),?_,fun hr=>?_⟩
   ·congr 2
    have hnr: ¬r64 z:=by unfold r64;omega
    have e0:IntKind.i64.wrap (((18446744073709551616-0)%18446744073709551616:Nat):Int)=0:=by decide
    rw [e0]
    have hne:(IntKind.i64.wrap (((18446744073709551616-hi)%18446744073709551616:Nat):Int)==0)=false:=by
     simp only [beq_eq_false_iff_ne,o0]
     rw [uB];omega
    rw [hne]
    simp [hnr]
   ·unfold r64 at hr;omega
  ·rw [aM (by simp;omega)]
   simp only [aY]
   have e0:IntKind.i64.wrap (((18446744073709551616-lo)%18446744073709551616:Nat):Int)=if lo≤9223372036854775808 then -(lo:Int)else 18446744073709551616-(lo:Int):=by
    rw [uB];split<;>omega
   refine⟨IntKind.i64.wrap (((18446744073709551616-lo)%18446744073709551616:Nat):Int),?_,fun hr=>?_⟩
   ·congr 2
    apply jI
    rw [e0]
    simp only [lr,pi,ss,kZ]
    rw [uB]
    unfold r64
    constructor
    ·rintro⟨h1,h2⟩
     split at h2<;>omega
    ·intro h1
     have:hi=0:=by omega
     subst this
     have:lo≤9223372036854775808:=by omega
     rw [aW this]
     refine⟨by omega,.inr ⟨by omega,by omega⟩⟩
   ·rw [e0]
    unfold r64 at hr
    have:hi=0:=by omega
    subst this
    rw [aW (by omega)];omega
 ·have hzm:z=(m:Int):=by omega
  rw [aM (by simpa using hz)]
  unfold lg
  simp only [hz,decide_false,aY]
  have e0:IntKind.i64.wrap (lo:Int)=if lo≤9223372036854775807 then(lo:Int)else(lo:Int)-18446744073709551616:=by
   rw [uB];split<;>omega
  refine⟨IntKind.i64.wrap (lo:Int),?_,fun hr=>?_⟩
  ·congr 2
   apply jI
   rw [e0]
   simp only [lr,pi,ss,kZ,Fp]
   rw [uB]
   unfold r64
   constructor
   ·rintro⟨h1,h2⟩
    split at h2<;>omega
   ·intro h1
    have:hi=0:=by omega
    subst this
    rw [aW (by omega)]
    refine⟨by omega,.inl ⟨by omega,by omega⟩⟩
  ·rw [e0]
   unfold r64 at hr
   rw [aW (by omega)];omega

theorem vv(aa bb ds:List Int)(s t o:Bool)(nx:Nat→eP→Option eP)(i k j:Nat)(hij:i+j<8)(p e3 e4 c:Nat)(h1:ds[i+j]? =some (p:Int))(h2:aa[i]? =some (e3:Int))(h3:bb[j]? =some (e4:Int))(b1:p<4294967296)(b2:e3<4294967296)(b3:e4<4294967296)(b4:c<4294967296):
  jk ⟨aa,s⟩ ⟨bb,t⟩ nx i (k+1) j (c:Int) ⟨ds,o⟩=jk ⟨aa,s⟩ ⟨bb,t⟩ nx i k (j+1) (((p+e3*e4+c)/4294967296:Nat):Int) ⟨ds.set (i+j) (((p+e3*e4+c)%4294967296:Nat):Int),o⟩:=by
 conv=>lhs;unfold jk
 have hm:e3*e4≤4294967295*4294967295:=wr (by omega) (by omega)
 have hw:IntKind.i64.wrap ((i:Int)+(j:Int))=((i+j:Nat):Int):=by rw [cx (by omega) (by omega)];omega
 rw [hw,TP hij,bX,h1,bX,h2,bX,h3]
 simp only [aY]
 rw [←wJ,p6 (n:=e3*e4) (by omega),←Ae,p6 (n:=p+e3*e4) (by omega),←Ae,p6 (n:=p+e3*e4+c) (by omega),we,DK]
 rfl
theorem O5(aa bb:eP)(ds:List Int)(o:Bool)(nx:Nat→eP→Option eP)(i j:Nat)(hi:i<4)(c:Int):jk aa bb nx i 0 j c ⟨ds,o⟩=nx (i+1) ⟨ds.set (i+4) c,o⟩:=by
 conv=>lhs;unfold jk
 have hw:IntKind.i64.wrap ((i:Int)+(4:Int))=((i+4:Nat):Int):=by rw [cx (by omega) (by omega)];omega
 rw [hw,TP (by omega)]
 rfl
theorem xB(aa bb ds:List Int)(s t o:Bool)(nx:Nat→eP→Option eP)(i:Nat)(hi:i<4)(x y0 y1 p0 p1 p2 p3:Nat)(ha:aa[i]? =some (x:Int))(h0:bb[0]? =some (y0:Int))(h1:bb[1]? =some (y1:Int))(h2:bb[2]? =some 0)(h3:bb[3]? =some 0)
  (q0:ds[i]? =some (p0:Int))(q1:ds[i+1]? =some (p1:Int))(q2:ds[i+2]? =some (p2:Int))(q3:ds[i+3]? =some (p3:Int))(bx:x<4294967296)(by0:y0<4294967296)(by1:y1<4294967296)(b0:p0<4294967296)(b1:p1<4294967296)(b2:p2<4294967296)(b3:p3<4294967296)
  (c1 c2 c3 c4:Nat)(e1:c1=(p0+x*y0+0)/4294967296)(e2:c2=(p1+x*y1+c1)/4294967296)(e3:c3=(p2+x*0+c2)/4294967296)(e4:c4=(p3+x*0+c3)/4294967296):
  jk ⟨aa,s⟩ ⟨bb,t⟩ nx i 4 0 0 ⟨ds,o⟩=nx (i+1) ⟨((((ds.set i (((p0+x*y0+0)%4294967296:Nat):Int)).set (i+1) (((p1+x*y1+c1)%4294967296:Nat):Int)).set (i+2) (((p2+x*0+c2)%4294967296:Nat):Int)).set (i+3) (((p3+x*0+c3)%4294967296:Nat):Int)).set (i+4) ((c4:Nat):Int),o⟩:=by
 have m0:x*y0≤4294967295*4294967295:=wr (by omega) (by omega)
 have m1:x*y1≤4294967295*4294967295:=wr (by omega) (by omega)
 have k1:c1<4294967296:=by omega
 have k2:c2<4294967296:=by omega
 have k3:c3<4294967296:=by omega
 rw [show(0:Int)=((0:Nat):Int)from rfl,vv aa bb ds s t o nx i 3 0 (by omega) p0 x y0 0 q0 ha h0 b0 bx by0 (by omega),←e1]
 rw [vv aa bb _ s t o nx i 2 1 (by omega) p1 x y1 c1 (by rw [F7 (by omega)];exact q1) ha h1 b1 bx by1 k1,←e2]
 rw [vv aa bb _ s t o nx i 1 2 (by omega) p2 x 0 c2 (by rw [F7 (by omega),F7 (by omega)];exact q2) ha h2 b2 bx (by omega) k2,←e3]
 rw [vv aa bb _ s t o nx i 0 3 (by omega) p3 x 0 c3 (by rw [F7 (by omega),F7 (by omega),F7 (by omega)];exact q3) ha h3 b3 bx (by omega) k3,←e4]
 rw [O5 _ _ _ _ _ _ _ hi]
 rfl
theorem Zv(m:Nat):jH m=[((m%4294967296:Nat):Int),((m/4294967296%4294967296:Nat):Int),((m/4294967296/4294967296%4294967296:Nat):Int),((m/4294967296/4294967296/4294967296%4294967296:Nat):Int),0,0,0,0]:=by
 unfold jH
 rw [IH,IH]
theorem Ls{p0 p1 q0 q1:Nat}(hp0:p0<4294967296)(hp1:p1<4294967296)(hq0:q0<4294967296)(hq1:q1<4294967296)(s t:Bool)(m:Nat)(hm:m=(p1*4294967296+p0)*(q1*4294967296+q0))(hlt:m<340282366920938463463374607431768211456):
  fj ⟨[(p0:Int),(p1:Int),0,0,0,0,0,0],s⟩ ⟨[(q0:Int),(q1:Int),0,0,0,0,0,0],t⟩ 4 0 ⟨List.replicate 8 0,false⟩=some ⟨jH m,(s !=t)&&decide (m≠0)⟩:=by
 have hA:p0*q0≤4294967295*4294967295:=wr (by omega) (by omega)
 have hC:p0*q1≤4294967295*4294967295:=wr (by omega) (by omega)
 have hD:p1*q0≤4294967295*4294967295:=wr (by omega) (by omega)
 have hE:p1*q1≤4294967295*4294967295:=wr (by omega) (by omega)
 have hme:m=4294967296*(4294967296*(p1*q1)+p1*q0+p0*q1)+p0*q0:=by
  rw [hm]
  simp only [uf,Nat.mul_add]
  have h1:p1*4294967296*(q1*4294967296)=4294967296*(4294967296*(p1*q1)):=by
   rw [Nat.mul_mul_mul_comm,Nat.mul_comm (p1*q1),Nat.mul_assoc]
  have h2:p1*4294967296*q0=4294967296*(p1*q0):=by rw [Nat.mul_right_comm,Nat.mul_comm]
  have h3:p0*(q1*4294967296)=4294967296*(p0*q1):=by rw [←Nat.mul_assoc,Nat.mul_comm]
  rw [h1,h2,h3];omega
 obtain⟨c1,e1⟩: ∃c,c=(0+p0*q0+0)/4294967296:=⟨_,rfl⟩
 obtain⟨c2,e2⟩: ∃c,c=(0+p0*q1+c1)/4294967296:=⟨_,rfl⟩
 have k1:c1<4294967296:=by omega
 have k2:c2<4294967296:=by omega
 obtain⟨d1,f1⟩: ∃c,c=(0+p0*q1+c1)%4294967296:=⟨_,rfl⟩
 have l1:d1<4294967296:=by omega
 obtain⟨c3,e3⟩: ∃c,c=(d1+p1*q0+0)/4294967296:=⟨_,rfl⟩
 have k3:c3<4294967296:=by omega
 obtain⟨c4,e4⟩: ∃c,c=(c2+p1*q1+c3)/4294967296:=⟨_,rfl⟩
 have k4:c4<4294967296:=by omega
 obtain⟨d0,f0⟩: ∃c,c=(0+p0*q0+0)%4294967296:=⟨_,rfl⟩
 obtain⟨g1,f2⟩: ∃c,c=(d1+p1*q0+0)%4294967296:=⟨_,rfl⟩
 obtain⟨g2,f3⟩: ∃c,c=(c2+p1*q1+c3)%4294967296:=⟨_,rfl⟩
 have l0:d0<4294967296:=by omega
 have l2:g1<4294967296:=by omega
 have l3:g2<4294967296:=by omega
 have z: ∀x:Nat,0+x*0+0=0:=fun x=>by omega
 -- row 0
 conv=>lhs;unfold fj
 rw [xB _ _ _ s t false _ 0 (by omega) p0 q0 q1 0 0 0 0 rfl rfl rfl rfl rfl rfl rfl rfl rfl hp0 hq0 hq1 (by omega) (by omega) (by omega) (by omega) c1 c2 0 0 e1 e2 (by omega) (by omega)]
 rw [←f0,←f1,show(0+p0*0+c2)%4294967296=c2 from by omega,show(0+p0*0+0)%4294967296=0 from by omega]
 show fj _ _ 3 1 ⟨[(d0:Int),(d1:Int),(c2:Int),0,0,0,0,0],false⟩=_
 -- row 1
 conv=>lhs;unfold fj
 rw [xB _ _ _ s t false _ 1 (by omega) p1 q0 q1 d1 c2 0 0 rfl rfl rfl rfl rfl rfl rfl rfl rfl hp1 hq0 hq1 l1 k2 (by omega) (by omega) c3 c4 0 0 e3 e4 (by omega) (by omega)]
 rw [←f2,←f3,show(0+p1*0+c4)%4294967296=c4 from by omega,show(0+p1*0+0)%4294967296=0 from by omega]
 show fj _ _ 2 2 ⟨[(d0:Int),(g1:Int),(g2:Int),(c4:Int),0,0,0,0],false⟩=_
 -- row 2
 conv=>lhs;unfold fj
 rw [xB _ _ _ s t false _ 2 (by omega) 0 q0 q1 g2 c4 0 0 rfl rfl rfl rfl rfl rfl rfl rfl rfl (by omega) hq0 hq1 l3 k4 (by omega) (by omega) 0 0 0 0 (by omega) (by omega) (by omega) (by omega)]
 rw [show(g2+0*q0+0)%4294967296=g2 from by omega,show(c4+0*q1+0)%4294967296=c4 from by omega]
 show fj _ _ 1 3 ⟨[(d0:Int),(g1:Int),(g2:Int),(c4:Int),0,0,0,0],false⟩=_
 -- row 3
 conv=>lhs;unfold fj
 rw [xB _ _ _ s t false _ 3 (by omega) 0 q0 q1 c4 0 0 0 rfl rfl rfl rfl rfl rfl rfl rfl rfl (by omega) hq0 hq1 k4 (by omega) (by omega) (by omega) 0 0 0 0 (by omega) (by omega) (by omega) (by omega)]
 rw [show(c4+0*q0+0)%4294967296=c4 from by omega,show(0+0*q1+0)%4294967296=0 from by omega]
 show fj _ _ 0 4 ⟨[(d0:Int),(g1:Int),(g2:Int),(c4:Int),0,0,0,0],false⟩=_
 have hd:[(d0:Int),(g1:Int),(g2:Int),(c4:Int),0,0,0,0]=jH m:=by
  rw [Zv]
  generalize p0*q0=A at*
  generalize p0*q1=C at*
  generalize p1*q0=D at*
  generalize p1*q1=E at*
  have r1:m/4294967296=4294967296*E+D+C+c1:=by omega
  have r2:m/4294967296/4294967296=c2+E+c3:=by rw [r1];omega
  have r3:m/4294967296/4294967296/4294967296=c4:=by rw [r2];omega
  have w0:m%4294967296=d0:=by omega
  have w1:(4294967296*E+D+C+c1)%4294967296=g1:=by omega
  have w2:(c2+E+c3)%4294967296=g2:=f3.symm
  have w3:c4%4294967296=c4:=by omega
  rw [r3,r2,r1,w0,w1,w2,w3]
 rw [hd]
 unfold fj
 cases hst:(s !=t)with
 |false=>rfl
 |true=>
  simp only [fe]
  rw [Dz hlt]
  simp
theorem SA(hx:x.natAbs≤9223372036854775808)(hy:y.natAbs≤9223372036854775808):tM (lk x) (lk y)=some (lk (x*y)):=by
 have hpr:=Jt x y
 have hna:(x*y).natAbs=x.natAbs*y.natAbs:=Int.natAbs_mul x y
 have hle:x.natAbs*y.natAbs≤9223372036854775808*9223372036854775808:=wr hx hy
 unfold tM lk
 rw [vb (m:=x.natAbs) (by omega),vb (m:=y.natAbs) (by omega)]
 rw [Ls (m:=x.natAbs*y.natAbs) (by omega) (by omega) (by omega) (by omega) _ _ (by congr 1<;>omega) (by omega)]
 rw [hna]
 congr 2
 apply jI
 simp only [lr,kZ]
 generalize x.natAbs*y.natAbs=m at*
 generalize (decide (x<0) !=decide (y<0))=b at*
 rw [hpr]
 cases b with
 |true=>simp only [fe,true_and];omega
 |false=>simp only [gh,ez,false_and];constructor;exact False.elim;omega

theorem Y8(a b:Int):cE [a,b,0,0,0,0,0,0] 1=some b:=rfl
theorem Y9(a b:Int):cE [a,b,0,0,0,0,0,0] 0=some a:=rfl
theorem YP(a b:Int):((List.replicate 8 (0:Int)).set 0 a).set 1 b=[a,b,0,0,0,0,0,0]:=rfl
theorem Pe(p0 p1 q0 q1:Nat)(s t:Bool)(hp0:p0<4294967296)(hp1:p1<4294967296)(hq0:q0<4294967296)(hq1:q1<4294967296)(p q:Nat)(hp:p1*4294967296+p0=p)(hq:q1*4294967296+q0=q)(h0:q≠0):
  nw ⟨[(p0:Int),(p1:Int),0,0,0,0,0,0],s⟩ ⟨[(q0:Int),(q1:Int),0,0,0,0,0,0],t⟩=some ⟨jH (p/q),(s !=t)&&(((p/q:Nat):Int) !=0)⟩:=by
 unfold nw
 rw [Y8,Y9,Y8,Y9]
 rw [aY,aY,aY,aY]
 rw [xE _ _ hp1 hp0,xE _ _ hq1 hq0,hp,hq]
 have hn:nz (q:Int)=some ():=by
  unfold nz
  rw [aM (by omega)]
 have hle:p/q≤p:=Nat.div_le_self _ _
 have ht:((p:Nat):Int).tdiv (q:Int)=((p/q:Nat):Int):=rfl
 rw [hn,aY,ht,p6 (by omega),DK,we,YP,vb (by omega)]
theorem KM(hx:x.natAbs≤9223372036854775808)(hy:y.natAbs≤9223372036854775808)(h0:y≠0):nw (lk x) (lk y)=some (lk (x.tdiv y)):=by
 have hq:=Jr x y
 have hna:(x.tdiv y).natAbs=x.natAbs/y.natAbs:=Int.natAbs_tdiv x y
 unfold lk
 rw [vb (m:=x.natAbs) (by omega),vb (m:=y.natAbs) (by omega)]
 rw [Pe _ _ _ _ _ _ (by omega) (by omega) (by omega) (by omega) x.natAbs y.natAbs (by omega) (by omega) (by omega),hna]
 generalize x.natAbs/y.natAbs=m at*
 have hf:((decide (x<0) !=decide (y<0))&&((m:Int) !=0))=decide (x.tdiv y<0):=by
  apply jI
  rw [hq]
  generalize (decide (x<0) !=decide (y<0))=b
  cases b with
  |true=>simp only [uA,qN,o0,kZ,fe];omega
  |false=>simp only [Dq,gh,ez,kZ,false_iff];omega
 rw [hf]
variable{v:ac}
theorem xD(h:z.natAbs<340282366920938463463374607431768211456):((iH (lk z)).bind fun r=>if(!r.2)=true then some (zV,(140:Int))else(j4 r.1).bind fun v=>some (v,(0:Int)))=some (if r64 z then(iV z,0)else(zV,140)):=by
 obtain⟨n,h1,h2⟩:=KK h
 rw [h1]
 simp only [aY]
 by_cases hr:r64 z
 ·rw [aW hr,h2 hr,aM (by simp [hr])];rfl
 ·rw [aM hr,aW (by simp [hr])]
theorem Nk(v:ac)(h:fh v=true):oQ v=some ((v.Kind==0)||(v.Kind==2)):=by
 unfold oQ
 rw [fk,h];rfl
theorem y6(h:r64 x):x.natAbs≤9223372036854775808:=by unfold r64 at h;omega
theorem OD(h: ¬((a.Kind=0∨a.Kind=2)∧(b.Kind=0∨b.Kind=2))):wx tag a b=(zV,2):=aM h
theorem Sv(h:(a.Kind=0∨a.Kind=2)∧(b.Kind=0∨b.Kind=2))(h2:a.Kind=0∨b.Kind=0):wx tag a b=(zV,0):=by
 unfold wx
 rw [aW h,aW h2]
theorem VD(ht:tag=12∨tag=13∨tag=14∨tag=15)(ha:Pl a)(hb:Pl b)(h:(a.Kind=0∨a.Kind=2)∧(b.Kind=0∨b.Kind=2))(h2: ¬(a.Kind=0∨b.Kind=0)):wx tag a b=FH tag a.N b.N:=by
 unfold wx
 rw [aW h,aM h2,VF ht ha.r64 hb.r64]
def YS(tag:Int):Int:=if tag=12 then 43 else if tag=13 then 45 else if tag=14 then 42 else 47
theorem abS(hx:r64 x)(hy:r64 y):((fS x).bind fun r4=>(fS y).bind fun r5=>(mp r4 r5).bind fun r6=>(iH r6).bind fun r7=>if(!r7.2)=true then some (zV,(140:Int))else(j4 r7.1).bind fun r8=>some (r8,(0:Int)))=some (FH 12 x y):=by
 rw [jh hx,jh hy,aY,aY,OL (y6 hx) (y6 hy),aY,o9 (V8 _ _)]
 have:=y6 hx
 have:=y6 hy
 exact xD (by omega)
theorem abR(hx:r64 x)(hy:r64 y):((fS x).bind fun r9=>(fS y).bind fun r10=>(rO r10).bind fun r11=>(mp r9 r11).bind fun r12=>(iH r12).bind fun r13=>if(!r13.2)=true then some (zV,(140:Int))else(j4 r13.1).bind fun r14=>some (r14,(0:Int)))=some (FH 13 x y):=by
 have h1:=y6 hx
 have h2:=y6 hy
 rw [jh hx,jh hy,aY,aY,PN (by omega),aY,OL h1 (by rw [Int.natAbs_neg];exact h2),aY,o9 (V7 _ _),←Int.sub_eq_add_neg]
 exact xD (by omega)
theorem abQ(hx:r64 x)(hy:r64 y):((fS x).bind fun r15=>(fS y).bind fun r16=>(tM r15 r16).bind fun r17=>(iH r17).bind fun r18=>if(!r18.2)=true then some (zV,(140:Int))else(j4 r18.1).bind fun r19=>some (r19,(0:Int)))=some (FH 14 x y):=by
 have h1:=y6 hx
 have h2:=y6 hy
 rw [jh hx,jh hy,aY,aY,SA h1 h2,aY,o9 (V6 _ _)]
 have h3:x.natAbs*y.natAbs≤85070591730234615865843651857942052864:=wr h1 h2
 exact xD (by rw [Int.natAbs_mul];omega)
theorem abP(hx:r64 x)(hy:r64 y)(h0:y≠0):((fS x).bind fun r20=>(fS y).bind fun r21=>(nw r20 r21).bind fun r22=>(iH r22).bind fun r23=>if(!r23.2)=true then some (zV,(140:Int))else(j4 r23.1).bind fun r24=>some (r24,(0:Int)))=some (FH 15 x y):=by
 have h1:=y6 hx
 have h2:=y6 hy
 rw [jh hx,jh hy,aY,aY,KM h1 h2 h0,aY,o9 (z:=x.tdiv y) (by rw [Ol,aM h0])]
 have h3:(x.tdiv y).natAbs=x.natAbs/y.natAbs:=Int.natAbs_tdiv _ _
 have h4:x.natAbs/y.natAbs≤x.natAbs:=Nat.div_le_self _ _
 exact xD (by omega)
theorem WB(ht:tag=12∨tag=13∨tag=14∨tag=15)(ha:Pl a)(hb:Pl b):iM (YS tag) a b=some (wx tag a b):=by
 have hra:=ha.r64
 have hrb:=hb.r64
 unfold iM
 rw [fk,fk,ha.right,hb.right,Nk a ha.right,Nk b hb.right]
 rw [aY,aW (by decide),aY,aY,aM (by decide),aY,aY]
 by_cases h1:a.Kind=0∨a.Kind=2
 ·have e1:((a.Kind==0)||(a.Kind==2))=true:=by simpa using h1
  rw [e1,aW (by decide)]
  by_cases h2:b.Kind=0∨b.Kind=2
  ·have e2:((b.Kind==0)||(b.Kind==2))=true:=by simpa using h2
   rw [e2,aY,aM (by decide)]
   by_cases h3:a.Kind=0∨b.Kind=0
   ·rw [Sv ⟨h1,h2⟩ h3,aW (by simpa using h3)];rfl
   ·rw [VD ht ha hb ⟨h1,h2⟩ h3,aM (by simpa using h3)]
    rcases ht with rfl|rfl|rfl|rfl
    ·rw [aW (by decide)]
     exact abS hra hrb
    ·rw [aM (by decide),aW (by decide)]
     exact abR hra hrb
    ·rw [aM (by decide),aM (by decide),aW (by decide)]
     exact abQ hra hrb
    ·rw [aM (by decide),aM (by decide),aM (by decide)]
     by_cases h0:b.N=0
     ·rw [aW (by simpa using h0),Gp (by rw [Ol,aW h0])];rfl
     ·rw [aM (by simpa using h0)]
      exact abP hra hrb h0
  ·have e2:((b.Kind==0)||(b.Kind==2))=false:=by simpa using h2
   rw [e2,aY,aW (by decide),OD (fun h=>h2 h.2)];rfl
 ·have e1:((a.Kind==0)||(a.Kind==2))=false:=by simpa using h1
  rw [e1,aM (by decide),aY,aW (by decide),OD (fun h=>h1 h.1)];rfl

theorem Gz{s:wz}{x:UInt8}{xs:List UInt8}(h:s.drop i=x::xs):Pu s (i:Int)=some (x.toNat:Int):=by
 unfold Pu
 rw [bX]
 have:s[i]? =some x:=by
  have h2:(s.drop i)[0]? =some x:=by rw [h];rfl
  rw [wF]at h2
  exact h2
 rw [this];rfl
variable{α:Type}
theorem GK{s:List α}{x:α}{xs:List α}(h:s.drop i=x::xs):s.drop (i+1)=xs:=by
 rw [←pp,h];rfl
theorem Yg(a b:ac): ∀(xs ys:List UInt8) (i n:Nat),a.S.drop i=xs→b.S.drop i=ys→a.S.length=i+xs.length→b.S.length=i+ys.length→xs.length<n→a.S.length≤100000→lK a b n (i:Int)=some (Lib.compareBytes xs ys):=by
 intro xs
 induction xs with
 |nil=>
  intro ys i n h1 h2 l1 l2 hn _
  obtain⟨m,rfl⟩: ∃m,n=m+1:=⟨n-1,by simp at hn;omega⟩
  simp only [ph,ym]at l1
  unfold lK
  have e1:decide ((i:Int)<(a.S.length:Int))=false:=by simp;omega
  rw [e1,Dq,aM (by decide)]
  cases ys with
  |nil=>
   simp only [ph,ym]at l2
   rw [aM (by simp;omega)];rfl
  |cons y ys=>
   simp only [iG]at l2
   rw [aW (by simp;omega),aW (by simp;omega)];rfl
 |cons x xs ih=>
  intro ys i n h1 h2 l1 l2 hn hl
  obtain⟨m,rfl⟩: ∃m,n=m+1:=⟨n-1,by simp at hn;omega⟩
  simp only [iG]at l1 hn
  unfold lK
  have e1:decide ((i:Int)<(a.S.length:Int))=true:=by simp;omega
  rw [e1,uA]
  cases ys with
  |nil=>
   simp only [ph,ym]at l2
   rw [aM (by simp;omega),aW (by simp;omega),aM (by simp;omega)];rfl
  |cons y ys=>
   simp only [iG]at l2
   rw [aW (by simp;omega),Gz h1,Gz h2]
   simp only [aY]
   unfold Lib.compareBytes
   by_cases h:x=y
   ·subst h
    have hlt: ¬x<x:=by rw [Nb];omega
    rw [aM (by simp),aM hlt,aM hlt,cx (by omega) (by omega)]
    exact ih ys (i+1) m (GK h1) (GK h2) (by omega) (by omega) (by omega) hl
   ·have hne:x.toNat≠y.toNat:=fun hh=>h (UInt8.toNat_inj.1 hh)
    rw [aW (by simp;omega)]
    by_cases hlt:x<y
    ·have:=Nb.1 hlt
     rw [aW hlt,aW (by simp;omega)]
    ·have h3: ¬x.toNat<y.toNat:=fun hh=>hlt (Nb.2 hh)
     have h4:y<x:=Nb.2 (by omega)
     rw [aM hlt,aW h4,aM (by simp;omega)]
theorem Pl.short(h:Pl v):v.S.length≤40:=by
 cases h with
 |z=>simp [zV]
 |b b=>simp [bV]
 |i n h=>simp [iV]
 |s s h=>exact h
def sg(x y:Int):Int:=if x<y then -1 else if y<x then 1 else 0
theorem MM(x y:Int):gH x y=some (sg x y):=by
 unfold gH m9 sg
 simp only [yI,aY,gh,ez,kZ]
 by_cases h1:x<y
 ·rw [aW h1,aW h1]
 ·rw [aM h1,aM h1]
  by_cases h2:y<x
  ·rw [aW h2,aW h2]
  ·rw [aM h2,aM h2]
theorem Ip(x y:Int):gC x y=some (sg x y):=by
 unfold gC kK sg
 simp only [yI,aY,gh,ez,kZ]
 by_cases h1:x<y
 ·rw [aW h1,aW h1]
 ·rw [aM h1,aM h1]
  by_cases h2:y<x
  ·rw [aW h2,aW h2]
  ·rw [aM h2,aM h2]
theorem Vu(x y z:Int):mC [x,y,z]=some (if x≠0 then x else if y≠0 then y else z):=by
 unfold mC ga ga ga ga
 by_cases h1:x=0<;>by_cases h2:y=0<;>by_cases h3:z=0<;>simp [h1,h2,h3]
theorem Iq(ha:Pl a)(hb:Pl b):ET a b=if sg a.Kind b.Kind≠0 then sg a.Kind b.Kind else if sg a.N b.N≠0 then sg a.N b.N else Lib.compareBytes a.S b.S:=by
 unfold ET k5
 rw [ha.plain_eq,hb.plain_eq,aY,aW (by decide),aY,aY,aM (by decide),MM,Ip,aY,aY]
 have:oC a.S b.S=some (Lib.compareBytes a.S b.S):=rfl
 rw [this,aY,Vu];rfl
theorem QC(x:Int):sg x x=0:=by unfold sg;rw [aM (by omega),aM (by omega)]
theorem Nr(h:x≠y):sg x y=(if x<y then -1 else 1)∧sg x y≠0:=by
 unfold sg
 by_cases h1:x<y
 ·rw [aW h1,aW h1];exact⟨rfl,by decide⟩
 ·rw [aM h1,aM h1,aW (by omega)];exact⟨rfl,by decide⟩
theorem Yj(ha:Pl a)(hb:Pl b)(h:a.Kind≠b.Kind):ET a b=if a.Kind<b.Kind then -1 else 1:=by
 rw [Iq ha hb,aW (Nr h).2,(Nr h).1]
theorem Yi(ha:Pl a)(hb:Pl b)(h:a.Kind=b.Kind)(h2:a.N≠b.N):ET a b=if a.N<b.N then -1 else 1:=by
 rw [Iq ha hb,h,QC,aM (by decide),aW (Nr h2).2,(Nr h2).1]
theorem Yh(ha:Pl a)(hb:Pl b)(h:a.Kind=b.Kind)(h2:a.N=b.N):ET a b=Lib.compareBytes a.S b.S:=by
 rw [Iq ha hb,h,QC,aM (by decide),h2,QC,aM (by decide)]
theorem BB(ha:Pl a)(hb:Pl b):oq a b=some (ET a b):=by
 unfold oq
 rw [jl,jl,ha.plain,hb.plain,aY,aW (by decide),aY,aY,aM (by decide)]
 by_cases h1:a.Kind=b.Kind
 ·rw [aM (by simpa using h1)]
  by_cases h2:a.N=b.N
  ·rw [aM (by simpa using h2),Yh ha hb h1 h2]
   have h4:=ha.short
   have h5:=kY (n:=41) (by omega)
   exact Yg a b a.S b.S 0 ge rfl rfl (by omega) (by omega) (by omega) (by omega)
  ·rw [aW (by simpa using h2),Yi ha hb h1 h2]
   by_cases h3:a.N<b.N
   ·rw [aW h3,aW (by simpa using h3)]
   ·rw [aM h3,aM (by simpa using h3)]
 ·rw [aW (by simpa using h1),Yj ha hb h1]
  by_cases h3:a.Kind<b.Kind
  ·rw [aW h3,aW (by simpa using h3)]
  ·rw [aM h3,aM (by simpa using h3)]
theorem uo(b:Bool):km b=some (bV b):=by cases b<;>rfl
theorem Vz(ha:Pl a)(hb:Pl b):sN a b=some (if a.Kind≠0∧b.Kind≠0∧a.Kind≠b.Kind then 2 else 0):=by
 unfold sN
 rw [fk,fk,ha.right,hb.right,aY,aW (by decide),aY,aY,aM (by decide)]
 rw [jl,jl,ha.plain,hb.plain,aY,aW (by decide),aY,aY]
 by_cases h:a.Kind≠0∧b.Kind≠0∧a.Kind≠b.Kind
 ·rw [aW h,aW (by simp [h])]
 ·rw [aM h,aM (by simp;intro h1 h2;exact Classical.byContradiction fun h3=>h ⟨h1,h2,h3⟩)]
theorem Jm(ha:Pl a)(hb:Pl b)(f:Int→Bool):((sN a b).bind fun r=>if(((r !=(0:Int))||(a.Kind==(0:Int)))||(b.Kind==(0:Int)))=true then some ((⟨(0:Int),(0:Int),(0:Int),[]⟩:ac),r)else(oq a b).bind fun r1=>(km (f r1)).bind fun r2=>some (r2,(0:Int)))=some (eK f a b):=by
 rw [Vz ha hb,aY]
 by_cases h0:a.Kind=0∨b.Kind=0
 ·have hne: ¬(a.Kind≠0∧b.Kind≠0∧a.Kind≠b.Kind):=fun h=>h0.elim h.1 h.2.1
  have e:eK f a b=(zV,0):=aW h0
  rw [aM hne,e,aW (by rcases h0 with h|h<;>simp [h])];rfl
 ·have h1:a.Kind≠0:=fun h=>h0 (.inl h)
  have h2:b.Kind≠0:=fun h=>h0 (.inr h)
  by_cases h3:a.Kind=b.Kind
  ·have hne: ¬(a.Kind≠0∧b.Kind≠0∧a.Kind≠b.Kind):=fun h=>h.2.2 h3
   have e:eK f a b=(bV (f (ET a b)),0):=by unfold eK;rw [aM h0,aW h3]
   rw [aM hne,e,aM (by simp [h1,h2]),BB ha hb,aY,uo];rfl
  ·have hp:a.Kind≠0∧b.Kind≠0∧a.Kind≠b.Kind:=⟨h1,h2,h3⟩
   have e:eK f a b=(zV,2):=by unfold eK;rw [aM h0,aM h3]
   rw [aW hp,e,aW (by simp)];rfl
theorem xa(ha:Pl a)(hb:Pl b):qW a b=some (eK (fun c=>c==0) a b):=Jm ha hb _
theorem qI(ha:Pl a)(hb:Pl b):mq a b=some (eK (fun c=>decide (c<0)) a b):=Jm ha hb _
theorem Bt(ha:Pl a)(hb:Pl b):pE a b=some (if a.Kind≤1∧b.Kind≤1 then 0 else 2):=by
 unfold pE
 rw [fk,fk,ha.right,hb.right,aY,aW (by decide),aY,aY,aM (by decide)]
 by_cases h:a.Kind≤1∧b.Kind≤1
 ·rw [aW h,aM (by simp;omega)]
 ·rw [aM h,aW (by simp;omega)]
theorem Aw(h:Tu a):iW a=some (FT a,0):=by
 cases h with
 |z=>rfl
 |b b=>cases b<;>rfl
theorem HA(ha:Tu a)(hb:Tu b):si a b=some (EY a b,0):=by
 cases ha with
 |z=>cases hb with
  |z=>rfl
  |b b=>cases b<;>rfl
 |b x=>cases hb with
  |z=>cases x<;>rfl
  |b b=>cases x<;>cases b<;>rfl
theorem Jo(ha:Tu a)(hb:Tu b):w9 a b=some (SS a b,0):=by
 cases ha with
 |z=>cases hb with
  |z=>rfl
  |b b=>cases b<;>rfl
 |b x=>cases hb with
  |z=>cases x<;>rfl
  |b b=>cases x<;>cases b<;>rfl
theorem Hz(ha:Pl a):iW a=some (if a.Kind≤1 then(FT a,0)else(zV,2)):=by
 by_cases h:a.Kind≤1
 ·rw [aW h];exact Aw ((iP ha).2 h)
 ·rw [aM h]
  unfold iW
  rw [Bt ha ha,aM (fun k=>h k.1)];rfl
theorem HB(ha:Pl a)(hb:Pl b):si a b=some (if a.Kind≤1∧b.Kind≤1 then(EY a b,0)else(zV,2)):=by
 by_cases h:a.Kind≤1∧b.Kind≤1
 ·rw [aW h];exact HA ((iP ha).2 h.1) ((iP hb).2 h.2)
 ·rw [aM h]
  unfold si
  rw [Bt ha hb,aM h];rfl
theorem Jp(ha:Pl a)(hb:Pl b):w9 a b=some (if a.Kind≤1∧b.Kind≤1 then(SS a b,0)else(zV,2)):=by
 by_cases h:a.Kind≤1∧b.Kind≤1
 ·rw [aW h];exact Jo ((iP ha).2 h.1) ((iP hb).2 h.2)
 ·rw [aM h]
  unfold w9
  rw [Bt ha hb,aM h];rfl
theorem Em{f:Int→Bool}{x y:ac}:((iW (eK f x y).1).bind fun r=>some (r.1,(eK f x y).2))=some (Eo (eK f x y)):=by
 unfold Eo
 by_cases h0:(eK f x y).2=0
 ·rw [aW h0,Aw (q8 f x y h0),aY,h0]
 ·rw [aM h0,BL f x y h0];rfl
theorem FL{k:Nat}(h:pk tag=some k)(hk:k≠0)(ha:Pl a)(hb:Pl b):Ea tag a b=some (BD tag a b):=by
 have op: ∀t,t=12∨t=13∨t=14∨t=15→iM (YS t) a b=some (wx t a b):=fun t ht=>WB ht ha hb
 rcases QN h hk with rfl|rfl|rfl|rfl|rfl|rfl|rfl|rfl|rfl|rfl|rfl|rfl|rfl|rfl|rfl|rfl
 ·have h2:iM 45 (iV 0) a=some (wx 13 (iV 0) a):=WB (tag:=13) (.inr (.inl rfl)) (.i 0 ⟨by decide,by decide⟩) ha
  show(iM 45 (iV 0) a).bind _=_
  rw [h2];rfl
 ·show(iW a).bind _=some (if a.Kind≤1 then(FT a,0)else(zV,2))
  rw [Hz ha];rfl
 ·show(km (a.Kind==0)).bind _=some (bV (a.Kind==0),0)
  rw [uo];rfl
 ·show(km (a.Kind !=0)).bind _=some (bV (a.Kind !=0),0)
  rw [uo];rfl
 ·show(iM 43 a b).bind _=some (wx 12 a b)
  rw [show iM 43 a b=some (wx 12 a b)from op 12 (.inl rfl)];rfl
 ·show(iM 45 a b).bind _=some (wx 13 a b)
  rw [show iM 45 a b=some (wx 13 a b)from op 13 (.inr (.inl rfl))];rfl
 ·show(iM 42 a b).bind _=some (wx 14 a b)
  rw [show iM 42 a b=some (wx 14 a b)from op 14 (.inr (.inr (.inl rfl)))];rfl
 ·show(iM 47 a b).bind _=some (wx 15 a b)
  rw [show iM 47 a b=some (wx 15 a b)from op 15 (.inr (.inr (.inr rfl)))];rfl
 ·show((qW a b).bind fun r=>some (r.1,r.2)).bind _=some (eK (fun c=>c==0) a b)
  rw [xa ha hb];rfl
 ·show((qW a b).bind fun r=>(iW r.1).bind fun r4=>some (r4.1,r.2)).bind _=some (Eo (eK (fun c=>c==0) a b))
  rw [xa ha hb,aY,Em];rfl
 ·show((mq a b).bind fun r=>some (r.1,r.2)).bind _=some (eK (fun c=>decide (c<0)) a b)
  rw [qI ha hb];rfl
 ·show((mq b a).bind fun r=>(iW r.1).bind fun r4=>some (r4.1,r.2)).bind _=some (Eo (eK (fun c=>decide (c<0)) b a))
  rw [qI hb ha,aY,Em];rfl
 ·show((mq b a).bind fun r=>some (r.1,r.2)).bind _=some (eK (fun c=>decide (c<0)) b a)
  rw [qI hb ha];rfl
 ·show((mq a b).bind fun r=>(iW r.1).bind fun r4=>some (r4.1,r.2)).bind _=some (Eo (eK (fun c=>decide (c<0)) a b))
  rw [qI ha hb,aY,Em];rfl
 ·show(si a b).bind _=some (if a.Kind≤1∧b.Kind≤1 then(EY a b,0)else(zV,2))
  rw [HB ha hb];rfl
 ·show(w9 a b).bind _=some (if a.Kind≤1∧b.Kind≤1 then(SS a b,0)else(zV,2))
  rw [Jp ha hb];rfl

theorem Xe(h:pk tag=some 1)(a b c:ac):BD tag a b=BD tag a c:=by
 have h4:tag=4∨tag=5∨tag=6∨tag=7:=by
  unfold pk at h
  repeat' split at h
  all_goals simp at h
  omega
 rcases h4 with rfl|rfl|rfl|rfl<;>rfl
theorem Zu(h:pk tag=some 1)(a b c:ac):dz tag a b=dz tag a c:=by
 unfold dz
 rw [Xe h a b c]
theorem Fc(nx:List ac→ac→Option (ac×Int))(m:bo)(own:List ac)(x a b:ac){k:Nat}(h:pk m.Tag=some k)(hk:k≠0)(ha:Pl a)(hb:Pl b)(hl:own.length≤60000):qH nx m own x a b=if(dz m.Tag a b).2=0 then nx (own++[(dz m.Tag a b).1]) x else some (dz m.Tag a b):=by
 unfold qH
 rw [FL h hk ha hb,aY]
 rcases va h hk ha hb with⟨h1,_,h3⟩|⟨h1,h2⟩|⟨h1,h2,_⟩
 ·rw [h3]at h1 ⊢
  rw [aW h1,aM (by simp [h1]),aM (by simp [h1]),cr (by simp;omega)];rfl
 ·rw [h1,h2];rfl
 ·rw [h1,h2];rfl
theorem Pc(r:List ac)(x:ac)(t:Tr):t.wf→SR t→xq r t→ ∀(rest:List bo) (own:List ac),own.length+t.size≤50000→
  ((ev r t).2≠0∧dc r (t.flat own.length++rest) own x=some (ev r t))∨
  ((ev r t).2=0∧ ∃w:List ac,w.length+1=t.size∧dc r (t.flat own.length++rest) own x=dc r rest (own++w++[(ev r t).1]) x):=by
 induction t with
 |lf n=>
  intro⟨h1,h2,h3,h4⟩ hr hc rest own hl
  simp only [Tr.flat,Tr.size,wC,kz]at hl ⊢
  refine .inr ?_
  have e1:(gT n (-1) (-1)).Tag=n.Tag:=rfl
  have ev0:(ev r (.lf n))=if n.Tag=1 then(n.Value,0)else((r[n.Col.toNat]?).getD zV,0):=rfl
  rcases Yw h1 with ht|ht
  ·rw [ev0,aW ht]
   refine⟨rfl,[],rfl,?_⟩
   rw [dc]
   rw [e1,aW (by simp [ht]),cr (by simp;omega)]
   simp only [aY,su]
   rfl
  ·rw [ev0,aM (by simp [ht])]
   refine⟨rfl,[],rfl,?_⟩
   have hb:=ML h2 ht
   obtain⟨_,v,hv,_⟩:=hc ht
   have e2:(gT n (-1) (-1)).Col=n.Col:=rfl
   rw [dc]
   rw [e1,aM (by simp [ht]),aW (by simp [ht]),e2,gM n.Col.toNat (by omega),hv]
   simp only [aY,su,F3]
   rw [cr (by simp;omega)]
   rfl
 |un n a ih=>
  intro⟨⟨h1,h2,h3,h4⟩,ha⟩ hr hc rest own hl
  have hap:=a.size_pos
  simp only [Tr.flat,Tr.size,jv]at hl ⊢
  obtain⟨m,hm⟩: ∃m,m=gT n (((own.length+a.size:Nat):Int)-1) (-1):=⟨_,rfl⟩
  rw [←hm]
  rw [Oo]
  rcases ih ha hr hc ([m]++rest) own (by omega)with⟨hx,he⟩|⟨hx,w,hw,he⟩
  ·rw [i9 hx]
   exact .inl ⟨hx,he⟩
  ·rw [he,mT hx]
   have hpl:Pl (ev r a).1:=by
    rcases mR r a ha hr hc with⟨_,h⟩|h|h
    ·exact h
    ·rw [h]at hx;cases hx
    ·rw [h]at hx;cases hx
   generalize (ev r a).1=v at hpl ⊢
   simp only [wC,kz]
   have e1:m.Tag=n.Tag:=by rw [hm];rfl
   have eL:m.L=((own.length+a.size:Nat):Int)-1:=by rw [hm];rfl
   have eR:m.R= -1:=by rw [hm];rfl
   have n1:n.Tag≠1:=fun h=>by rw [h]at h1;simp [pk]at h1
   have n2:n.Tag≠2:=fun h=>by rw [h]at h1;simp [pk]at h1
   have hstep:dc r (m::rest) (own++w++[v]) x=if(dz n.Tag v v).2=0 then dc r rest (own++w++[v]++[(dz n.Tag v v).1]) x else some (dz n.Tag v v):=by
    rw [dc]
    rw [e1,aM (by simpa using n1),aM (by simpa using n2)]
    rw [eL,eR,gM (own++w).length (by simp;omega),ui (dF _),za]
    simp only [Fq,aY]
    rw [aM (by decide),show(⟨0,0,0,[]⟩:ac)=zV from rfl,Fc _ m _ x v zV (by rw [e1];exact h1) (by decide) hpl .z (by simp;omega),e1,Zu h1 v _ v]
   rw [hstep]
   by_cases hb:(dz n.Tag v v).2=0
   ·rw [aW hb]
    exact .inr ⟨hb,w++[v],by simp;omega,by simp⟩
   ·rw [aM hb]
    exact .inl ⟨hb,rfl⟩
 |bi n a b iha ihb=>
  intro⟨⟨h1,h2,h3,h4⟩,ha,hb⟩ ⟨hra,hrb⟩ ⟨hca,hcb⟩ rest own hl
  have hap:=a.size_pos
  have hbp:=b.size_pos
  simp only [Tr.flat,Tr.size,jv]at hl ⊢
  obtain⟨m,hm⟩: ∃m,m=gT n (((own.length+a.size:Nat):Int)-1) (((own.length+a.size+b.size:Nat):Int)-1):=⟨_,rfl⟩
  rw [←hm]
  rw [Oq]
  rcases iha ha hra hca (b.flat (own.length+a.size)++([m]++rest)) own (by omega)with⟨hx,he⟩|⟨hx,w,hw,he⟩
  ·rw [i9 hx]
   exact .inl ⟨hx,he⟩
  ·rw [he,mT hx]
   have hpl:Pl (ev r a).1:=by
    rcases mR r a ha hra hca with⟨_,h⟩|h|h
    ·exact h
    ·rw [h]at hx;cases hx
    ·rw [h]at hx;cases hx
   generalize (ev r a).1=v at hpl ⊢
   have hl2:(own++w++[v]).length=own.length+a.size:=by simp;omega
   rw [←hl2]
   rcases ihb hb hrb hcb ([m]++rest) (own++w++[v]) (by rw [hl2];omega)with⟨hy,he2⟩|⟨hy,w2,hw2,he2⟩
   ·rw [i9 hy]
    exact .inl ⟨hy,he2⟩
   ·rw [he2,mT hy]
    have hpl2:Pl (ev r b).1:=by
     rcases mR r b hb hrb hcb with⟨_,h⟩|h|h
     ·exact h
     ·rw [h]at hy;cases hy
     ·rw [h]at hy;cases hy
    generalize (ev r b).1=u at hpl2 ⊢
    simp only [wC,kz]
    have e1:m.Tag=n.Tag:=by rw [hm];rfl
    have eL:m.L=((own.length+a.size:Nat):Int)-1:=by rw [hm];rfl
    have eR:m.R=((own.length+a.size+b.size:Nat):Int)-1:=by rw [hm];rfl
    have n1:n.Tag≠1:=fun h=>by rw [h]at h1;simp [pk]at h1
    have n2:n.Tag≠2:=fun h=>by rw [h]at h1;simp [pk]at h1
    have hstep:dc r (m::rest) (own++w++[v]++w2++[u]) x=if(dz n.Tag v u).2=0 then dc r rest (own++w++[v]++w2++[u]++[(dz n.Tag v u).1]) x else some (dz n.Tag v u):=by
     rw [dc]
     rw [e1,aM (by simpa using n1),aM (by simpa using n2)]
     rw [eL,eR,gM (own++w).length (by simp;omega)]
     have g1:(own++w++[v]++w2++[u])[(own++w).length]? =some v:=by
      rw [jv,jv,ui (dF _),za];rfl
     rw [g1]
     simp only [aY]
     rw [aW (by rw [kZ];omega),gM (own++w++[v]++w2).length (by simp;omega)]
     have g2:(own++w++[v]++w2++[u])[(own++w++[v]++w2).length]? =some u:=by
      rw [ui (dF _),za];rfl
     rw [g2]
     simp only [aY]
     rw [Fc _ m _ x v u (by rw [e1];exact h1) (by decide) hpl hpl2 (by simp;omega),e1]
    rw [hstep]
    by_cases hb:(dz n.Tag v u).2=0
    ·rw [aW hb]
     exact .inr ⟨hb,w++[v]++w2++[u],by simp;omega,by simp⟩
    ·rw [aM hb]
     exact .inl ⟨hb,rfl⟩
theorem y7(e:bL)(r:List ac)(x:ac): ∀ns:List bo,(∀n∈ns,n.Tag=2→0≤n.Col)→qG e r ns x=if s9 r ns then dc r e.Nodes [] x else some (zV,2)
 |[],_=>rfl
 |n::ns,hc=>by
  unfold qG
  rw [y7 e r x ns fun m hm=>hc m (kC _ hm)]
  have hcons:s9 r (n::ns)=((!(n.Tag==2)||yF r n.Col)&&s9 r ns):=rfl
  rw [hcons]
  by_cases ht:n.Tag=2
  ·have h0:=hc n (kE ..) ht
   have e0:(n.Tag==2)=true:=by simp [ht]
   rw [e0,aW rfl]
   by_cases h:(r.length:Int)≤n.Col
   ·have hb:yF r n.Col=false:=by unfold yF;rw [Bool.and_eq_false_iff];left;simp;omega
    simp [h,hb,zV]
   ·have hlt:n.Col.toNat<r.length:=by omega
    have e1:cE r n.Col=some r[n.Col.toNat]:=by rw [gM n.Col.toNat (by omega),n8 hlt]
    have hb:yF r n.Col=mt r[n.Col.toNat]:=by
     unfold yF
     rw [n8 hlt]
     have:decide (n.Col<(r.length:Int))=true:=by simp;omega
     rw [this];rfl
    rw [aW (by simpa using h),e1,hb]
    simp only [aY,jl]
    cases mt r[n.Col.toNat]<;>simp [zV]
  ·have e0:(n.Tag==2)=false:=by simp [ht]
   rw [e0]
   simp
theorem FM(e:bL)(r:List ac)(he:Lf e.Nodes)(hr:Ti r):zu e r=some (od r e.Nodes):=by
 unfold zu od
 rw [w7 e,aY]
 cases ht:mg e.Nodes with
 |none=>
  have:jP e.Nodes=false:=by unfold jP;rw [ht];rfl
  rw [this,aW (by decide)];rfl
 |some t=>
  have:jP e.Nodes=true:=by unfold jP;rw [ht];rfl
  rw [this,aM (by decide)]
  obtain⟨hw,hN,hs⟩:=jU ht
  rw [y7 e r _ e.Nodes (fun n hn h2=>(DG hw 0 (by rw [←hN];exact hn) h2).1)]
  cases hc:s9 r e.Nodes with
  |false=>rfl
  |true=>
   simp only [fe]
   have hct:=vV hr t hw 0 (by rw [←hN];exact hc)
   have hrt:=Au t 0 (by rw [←hN];exact he)
   have h:=Pc r zV t hw hrt hct [] [] (by simp;omega)
   rw [su,ph,←hN]at h
   rcases h with⟨_,h2⟩|⟨h1,w,h2,h3⟩
   ·exact h2
   ·have h4:dc r e.Nodes [] zV=some (ev r t):=by
     rw [h3]
     unfold dc
     rw [kz,gM w.length (by rw [cx (by simp<;>omega) (by simp<;>omega)];simp),ui (dF _),za]
     show some ((ev r t).1,(0:Int))=_
     rw [←h1]
    exact h4

theorem A3(h:m<79228162514264337593543950336):jH m=[((m%4294967296:Nat):Int),((m/4294967296%4294967296:Nat):Int),((m/18446744073709551616:Nat):Int),0,0,0,0,0]:=by
 unfold jH
 rw [Cf (show m/18446744073709551616<4294967296 by omega),Nat.div_eq_of_lt h]
 rfl
theorem So(P Q c:Nat)(h:c≤1):(P+Q+c)/4294967296=P/4294967296+Q/4294967296+(P%4294967296+Q%4294967296+c)/4294967296∧(P+Q+c)%4294967296=(P%4294967296+Q%4294967296+c)%4294967296:=by omega
theorem OC(P Q c:Nat)(h:Q+c≤P)(hc:c≤1):(P-Q-c)/4294967296=P/4294967296-Q/4294967296-(1-(P%4294967296+4294967296-Q%4294967296-c)/4294967296)∧(P-Q-c)%4294967296=(P%4294967296+4294967296-Q%4294967296-c)%4294967296∧Q/4294967296+(1-(P%4294967296+4294967296-Q%4294967296-c)/4294967296)≤P/4294967296∧1-(P%4294967296+4294967296-Q%4294967296-c)/4294967296≤1:=by omega
theorem abw(P Q c:Nat)(h:Q+c≤P)(hc:c≤1)(hP:P<2147483648):(P+4294967296-Q-c)%4294967296=P-Q-c:=by omega
variable{l:List co}
theorem Xf(hp:p<39614081257132168796771975168)(hq:q<39614081257132168796771975168)(s:Bool):ic ⟨jH p,s⟩ ⟨jH q,s⟩=some ⟨jH (p+q),s&&decide (p+q≠0)⟩:=by
 have dp:p/4294967296/4294967296=p/18446744073709551616:=by rw [IH]
 have dq:q/4294967296/4294967296=q/18446744073709551616:=by rw [IH]
 have ds:(p+q)/4294967296/4294967296=(p+q)/18446744073709551616:=by rw [IH]
 have hd:jH (p+q)=[(((p%4294967296+q%4294967296+0)%4294967296:Nat):Int),(((p/4294967296%4294967296+q/4294967296%4294967296+(p%4294967296+q%4294967296+0)/4294967296)%4294967296:Nat):Int),(((p/18446744073709551616+q/18446744073709551616+(p/4294967296%4294967296+q/4294967296%4294967296+(p%4294967296+q%4294967296+0)/4294967296)/4294967296)%4294967296:Nat):Int),0,0,0,0,0]:=by
  rw [A3 (by omega)]
  have b1:p/18446744073709551616<2147483648:=by omega
  have b2:q/18446744073709551616<2147483648:=by omega
  obtain⟨e1,e0⟩:=So p q 0 (by decide)
  rw [ym]at e1 e0
  rw [←ds,e1,e0,←dp,←dq]
  rw [←dp]at b1
  rw [←dq]at b2
  obtain⟨e2,e3⟩:=So (p/4294967296) (q/4294967296) ((p%4294967296+q%4294967296+0)/4294967296) (by clear ds dp dq e1 e0;omega)
  rw [e2,e3]
  have l:=Nat.div_le_div_right (c:=4294967296) (show p/4294967296%4294967296+q/4294967296%4294967296+(p%4294967296+q%4294967296+0)/4294967296≤8589934591 by omega)
  rw [show 8589934591/4294967296=1 from rfl]at l
  have ll:=Nat.add_le_add (Nat.add_le_add (Nat.le_of_lt_succ b1) (Nat.le_of_lt_succ b2)) l
  rw [Cf (Nat.lt_of_le_of_lt ll (by decide))]
 have rt:=hd
 rw [A3 (m:=p) (by omega),A3 (m:=q) (by omega)]
 unfold ic
 generalize hp0:p%4294967296=p0 at rt ⊢
 generalize hp1:p/4294967296%4294967296=p1 at rt ⊢
 generalize hp2:p/18446744073709551616=p2 at rt ⊢
 generalize hq0:q%4294967296=q0 at rt ⊢
 generalize hq1:q/4294967296%4294967296=q1 at rt ⊢
 generalize hq2:q/18446744073709551616=q2 at rt ⊢
 have c1:(p0+q0+0)/4294967296≤1:=by omega
 generalize hc:(p0+q0+0)/4294967296=c at rt c1 ⊢
 have c2:(p1+q1+c)/4294967296≤1:=by omega
 generalize hcc:(p1+q1+c)/4294967296=cc at rt c2 ⊢
 have c3:(p2+q2+cc)/4294967296=0:=by omega
 rw [show((0:Int))=((0:Nat):Int)from rfl]
 rw [iy _ _ _ s s 7 0 (by omega) p0 q0 0 rfl rfl (by omega) (by omega) (by omega),hc]
 rw [iy _ _ _ s s 6 1 (by omega) p1 q1 c rfl rfl (by omega) (by omega) (by omega),hcc]
 rw [iy _ _ _ s s 5 2 (by omega) p2 q2 cc rfl rfl (by omega) (by omega) (by omega),c3]
 rw [iy _ _ _ s s 4 3 (by omega) 0 0 0 rfl rfl (by omega) (by omega) (by omega)]
 rw [show(0+0+0)/4294967296=0 from rfl]
 rw [iy _ _ _ s s 3 4 (by omega) 0 0 0 rfl rfl (by omega) (by omega) (by omega)]
 rw [show(0+0+0)/4294967296=0 from rfl]
 rw [iy _ _ _ s s 2 5 (by omega) 0 0 0 rfl rfl (by omega) (by omega) (by omega)]
 rw [show(0+0+0)/4294967296=0 from rfl]
 rw [iy _ _ _ s s 1 6 (by omega) 0 0 0 rfl rfl (by omega) (by omega) (by omega)]
 rw [show(0+0+0)/4294967296=0 from rfl]
 rw [iy _ _ _ s s 0 7 (by omega) 0 0 0 rfl rfl (by omega) (by omega) (by omega)]
 have he:=Ay ⟨[(p0:Int),(p1:Int),(p2:Int),0,0,0,0,0],s⟩ ⟨[(q0:Int),(q1:Int),(q2:Int),0,0,0,0,0],s⟩ (7+1) (((0+0+0)/4294967296:Nat):Int) (p+q) (by omega) s
 rw [rt]at he
 rw [rt]
 exact he
theorem QM(hp:p<39614081257132168796771975168)(hq:q≤p)(s u:Bool)(hsu:(s==u)=false):ic ⟨jH p,s⟩ ⟨jH q,u⟩=some ⟨jH (p-q),s&&decide (p-q≠0)⟩:=by
 have dp:p/4294967296/4294967296=p/18446744073709551616:=by rw [IH]
 have dq:q/4294967296/4294967296=q/18446744073709551616:=by rw [IH]
 have ds:(p-q)/4294967296/4294967296=(p-q)/18446744073709551616:=by rw [IH]
 have hd:jH (p-q)=[(((p%4294967296+4294967296-q%4294967296-0)%4294967296:Nat):Int),(((p/4294967296%4294967296+4294967296-q/4294967296%4294967296-(1-(p%4294967296+4294967296-q%4294967296-0)/4294967296))%4294967296:Nat):Int),(((p/18446744073709551616+4294967296-q/18446744073709551616-(1-(p/4294967296%4294967296+4294967296-q/4294967296%4294967296-(1-(p%4294967296+4294967296-q%4294967296-0)/4294967296))/4294967296))%4294967296:Nat):Int),0,0,0,0,0]:=by
  rw [A3 (by omega)]
  have b1:p/18446744073709551616<2147483648:=by omega
  obtain⟨e1,e0,le,l1⟩:=OC p q 0 hq (by decide)
  rw [Nat.sub_zero]at e1 e0
  rw [←ds,e1,e0,←dp,←dq]
  rw [←dp]at b1
  obtain⟨e2,e3,le2,l2⟩:=OC (p/4294967296) (q/4294967296) (1-(p%4294967296+4294967296-q%4294967296-0)/4294967296) le l1
  rw [e2,e3]
  rw [abw _ _ _ le2 l2 b1]
 have rt:=hd
 rw [A3 (m:=p) (by omega),A3 (m:=q) (by omega)]
 unfold ic
 have hge:(p/18446744073709551616+4294967296-q/18446744073709551616-(1-(p/4294967296%4294967296+4294967296-q/4294967296%4294967296-(1-(p%4294967296+4294967296-q%4294967296-0)/4294967296))/4294967296))/4294967296=1:=by omega
 generalize hp0:p%4294967296=p0 at rt hge ⊢
 generalize hp1:p/4294967296%4294967296=p1 at rt hge ⊢
 generalize hp2:p/18446744073709551616=p2 at rt hge ⊢
 generalize hq0:q%4294967296=q0 at rt hge ⊢
 generalize hq1:q/4294967296%4294967296=q1 at rt hge ⊢
 generalize hq2:q/18446744073709551616=q2 at rt hge ⊢
 have c1:1-(p0+4294967296-q0-0)/4294967296≤1:=by omega
 generalize hc:1-(p0+4294967296-q0-0)/4294967296=c at rt hge c1 ⊢
 have c2:1-(p1+4294967296-q1-c)/4294967296≤1:=by omega
 generalize hcc:1-(p1+4294967296-q1-c)/4294967296=cc at rt hge c2 ⊢
 rw [show((0:Int))=((0:Nat):Int)from rfl]
 rw [iz _ _ _ s u s hsu 7 0 (by omega) p0 q0 0 rfl rfl (by omega) (by omega) (by omega),hc]
 rw [iz _ _ _ s u s hsu 6 1 (by omega) p1 q1 c rfl rfl (by omega) (by omega) (by omega),hcc]
 rw [iz _ _ _ s u s hsu 5 2 (by omega) p2 q2 cc rfl rfl (by omega) (by omega) (by omega),hge]
 rw [show 1-1=0 from rfl]
 rw [iz _ _ _ s u s hsu 4 3 (by omega) 0 0 0 rfl rfl (by omega) (by omega) (by omega)]
 rw [show 1-(0+4294967296-0-0)/4294967296=0 from rfl]
 rw [iz _ _ _ s u s hsu 3 4 (by omega) 0 0 0 rfl rfl (by omega) (by omega) (by omega)]
 rw [show 1-(0+4294967296-0-0)/4294967296=0 from rfl]
 rw [iz _ _ _ s u s hsu 2 5 (by omega) 0 0 0 rfl rfl (by omega) (by omega) (by omega)]
 rw [show 1-(0+4294967296-0-0)/4294967296=0 from rfl]
 rw [iz _ _ _ s u s hsu 1 6 (by omega) 0 0 0 rfl rfl (by omega) (by omega) (by omega)]
 rw [show 1-(0+4294967296-0-0)/4294967296=0 from rfl]
 rw [iz _ _ _ s u s hsu 0 7 (by omega) 0 0 0 rfl rfl (by omega) (by omega) (by omega)]
 have he:=Ay ⟨[(p0:Int),(p1:Int),(p2:Int),0,0,0,0,0],s⟩ ⟨[(q0:Int),(q1:Int),(q2:Int),0,0,0,0,0],u⟩ (7+1) ((1-(0+4294967296-0-0)/4294967296:Nat):Int) (p-q) (by omega) s
 rw [rt]at he
 rw [rt]
 exact he
theorem YZ(hp:p<39614081257132168796771975168)(hq:q<39614081257132168796771975168)(s t:Bool):sM ⟨jH p,s⟩ ⟨jH q,t⟩=some (decide (p<q)):=by
 rw [A3 (m:=p) (by omega),A3 (m:=q) (by omega)]
 unfold sM
 obtain⟨f,hf⟩: ∃f,ge=f+9:=⟨ge-9,by have:=kY (n:=9) (by omega);omega⟩
 rw [hf]
 rw [show(7:Int)=((7:Nat):Int)from rfl,iA _ _ s t (f+8) 7 (by omega) 0 0 rfl rfl,aW rfl]
 rw [show((7:Nat):Int)-1=((6:Nat):Int)from rfl,iA _ _ s t (f+7) 6 (by omega) 0 0 rfl rfl,aW rfl]
 rw [show((6:Nat):Int)-1=((5:Nat):Int)from rfl,iA _ _ s t (f+6) 5 (by omega) 0 0 rfl rfl,aW rfl]
 rw [show((5:Nat):Int)-1=((4:Nat):Int)from rfl,iA _ _ s t (f+5) 4 (by omega) 0 0 rfl rfl,aW rfl]
 rw [show((4:Nat):Int)-1=((3:Nat):Int)from rfl,iA _ _ s t (f+4) 3 (by omega) 0 0 rfl rfl,aW rfl]
 rw [show((3:Nat):Int)-1=((2:Nat):Int)from rfl,iA _ _ s t (f+3) 2 (by omega) _ _ rfl rfl]
 by_cases h2:((p/18446744073709551616:Nat):Int)=((q/18446744073709551616:Nat):Int)
 ·rw [aW h2,show((2:Nat):Int)-1=((1:Nat):Int)from rfl,iA _ _ s t (f+2) 1 (by omega) _ _ rfl rfl]
  by_cases h1:((p/4294967296%4294967296:Nat):Int)=((q/4294967296%4294967296:Nat):Int)
  ·rw [aW h1,show((1:Nat):Int)-1=((0:Nat):Int)from rfl,iA _ _ s t (f+1) 0 (by omega) _ _ rfl rfl]
   by_cases h0:((p%4294967296:Nat):Int)=((q%4294967296:Nat):Int)
   ·rw [aW h0]
    unfold ld
    rw [aM (by decide)]
    congr 1
    symm
    rw [Fp];omega
   ·rw [aM h0]
    congr 1
    apply jI
    simp only [kZ];omega
  ·rw [aM h1]
   congr 1
   apply jI
   simp only [kZ];omega
 ·rw [aM h2]
  congr 1
  apply jI
  simp only [kZ];omega
theorem SD(hx:x.natAbs<39614081257132168796771975168)(hy:y.natAbs<39614081257132168796771975168):mp (lk x) (lk y)=some (lk (x+y)):=by
 unfold mp lk
 rw [YZ hx hy]
 simp only [aY]
 by_cases h:(decide (x<0)==decide (y<0))=true
 ·have hs:decide (y<0)=decide (x<0):=(eq_of_beq h).symm
  have hne:(decide (x<0) !=decide (y<0))=false:=by rw [hs];simp
  rw [hne]
  simp only [gh,ez,aY]
  rw [hs,Xf hx hy]
  congr 2
  ·congr 1
   have:(decide (x<0)=true↔decide (y<0)=true):=by rw [hs]
   simp only [kZ]at this
   omega
  ·apply jI
   have:(decide (x<0)=true↔decide (y<0)=true):=by rw [hs]
   simp only [kZ]at this
   simp only [lr,kZ]
   omega
 ·have hb:(decide (x<0)==decide (y<0))=false:=by simpa using h
  have hne:(decide (x<0) !=decide (y<0))=true:=by simp only [bne,hb];rfl
  rw [hne]
  simp only [fe,aY]
  have hxy: ¬(x<0↔y<0):=by
   intro hi
   have:decide (x<0)=decide (y<0):=by simp only [Ac];exact hi
   rw [this]at hb;simp at hb
  by_cases hlt:x.natAbs<y.natAbs
  ·rw [aW (by simpa using hlt)]
   have hb' :(decide (y<0)==decide (x<0))=false:=by
    cases q1:decide (x<0)<;>cases q2:decide (y<0)<;>simp_all
   rw [QM hy (by omega) _ _ hb']
   congr 2
   ·congr 1;omega
   ·apply jI
    simp only [lr,kZ]
    omega
  ·rw [aM (by simpa using hlt)]
   rw [QM hx (by omega) _ _ hb]
   congr 2
   ·congr 1;omega
   ·apply jI
    simp only [lr,kZ]
    omega
def oO(z:Int):ac:=⟨4,z/18446744073709551616,z%18446744073709551616,[]⟩
def AD(z:Int):Prop:=z.natAbs<1208925819614629174706176
theorem GY(m:Nat)(h:m<79228162514264337593543950336)(b:Bool):ny ((m/18446744073709551616:Nat):Int) ((m%18446744073709551616:Nat):Int) ⟨List.replicate 8 0,b⟩=some ⟨jH m,b⟩:=by
 rw [A3 h]
 unfold ny
 rw [DK,we,DK,we]
 have e1:m%18446744073709551616%4294967296=m%4294967296:=by omega
 have e2:m%18446744073709551616/4294967296=m/4294967296%4294967296:=by omega
 have e3:m/18446744073709551616%4294967296=m/18446744073709551616:=by omega
 have e4:m/18446744073709551616/4294967296=0:=by omega
 rw [e1,e2,e3,e4]
 rfl
theorem SE(h:AD z):qV (oO z).N (oO z).U=some (lk z):=by
 unfold AD at h
 unfold qV oO lk
 simp only []
 by_cases hz:z<0
 ·rw [aW (by rw [kZ];omega),ug hz]
  obtain⟨u,hu⟩:=Dx (show 0≤z%18446744073709551616 by omega)
  have hul:u<18446744073709551616:=by omega
  have hn:IntKind.u64.wrap (z/18446744073709551616)=((18446744073709551616-(-(z/18446744073709551616)).toNat:Nat):Int):=by rw [tw];omega
  rw [hu,xp hul,hn,xp (by omega)]
  have elow:IntKind.u64.wrap (((18446744073709551615-u:Nat):Int)+1)=((z.natAbs%18446744073709551616:Nat):Int):=by rw [tw];omega
  rw [elow]
  have:=GY z.natAbs (by omega) true
  by_cases hl:z.natAbs%18446744073709551616=0
  ·rw [aW (by rw [hl];rfl)]
   have ehigh:IntKind.u64.wrap (((18446744073709551615-(18446744073709551616-(-(z/18446744073709551616)).toNat):Nat):Int)+1)=((z.natAbs/18446744073709551616:Nat):Int):=by rw [tw];omega
   rw [ehigh]
   exact this
  ·rw [aM (by rw [ss];omega)]
   have ehigh:((18446744073709551615-(18446744073709551616-(-(z/18446744073709551616)).toNat):Nat):Int)=((z.natAbs/18446744073709551616:Nat):Int):=by omega
   rw [ehigh]
   exact this
 ·rw [aM (by rw [kZ];omega),tu hz]
  have e1:z%18446744073709551616=((z.natAbs%18446744073709551616:Nat):Int):=by omega
  have e2:IntKind.u64.wrap (z/18446744073709551616)=((z.natAbs/18446744073709551616:Nat):Int):=by rw [tw];omega
  rw [e1,e2]
  exact GY z.natAbs (by omega) false
theorem Nn(h:AD z):xL (lk z)=some (oO z,0):=by
 unfold AD at h
 unfold xL vG lk oO
 generalize hm:z.natAbs=m at h ⊢
 have i3:cE (jH m) 3=some ((m/79228162514264337593543950336%4294967296:Nat):Int):=rfl
 have i2:cE (jH m) 2=some ((m/18446744073709551616%4294967296:Nat):Int):=rfl
 have i1:cE (jH m) 1=some ((m/4294967296%4294967296:Nat):Int):=rfl
 have i0:cE (jH m) 0=some ((m%4294967296:Nat):Int):=rfl
 simp only [i3,i2,i1,i0,aY]
 rw [E9]
 unfold ft
 rw [xE _ _ (uD _ (by decide)) (uD _ (by decide)),xE _ _ (uD _ (by decide)) (uD _ (by decide))]
 have hhi:m/79228162514264337593543950336%4294967296*4294967296+m/18446744073709551616%4294967296=m/18446744073709551616:=by omega
 have hlo:m/4294967296%4294967296*4294967296+m%4294967296=m%18446744073709551616:=by
  have:=Nat.mod_mul (x:=m) (a:=4294967296) (b:=4294967296)
  rw [show 4294967296*4294967296=18446744073709551616 from rfl]at this
  rw [this,Nat.mul_comm,Nat.add_comm]
 rw [hhi,hlo]
 have bhi:m/18446744073709551616<18446744073709551616:=by omega
 have blo:m%18446744073709551616<18446744073709551616:=uD _ (by decide)
 by_cases hz:z<0
 ·rw [aW (by simpa using hz),xp blo,xp bhi]
  have ew:IntKind.u64.wrap (((18446744073709551615-m%18446744073709551616:Nat):Int)+1)=z%18446744073709551616:=by rw [tw];omega
  rw [ew]
  unfold lg
  simp only [hz,Cb]
  by_cases hl0:z%18446744073709551616=0
  ·rw [aW (by rw [hl0];rfl)]
   have eh:IntKind.i64.wrap (IntKind.u64.wrap (((18446744073709551615-m/18446744073709551616:Nat):Int)+1))=z/18446744073709551616:=by rw [uB,tw];omega
   rw [eh,ug (show z/18446744073709551616<0 by omega)]
   rfl
  ·rw [aM (by simpa using hl0)]
   have eh:IntKind.i64.wrap ((18446744073709551615-m/18446744073709551616:Nat):Int)=z/18446744073709551616:=by rw [uB];omega
   rw [eh,ug (show z/18446744073709551616<0 by omega)]
   rfl
 ·rw [aM (by simpa using hz)]
  unfold lg
  simp only [hz,decide_false]
  have eh:IntKind.i64.wrap ((m/18446744073709551616:Nat):Int)=z/18446744073709551616:=by rw [uB];omega
  have el:((m%18446744073709551616:Nat):Int)=z%18446744073709551616:=by omega
  rw [eh,el,tu (show¬z/18446744073709551616<0 by omega)]
  rfl
theorem xK(z:Int):fh (oO z)=true:=by unfold fh dh oO;rfl
theorem FI(h:fh v=true)(hk:v.Kind=2)(hr:r64 v.N):sf zV v=some (oO v.N,0):=by
 unfold sf qU oQ
 have hz:fh zV=true:=rfl
 simp only [fk,h,hz,aY,ly,wd,fe,gh,ez,uA]
 have e1:(zV.Kind==0)=true:=rfl
 have e2:(v.Kind==0)=false:=by rw [hk];rfl
 have e3:(v.Kind==2)=true:=by rw [hk];rfl
 simp only [e1,e2,e3,Bool.true_or,Bool.or_true,ly,gh,ez,fe]
 have hs:AD v.N:=by unfold r64 at hr;unfold AD;omega
 rw [jh hr,aY,Nn hs]
 rfl
theorem Hx(h:fh v=true)(hk:v.Kind=2)(hr:r64 v.N)(hz:AD z)(hz2:AD (z+v.N)):sf (oO z) v=some (oO (z+v.N),0):=by
 unfold sf qU oQ
 simp only [fk,h,xK,aY,ly,wd,fe,gh,ez,uA]
 have e1:((oO z).Kind==0)=false:=rfl
 have e4:((oO z).Kind==4)=true:=rfl
 have e2:(v.Kind==0)=false:=by rw [hk];rfl
 have e3:(v.Kind==2)=true:=by rw [hk];rfl
 simp only [e1,e2,e3,e4,Bool.or_true,ly,gh,ez,fe]
 have hx:z.natAbs<39614081257132168796771975168:=by unfold AD at hz;omega
 have hy:v.N.natAbs<39614081257132168796771975168:=by unfold r64 at hr;omega
 rw [jh hr,SE hz,aY,aY,SD hx hy,aY,Nn hz2]
 rfl
theorem Jn(h:AD z):uS (oO z)=some (if r64 z then(iV z,0)else(zV,140)):=by
 unfold uS qU
 simp only [fk,xK,aY,ly,gh,ez,uA]
 have e1:((oO z).Kind==0)=false:=rfl
 have e4:((oO z).Kind==4)=true:=rfl
 simp only [e1,e4,Bool.or_true,ly,gh,ez]
 obtain⟨n,h1,h2⟩:=KK (z:=z) (by unfold AD at h;omega)
 rw [SE h,aY,h1,aY]
 by_cases hr:r64 z
 ·rw [aW hr,ug hr,aM (by simp),h2 hr]
  rfl
 ·rw [aM hr,tu hr]
  rfl
theorem Hy:uS zV=some (zV,0):=rfl
theorem EW{kind:Int}(h:fh v=true)(hk:v.Kind=0∨v.Kind=kind):pc kind [v]=some 0:=by
 unfold pc jS jS
 rw [np,h]
 simp only [fe,aY]
 rw [aM (by decide),aM]
 simp
 omega
theorem Hh(hr:r64 v.N):qx v=some (oO v.N):=by
 unfold r64 at hr
 unfold qx oO
 have e:(2:Int)^(min (Int.toNat (63:Int)) IntKind.i64.bits)=9223372036854775808:=by decide
 rw [e,tw]
 congr 2
 rw [Int.fdiv_eq_ediv_of_nonneg _ (by decide)]
 omega
theorem QL(hx:AD x)(hy:AD y)(hs:AD (x+y)):vX (oO x) (oO y)=some (oO (x+y),0):=by
 unfold AD at hx hy hs
 unfold vX oO KI
 simp only []
 rw [aW (by omega),aY]
 simp only []
 rw [aW (by rw [tw,tw];omega),aY]
 simp only []
 have eh:IntKind.i64.wrap ((IntKind.u64.wrap (x/18446744073709551616)+IntKind.u64.wrap (y/18446744073709551616)+(x%18446744073709551616+y%18446744073709551616+0)/18446744073709551616)%18446744073709551616)=(x+y)/18446744073709551616:=by
  rw [uB,tw,tw]
  omega
 rw [eh]
 have rx:r64 (x/18446744073709551616):=by unfold r64;omega
 have ry:r64 (y/18446744073709551616):=by unfold r64;omega
 have rs:r64 ((x+y)/18446744073709551616):=by unfold r64;omega
 obtain⟨a1,a2⟩:=xy rx rs
 obtain⟨b1,b2⟩:=xy ry rs
 rw [Iw a2 b2,a1,b1]
 have hno:((decide (x/18446744073709551616<0) !=decide ((x+y)/18446744073709551616<0))&&(decide (y/18446744073709551616<0) !=decide ((x+y)/18446744073709551616<0)))=false:=by
  rw [rl]
  intro h
  simp only [lr,qN,o0,Ac]at h
  omega
 have el:(x%18446744073709551616+y%18446744073709551616+0)%18446744073709551616=(x+y)%18446744073709551616:=by omega
 rw [hno,aM (by simp),el]
theorem PO(h:fh v=true)(hk:v.Kind=2)(hr:r64 v.N):sr zV v=some (oO v.N,0):=by
 unfold sr
 rw [EW (v:=zV) rfl (.inl rfl),EW h (.inr hk),aY,aY,aM (by decide),aM (by decide),aM (by rw [hk];decide),aW (by rfl),Hh hr]
 rfl
theorem SB(h:fh v=true)(hk:v.Kind=2)(hr:r64 v.N)(hz:AD z)(hz2:AD (z+v.N)):sr (oO z) v=some (oO (z+v.N),0):=by
 unfold sr
 have hs:AD v.N:=by unfold r64 at hr;unfold AD;omega
 rw [EW (kind:=4) (xK z) (.inr rfl),EW h (.inr hk),aY,aY,aM (by decide),aM (by decide),aM (by rw [hk];decide),aM (by show¬((4:Int)==0)=true;decide),Hh hr,aY,QL hz hs hz2]
 rfl
theorem VO(h:AD z):ye (oO z)=some (if r64 z then(iV z,0)else(zV,140)):=by
 unfold AD at h
 unfold ye
 rw [EW (kind:=4) (xK z) (.inr rfl),aY,aM (by decide),aM (by show¬((4:Int)==0)=true;decide)]
 have e:nQ (IntKind.i64.wrap (oO z).U)=some (iV (IntKind.i64.wrap (z%18446744073709551616))):=rfl
 have hw:r64 (IntKind.i64.wrap (z%18446744073709551616)):=ot _
 rw [e,aY,Hh (v:=iV (IntKind.i64.wrap (z%18446744073709551616))) hw,aY]
 by_cases hr:r64 z
 ·have:IntKind.i64.wrap (z%18446744073709551616)=z:=by unfold r64 at hr;rw [uB];omega
  rw [aW hr,this,aW (by simp [iV])]
 ·rw [aM hr,aM]
  ·rfl
  ·intro hh
   have hh:=IN hh
   unfold oO iV at hh
   simp only [ac.mk.injEq,true_and,and_true]at hh
   refine hr ?_
   have h1:=hh.1
   unfold r64 at hw ⊢
   generalize IntKind.i64.wrap (z%18446744073709551616)=w at hh hw h1
   omega

theorem LQ(h:p5 l=true)(hr:r∈l):cZ r=true:=by
 unfold p5 at h
 exact ju.1 h r hr
theorem y9{a b:co}(ha:cZ a=true)(hb:cZ b=true):o8 a b=some (ek a b):=by rw [D8,ha,hb];rfl

theorem xY{r:List ac}{ns:List bo}(he:Lf ns)(hr:Ti r):((od r ns).2=0∧Pl (od r ns).1)∨((od r ns).2≠0∧(od r ns).2≠140∧(od r ns).1=zV)∨od r ns=(zV,140):=by
 unfold od
 cases ht:mg ns with
 |none=>right;left;exact⟨show(200:Int)≠0 by decide,show(200:Int)≠140 by decide,rfl⟩
 |some t=>
  obtain⟨hw,hN,hs⟩:=jU ht
  simp only []
  by_cases hc:s9 r ns=true
  ·rw [aW hc]
   have hrt:SR t:=Au t 0 (by rw [←hN];exact he)
   have hcv:xq r t:=vV hr t hw 0 (by rw [←hN];exact hc)
   rcases mR r t hw hrt hcv with h|h|h
   ·exact .inl h
   ·rw [h];right;left;decide
   ·exact .inr (.inr h)
  ·rw [aM hc];right;left;decide
def AY(ns:List bo)(rows:List co):List ac:=rows.filterMap fun r=>if(od r ns).2=0∧(od r ns).1.Kind≠0 then some (od r ns).1 else none
def C2(ns:List bo)(rows:List co):Bool:=rows.any fun r=>(od r ns).2 !=0&&(od r ns).2 !=140
def CY(ns:List bo)(rows:List co):Bool:=rows.any fun r=>(od r ns).2==140
def ro(tag:Int)(vs:List ac):Bool:=tag==3&&vs.any fun v=>v.Kind !=2
def FG(rows:List co):Prop:= ∀r∈rows,Ti r
theorem EO(ns:List bo)(r:co)(t:List co):AY ns (r::t)=if(od r ns).2=0∧(od r ns).1.Kind≠0 then(od r ns).1::AY ns t else AY ns t:=by
 unfold AY
 rw [List.filterMap_cons]
 split
 ·split
  ·rename_i h;rw [aW (by simpa using h)]at*;simp_all
  ·rfl
 ·rename_i h;split
  ·rename_i h2;rw [aW h2]at h;simp at h;rw [h]
  ·rename_i h2;rw [aM h2]at h;simp at h
theorem Im{ns:List bo}(he:Lf ns): ∀{rows:List co},FG rows→ ∀v∈AY ns rows,Pl v
 |[],_,v,hv=>by simp [AY]at hv
 |r::t,hr,v,hv=>by
  rw [EO]at hv
  have ht:FG t:=fun x hx=>hr x (kC _ hx)
  split at hv
  ·rename_i h
   rcases fF.1 hv with hv|hv
   ·subst hv
    rcases xY he (hr r (kE ..))with q|q|q
    ·exact q.2
    ·exact absurd h.1 q.1
    ·rw [q]at h;exact absurd h.1 (by decide)
   ·exact Im he ht v hv
  ·exact Im he ht v hv
theorem On(ns:List bo)(rows:List co):(AY ns rows).length≤rows.length:=List.length_filterMap_le ..
theorem Dl(a:hY)(hl:a.Arg.Nodes.length≤50000)(he:Lf a.Arg.Nodes): ∀(rows:List co) (out:List ac) (fault:Int),FG rows→out.length+rows.length≤1000000→jr a rows out fault=some (if C2 a.Arg.Nodes rows then([],2)else(out++AY a.Arg.Nodes rows,if CY a.Arg.Nodes rows then 140 else fault))
 |[],out,fault,_,_=>by
  unfold jr C2 CY AY
  simp
 |r::t,out,fault,hr,hk=>by
  have ht:FG t:=fun x hx=>hr x (kC _ hx)
  rw [iG]at hk
  unfold jr
  rw [vR a.Arg r hl he (hr r (kE ..)),aY,EO]
  have eb:C2 a.Arg.Nodes (r::t)=(((od r a.Arg.Nodes).2 !=0&&(od r a.Arg.Nodes).2 !=140)||C2 a.Arg.Nodes t):=rfl
  have ef:CY a.Arg.Nodes (r::t)=(((od r a.Arg.Nodes).2==140)||CY a.Arg.Nodes t):=rfl
  rw [eb,ef]
  rcases xY he (hr r (kE ..))with q|q|q
  ·rw [q.1]
   simp only [Int.reduceBEq,gh,ez,Int.reduceBNe,Dq,rk,true_and]
   by_cases hk0:(od r a.Arg.Nodes).1.Kind=0
   ·rw [aM (by simp [hk0]),Dl a hl he t out fault ht (by omega)]
    simp only [hk0,o0,IJ,ez]
   ·rw [aW (by simpa using hk0),aW hk0,cr (by simp only [yq];omega),aY,Dl a hl he t _ fault ht (by simp only [iO,yq];omega)]
    simp only [jv,Hb]
  ·rw [aM (by simpa using q.2.1),aW (by simpa using q.1)]
   have:((od r a.Arg.Nodes).2 !=0&&(od r a.Arg.Nodes).2 !=140)=true:=by simp [q.1,q.2.1]
   rw [this];simp
  ·rw [q]
   simp only [Du,fe,Dl a hl he t out 140 ht (by omega),Int.reduceBNe,Bool.and_false,rk,Bool.true_or]
   rw [aM (by decide: ¬((140:Int)=0∧_))]
   simp
def qc:List ac→Int
 |[]=>0
 |v::t=>v.N+qc t
def pick(tag:Int)(b v:ac):ac:=if tag=4∧val v b<0∨tag=5∧0<val v b then v else b
def ve(tag:Int):List ac→ac
 |[]=>zV
 |v::t=>t.foldl (pick tag) v
def Qy(vs:List ac):ac×Int:=if vs=[]then(zV,0)else if r64 (qc vs)then(iV (qc vs),0)else(zV,140)
def Rt(tag:Int)(vs:List ac)(fault:Int):ac×Int:=
 if fault≠0 then(zV,fault)else if tag=2 then(iV (vs.length:Int),0)else if tag=3 then Qy vs else(ve tag vs,0)
def vZ(a:hY)(rows:List co):ac×Int:=
 if a.Tag=1 then(iV (rows.length:Int),0)else if C2 a.Arg.Nodes rows||ro a.Tag (AY a.Arg.Nodes rows)then(zV,2)else Rt a.Tag (AY a.Arg.Nodes rows) (if CY a.Arg.Nodes rows then 140 else 0)
theorem I8(p q:List ac):qc (p++q)=qc p+qc q:=by
 induction p with
 |nil=>simp [qc]
 |cons v t ih=>simp only [wC,qc,ih];omega
theorem No: ∀(p:List ac),(∀v∈p,r64 v.N)→(qc p).natAbs≤p.length*9223372036854775808
 |[],_=>by simp [qc]
 |v::t,h=>by
  have h1:=No t fun x hx=>h x (kC _ hx)
  have h2:=h v (kE ..)
  unfold r64 at h2
  simp only [qc,iG]
  omega
theorem Hn{p:List ac}(h: ∀v∈p,r64 v.N)(hl:p.length≤100000):AD (qc p):=by
 have:=No p h
 unfold AD
 omega
theorem Sr(tag:Int)(p:List ac)(v:ac):ve tag (p++[v])=if p=[]then v else pick tag (ve tag p) v:=by
 cases p with
 |nil=>rfl
 |cons x t=>simp [ve]
theorem Sq(tag:Int): ∀(p:List ac),p≠[]→ve tag p∈p
 |[],h=>absurd rfl h
 |v::t,_=>by
  unfold ve
  have: ∀(t:List ac) (b:ac),t.foldl (pick tag) b∈b::t:=by
   intro t
   induction t with
   |nil=>intro b;simp
   |cons x t ih=>
    intro b
    simp only [List.foldl_cons]
    have:=ih (pick tag b x)
    have hp:pick tag b x=b∨pick tag b x=x:=by unfold pick;split<;>simp
    rcases hp with hp|hp<;>rw [hp]at this ⊢
    ·rcases fF.1 this with h|h
     ·rw [h];simp
     ·exact kC _ (kC _ h)
    ·exact kC _ this
  exact this t v
theorem ED(l:List ac)(h: ¬ro 3 l=true): ∀v∈l,v.Kind=2:=by
 intro v hv
 unfold ro at h
 simp only [Du,uA,zb,IK]at h
 simpa using h v hv
theorem B7{f:ac→Option Bool}{g:ac→Bool}(hf: ∀v,f v=some (g v))(l:List ac):d6 l f=some (l.any g):=by
 have key: ∀(l:List ac) (i:Nat),∃j:Int,c0 f l i=some j∧decide (0≤j)=l.any g:=by
  intro l
  induction l with
  |nil=>intro i;exact⟨-1,rfl,rfl⟩
  |cons v t ih=>
   intro i
   unfold c0
   rw [hf,aY,uG]
   by_cases hg:g v=true
   ·rw [aW hg,hg]
    exact⟨(i:Int),rfl,by simp⟩
   ·rw [aM hg,rl.2 hg,rk]
    exact ih (i+1)
 obtain⟨j,h1,h2⟩:=key l 0
 unfold d6 gv
 rw [h1]
 simp only [aY]
 rw [←h2]
theorem qu{x y:ac}(hx:fh x=true)(hy:fh y=true):ie x y=some (val x y):=by
 unfold ie
 have h1:cZ [x]=true:=by unfold cZ;simp [hx]
 have h2:cZ [y]=true:=by unfold cZ;simp [hy]
 rw [y9 h1 h2,aY]
 have:=YR 0 0 0 0
 unfold ek
 simp only [ek]
 split<;>simp_all
theorem Mk: ∀(l:List ac) (m:ac),(∀v∈l,fh v=true)→fh m=true→cF ie l m=some (l.foldl (pick 4) m)
 |[],m,_,_=>rfl
 |v::t,m,h,hm=>by
  have hv:=h v (kE ..)
  have ht:=fun x hx=>h x (kC v hx)
  unfold cF
  rw [qu hv hm,aY,List.foldl_cons]
  by_cases hc:val v m<0
  ·rw [aW (by simpa using hc),Mk t v ht hv]
   simp [pick,hc]
  ·rw [aM (by simpa using hc),Mk t m ht hm]
   simp [pick,hc]
theorem Ml: ∀(l:List ac) (m:ac),(∀v∈l,fh v=true)→fh m=true→cG ie l m=some (l.foldl (pick 5) m)
 |[],m,_,_=>rfl
 |v::t,m,h,hm=>by
  have hv:=h v (kE ..)
  have ht:=fun x hx=>h x (kC v hx)
  unfold cG
  rw [qu hv hm,aY,List.foldl_cons]
  by_cases hc:0<val v m
  ·rw [aW (by simpa using hc),Ml t v ht hv]
   simp [pick,hc]
  ·rw [aM (by simpa using hc),Ml t m ht hm]
   simp [pick,hc]
theorem Y7(v:α)(t:List α):cE (v::t) (0:Int)=some v:=rfl
theorem Xn{l:List ac}(h: ∀v∈l,fh v=true)(hne:l≠[]):eU l ie=some (ve 4 l):=by
 cases l with
 |nil=>exact absurd rfl hne
 |cons v t=>
  unfold eU gi
  rw [aM (by rw [iG,kZ];omega),Y7,aY]
  exact Mk t v (fun x hx=>h x (kC v hx)) (h v (kE ..))
theorem Xo{l:List ac}(h: ∀v∈l,fh v=true)(hne:l≠[]):eV l ie=some (ve 5 l):=by
 cases l with
 |nil=>exact absurd rfl hne
 |cons v t=>
  unfold eV gj
  rw [aM (by rw [iG,kZ];omega),Y7,aY]
  exact Ml t v (fun x hx=>h x (kC v hx)) (h v (kE ..))
theorem Sx(x:ac): ∀(l:List ac) (z:Int) (n:Nat),(∀v∈l,Pl v∧v.Kind=2)→z.natAbs≤n*9223372036854775808→n+l.length≤100000→mG l x (oO z)=some (if r64 (z+qc l)then(iV (z+qc l),0)else(zV,140))
 |[],z,n,_,hz,hn=>by
  have hz2:AD z:=by unfold AD;omega
  unfold mG
  rw [VO hz2,aY]
  simp only [qc,Int.add_zero]
 |v::t,z,n,h,hz,hn=>by
  rw [iG]at hn
  obtain⟨hv,hk⟩:=h v (kE ..)
  have hr:=hv.r64
  have hb:(z+v.N).natAbs≤(n+1)*9223372036854775808:=by unfold r64 at hr;omega
  unfold mG
  rw [SB hv.right hk hr (z:=z) (by unfold AD;omega) (by unfold AD;omega),aY,aM (by show¬((0:Int) !=0)=true;decide)]
  have e:z+qc (v::t)=z+v.N+qc t:=by simp only [qc];omega
  rw [Sx x t (z+v.N) (n+1) (fun y hy=>h y (kC _ hy)) hb (by omega),e]
theorem Iu{l:List ac}(h: ∀v∈l,Pl v∧v.Kind=2)(hl:l.length≤90000):yf l=some (Qy l):=by
 unfold yf
 rw [aM (by simp;omega)]
 have:oI=some zV:=rfl
 rw [this,aY]
 cases l with
 |nil=>rfl
 |cons v t=>
  obtain⟨hv,hk⟩:=h v (kE ..)
  have hr:=hv.r64
  rw [iG]at hl
  unfold mG
  rw [PO hv.right hk hr,aY,aM (by show¬((0:Int) !=0)=true;decide)]
  rw [Sx _ t v.N 1 (fun y hy=>h y (kC _ hy)) (by unfold r64 at hr;omega) (by omega)]
  rfl
theorem yE(a:hY)(hl:a.Arg.Nodes.length≤50000)(he:Lf a.Arg.Nodes)(ht:a.Tag=1∨a.Tag=2∨a.Tag=3∨a.Tag=4∨a.Tag=5){rows:List co}(hr:FG rows)(hn:rows.length≤90000):lT a rows=some (vZ a rows):=by
 unfold lT vZ
 by_cases h1:a.Tag=1
 ·rw [aW (by simpa using h1),aW h1];rfl
 ·rw [aM (by simpa using h1),aM h1]
  have e:xn a rows=_:=Dl a hl he rows [] 0 hr (by simp only [ph];omega)
  rw [e,aY]
  by_cases hb:C2 a.Arg.Nodes rows=true
  ·rw [hb];rfl
  ·rw [rl.2 hb]
   simp only [gh,ez,rk,kz]
   rw [aM (by split<;>decide),B7 (f:=mB) (g:=fun v=>v.Kind !=2) (fun v=>rfl)]
   have eo:(if(a.Tag==(3:Int))then((some ((AY a.Arg.Nodes rows).any fun v=>v.Kind !=2)).bind fun r2=>some r2)else some false)=some (ro a.Tag (AY a.Arg.Nodes rows)):=by
    unfold ro
    cases (a.Tag==(3:Int))<;>rfl
   rw [eo,aY]
   by_cases ho:ro a.Tag (AY a.Arg.Nodes rows)=true
   ·rw [ho];rfl
   ·rw [rl.2 ho]
    simp only [gh,ez]
    unfold Rt
    have hpl:=Im he hr
    have hlen:=On a.Arg.Nodes rows
    by_cases hf:CY a.Arg.Nodes rows=true
    ·rw [hf];rfl
    ·rw [rl.2 hf]
     simp only [gh,ez,o0,IJ,yI]
     by_cases h2:a.Tag=2
     ·rw [aW (by simpa using h2),aW h2];rfl
     ·rw [aM (by simpa using h2),aM h2]
      by_cases h3:a.Tag=3
      ·rw [aW (by simpa using h3),aW h3]
       rw [h3]at ho
       rw [Iu (fun v hv=>⟨hpl v hv,ED _ ho v hv⟩) (by omega)]
       rfl
      ·rw [aM (by simpa using h3),aM h3]
       by_cases hz:AY a.Arg.Nodes rows=[]
       ·rw [hz,aW (by rfl)];rfl
       ·rw [aM (by
         intro hh;apply hz
         have:=eq_of_beq hh
         exact tz (by omega))]
        have hrt: ∀v∈AY a.Arg.Nodes rows,fh v=true:=fun v hv=>(hpl v hv).right
        by_cases h4:a.Tag=4
        ·rw [aW (by simpa using h4),h4,Xn hrt hz];rfl
        ·have h5:a.Tag=5:=by omega
         rw [aM (by simpa using h4),h5,Xo hrt hz];rfl

def yy(tag:Int)(vs:List ac):ac:=if tag=3∧vs≠[]then oO (qc vs)else zV
theorem JI(tag:Int)(p q:List ac):ro tag (p++q)=(ro tag p||ro tag q):=by
 unfold ro
 rw [F0]
 cases (tag==3)<;>rfl
theorem Tj{vs:List ac}(h: ∀v∈vs,Pl v∧v.Kind=2)(hl:vs.length≤90000):uS (yy 3 vs)=some (Qy vs):=by
 unfold yy Qy
 by_cases hv:vs=[]
 ·rw [aM (by simp [hv]),aW hv,Hy]
 ·rw [aW ⟨rfl,hv⟩,aM hv,Jn (Hn (fun v hm=>(h v hm).1.r64) (by omega))]
theorem Qx{vs:List ac}(h: ∀v∈vs,Pl v∧v.Kind=2)(hl:vs.length≤90000)(hv:Pl v)(hk:v.Kind=2):sf (yy 3 vs) v=some (yy 3 (vs++[v]),0):=by
  have e:yy 3 (vs++[v])=oO (qc vs+v.N):=by
    unfold yy
    rw [aW ⟨rfl,by simp⟩,I8]
    simp [qc]
  rw [e]
  by_cases hn:vs=[]
  · subst hn
    have:yy 3 []=zV:=by unfold yy;simp
    rw [this,FI hv.right hk hv.r64]
    simp [qc]
  · have:yy 3 vs=oO (qc vs):=by unfold yy;rw [aW ⟨rfl,hn⟩]
    have h1:AD (qc vs):=Hn (fun v hm=>(h v hm).1.r64) (by omega)
    have h2:AD (qc vs+v.N):=by
      have:=Hn (p:=vs++[v])
        (by
          intro w hw
          rcases zY.1 hw with q|q
          · exact(h w q).1.r64
          · simp at q;rw [q];exact hv.r64) (by simp;omega)
      rw [I8]at this
      simpa [qc] using this
    rw [this,Hx hv.right hk hv.r64 h1 h2]
theorem Sy(a:hY)(nx:Int→Int→ac→ac→ac→Option (ac×Int))(vs:List ac)(hl:vs.length≤90000)(fault:Int)(x:ac)(v:ac)(c:Int)(sm:ac):mn a nx (vs.length:Int) fault x (ve a.Tag vs) (v,c) sm=nx ((vs++[v]).length:Int) fault x sm (ve a.Tag (vs++[v])):=by
 unfold mn gJ
 have hw:IntKind.i64.wrap ((vs.length:Int)+1)=((vs++[v]).length:Int):=by rw [lW (by omega) (by omega)];simp
 simp only [hw,sK,aY]
 rw [Sr]
 by_cases hv:vs=[]
 ·subst hv
  simp
 ·rw [aM hv]
  have:(((vs++[v]).length:Int)==1)=false:=by
   rw [beq_eq_false_iff_ne]
   intro h
   apply hv
   simp only [iO,yq]at h
   exact tz (by omega)
  simp only [this,wd,fe]
  unfold pick
  by_cases h4:a.Tag=4
  ·rw [h4]
   by_cases hc:val v (ve 4 vs)<0
   ·simp [hc]
   ·simp [hc]
  ·by_cases h5:a.Tag=5
   ·rw [h5]
    by_cases hc:0<val v (ve 5 vs)
    ·simp [hc]
    ·simp [hc]
   ·simp [h4,h5]
theorem Hw(a:hY)(he:Lf a.Arg.Nodes)(ht:a.Tag≠1)(x:ac): ∀(rows:List co) (vs:List ac) (fault:Int),FG rows→vs.length+rows.length≤90000→(∀v∈vs,Pl v)→ro a.Tag vs=false→(fault=0∨fault=140)→
  fV a rows (vs.length:Int) fault x (yy a.Tag vs) (ve a.Tag vs)=some (if C2 a.Arg.Nodes rows||ro a.Tag (AY a.Arg.Nodes rows)then(zV,2)else Rt a.Tag (vs++AY a.Arg.Nodes rows) (if CY a.Arg.Nodes rows then 140 else fault))
 |[],vs,fault,_,hl,hpl,hod,hf=>by
  have e1:C2 a.Arg.Nodes []=false:=rfl
  have e2:AY a.Arg.Nodes []=[]:=rfl
  have e3:CY a.Arg.Nodes []=false:=rfl
  have e4:ro a.Tag []=false:=by unfold ro;simp
  rw [e1,e2,e3,e4,su]
  simp only [Bool.or_self,gh,ez]
  unfold fV Rt
  rcases hf with hf|hf
  ·rw [hf]
   simp only [o0,IJ,yI,gh,ez]
   by_cases h2:a.Tag=2
   ·rw [aW (by simpa using h2),aW h2];rfl
   ·rw [aM (by simpa using h2),aM h2]
    by_cases h3:a.Tag=3
    ·rw [aW (by simpa using h3),aW h3]
     rw [h3]at hod ⊢
     simp only [ph]at hl
     rw [Tj (fun v hv=>⟨hpl v hv,ED _ (by simpa using hod) v hv⟩) (by omega)]
     rfl
    ·rw [aM (by simpa using h3),aM h3]
  ·rw [hf];rfl
 |r::t,vs,fault,hr,hl,hpl,hod,hf=>by
  have htl:FG t:=fun x hx=>hr x (kC _ hx)
  have hr1:=hr r (kE ..)
  rw [iG]at hl
  unfold fV
  rw [FM a.Arg r he hr1,aY,EO]
  have eb:C2 a.Arg.Nodes (r::t)=(((od r a.Arg.Nodes).2 !=0&&(od r a.Arg.Nodes).2 !=140)||C2 a.Arg.Nodes t):=rfl
  have ef:CY a.Arg.Nodes (r::t)=(((od r a.Arg.Nodes).2==140)||CY a.Arg.Nodes t):=rfl
  rw [eb,ef]
  rcases xY he hr1 with q|q|q
  ·rw [aM (by rw [q.1];decide)]
   have e0:((od r a.Arg.Nodes).2 !=0&&(od r a.Arg.Nodes).2 !=140)=false:=by rw [q.1];rfl
   have e1:((od r a.Arg.Nodes).2==140)=false:=by rw [q.1];rfl
   have e2:((od r a.Arg.Nodes).2 !=0)=false:=by rw [q.1];rfl
   rw [e0,e1,e2]
   simp only [rk]
   by_cases hk0:(od r a.Arg.Nodes).1.Kind=0
   ·rw [aM (by simp [hk0]),aW (by simpa using hk0)]
    have hn2: ¬((od r a.Arg.Nodes).2=0∧(od r a.Arg.Nodes).1.Kind≠0):=fun h=>h.2 hk0
    simp only [aM hn2]
    unfold gJ
    exact Hw a he ht x t vs fault htl (by omega) hpl hod hf
   ·have hc2:(od r a.Arg.Nodes).2=0∧(od r a.Arg.Nodes).1.Kind≠0:=⟨q.1,hk0⟩
    rw [aW hc2]
    by_cases hodd:a.Tag=3∧(od r a.Arg.Nodes).1.Kind≠2
    ·rw [aW (by simp [hodd.1,hodd.2,hk0])]
     have:ro a.Tag ((od r a.Arg.Nodes).1::AY a.Arg.Nodes t)=true:=by
      unfold ro
      simp [hodd.1,hodd.2]
     rw [this,Bool.or_true];rfl
    ·rw [aM (by simp only [lr,ss,qN,o0];intro h;exact hodd ⟨h.1.1,h.2⟩),aM (by simpa using hk0)]
     have ho1:ro a.Tag [(od r a.Arg.Nodes).1]=false:=by
      unfold ro
      simp only [uG,List.any_nil,Bool.or_false]
      rw [rl]
      intro h
      simp only [lr,ss,qN,o0]at h
      exact hodd h
     have ho:ro a.Tag ((od r a.Arg.Nodes).1::AY a.Arg.Nodes t)=ro a.Tag (AY a.Arg.Nodes t):=by
      have:=JI a.Tag [(od r a.Arg.Nodes).1] (AY a.Arg.Nodes t)
      rw [ho1,rk]at this
      exact this
     have hvs:ro a.Tag (vs++[(od r a.Arg.Nodes).1])=false:=by rw [JI,hod,ho1];rfl
     have hpl2: ∀v∈vs++[(od r a.Arg.Nodes).1],Pl v:=by
      intro v hv
      rcases zY.1 hv with h|h
      ·exact hpl v h
      ·simp at h;rw [h];exact q.2
     have ih:=Hw a he ht x t (vs++[(od r a.Arg.Nodes).1]) fault htl (by simp only [iO,yq];omega) hpl2 hvs hf
     rw [ho]
     rw [jv,Hb]at ih
     rw [←ih]
     have hpair:od r a.Arg.Nodes=((od r a.Arg.Nodes).1,(od r a.Arg.Nodes).2):=rfl
     by_cases h3:a.Tag=3
     ·rw [aW (by simpa using h3)]
      have hk2:(od r a.Arg.Nodes).1.Kind=2:=by
       rcases Classical.em ((od r a.Arg.Nodes).1.Kind=2)with h|h
       ·exact h
       ·exact absurd ⟨h3,h⟩ hodd
      have hod3: ¬ro 3 vs=true:=by rw [←h3,hod];simp
      have st:=Qx (fun v hv=>⟨hpl v hv,ED _ hod3 v hv⟩) (by omega) q.2 hk2
      rw [←h3]at st
      rw [st,aY]
      rw [hpair]
      exact Sy a _ vs (by omega) fault x _ _ _
     ·rw [aM (by simpa using h3)]
      have es:yy a.Tag (vs++[(od r a.Arg.Nodes).1])=yy a.Tag vs:=by
       unfold yy
       rw [aM (fun h=>h3 h.1),aM (fun h=>h3 h.1)]
      rw [es,hpair]
      exact Sy a _ vs (by omega) fault x _ _ _
  ·rw [aM (by simpa using q.2.1),aW (by simp [q.1])]
   have:((od r a.Arg.Nodes).2 !=0&&(od r a.Arg.Nodes).2 !=140)=true:=by simp [q.1,q.2.1]
   rw [this]
   simp only [Bool.true_or,fe]
   rfl
  ·rw [q,aM (by decide: ¬((140:Int)=0∧_)),aW (by rfl)]
   unfold gJ
   have ih:=Hw a he ht x t vs 140 htl (by omega) hpl hod (.inr rfl)
   rw [ih]
   simp
theorem zt(a:hY)(he:Lf a.Arg.Nodes){rows:List co}(hr:FG rows)(hn:rows.length≤90000):rm a rows=some (vZ a rows):=by
 unfold rm vZ
 by_cases h1:a.Tag=1
 ·rw [aW (by simpa using h1),aW h1];rfl
 ·rw [aM (by simpa using h1),aM h1]
  have e:yy a.Tag []=zV:=by unfold yy;simp
  have:=Hw a he h1 zV rows [] 0 hr (by simp only [ph];omega) (by simp) (by unfold ro;simp) (.inl rfl)
  rw [e,kz]at this
  exact this
theorem ue{f:co→Option Bool}{g:co→Bool}(hf: ∀v,f v=some (g v))(l:List co):cS l f=some (l.any g):=by
 have key: ∀(l:List co) (i:Nat),∃j:Int,dL f l i=some j∧decide (0≤j)=l.any g:=by
  intro l
  induction l with
  |nil=>intro i;exact⟨-1,rfl,rfl⟩
  |cons v t ih=>
   intro i
   unfold dL
   rw [hf,aY,uG]
   by_cases hg:g v=true
   ·rw [aW hg,hg]
    exact⟨(i:Int),rfl,by simp⟩
   ·rw [aM hg,rl.2 hg,rk]
    exact ih (i+1)
 obtain⟨j,h1,h2⟩:=key l 0
 unfold cS ig
 rw [h1]
 simp only [aY]
 rw [←h2]
theorem OF(g:α→Bool)(l:List α):(l.any fun r=> !g r)= !l.all g:=by
 induction l with
 |nil=>rfl
 |cons x t ih=>rw [uG,wq,ih,Bool.not_and]
theorem wl(rows:List co):mA rows=some (decide (rows.length≤8000)&&p5 rows):=by
 unfold mA
 have e: ∀r:co,lP r=some (!cZ r):=by
  intro r
  unfold lP
  rw [Hu]
  cases cZ r<;>rfl
 rw [ue (f:=lP) e]
 have ed:decide ((rows.length:Int)≤8000)=decide (rows.length≤8000):=by
  rw [Ac];omega
 rw [ed,OF]
 have:p5 rows=rows.all cZ:=rfl
 rw [this]
 cases decide (rows.length≤8000)<;>simp

def nb(r:Nat):Nat:=if r%2=1 then(r/2)^^^2197175160 else r/2
def nb8(r:Nat):Nat:=nb (nb (nb (nb (nb (nb (nb (nb r)))))))
def VR:List Int:=(List.range 256).map fun i=>(nb8 i:Int)

def nD(r:co)(c:List Int):Bool:=decide (c.length≤16)&&c.all fun e=>decide (0≤e)&&decide (e<(r.length:Int))
theorem vj{f:Int→Option Bool}{g:Int→Bool}(hf: ∀v,f v=some (g v)): ∀(l:List Int) (i:Nat),∃j:Int,fH f l i=some j∧decide (0≤j)=l.any g
 |[],i=>⟨-1,rfl,rfl⟩
 |e::l,i=>by
  unfold fH
  rw [hf,aY]
  cases h:g e with
  |true=>exact⟨(i:Int),by simp,by simp [h]⟩
  |false=>
   obtain⟨j,h1,h2⟩:=vj hf l (i+1)
   exact⟨j,by simpa using h1,by rw [h2];simp [h]⟩
theorem jM{f:Int→Option Bool}{g:Int→Bool}(hf: ∀v,f v=some (g v))(l:List Int):cA l f=some (l.any g):=by
 unfold cA la
 obtain⟨j,h1,h2⟩:=vj hf l 0
 rw [h1,aY,h2]
theorem LM(r:co)(c:List Int):C4 r c=some (nD r c):=by
 unfold C4 nD
 rw [jM (f:=xH r) (g:=fun c=>(decide (c<(0:Int)))||(decide ((r.length:Int)≤c))) (fun v=>rfl)]
 by_cases h:c.length≤16
 ·rw [aW (by rw [kZ];omega),aY,aY,ug h,uA]
  congr 1
  induction c with
  |nil=>rfl
  |cons e c ih=>
   rw [uG,wq,Bool.not_or,ih (by simp at h;omega)]
   congr 1
   rw [zX];simp only [CN,Bool.or_eq_false_iff,lr,kZ,Fp];omega
 ·rw [aM (by rw [kZ];omega),aY,tu h,Dq]
theorem DM(r:co): ∀(c:List Int) (out:co),(∀e∈c,0≤e∧e<(r.length:Int))→out.length+c.length≤1000→
  ∃t:co,t.length=out.length+c.length∧(∀v∈t,v∈out∨v∈r)∧lY r c out=some t∧um r c out=some t
 |[],out,_,_=>⟨out,rfl,fun v hv=> .inl hv,rfl,rfl⟩
 |e::c,out,h,hl=>by
  obtain⟨h1,h2⟩:=h e (kE ..)
  obtain⟨n,rfl⟩:=Dx h1
  have hn:n<r.length:=by omega
  rw [iG]at hl
  obtain⟨t,g1,g2,g3,g4⟩:=DM r c (out++[r[n]]) (fun e he=>h e (kC _ he)) (by simp;omega)
  have hi:cE r (n:Int)=some r[n]:=by rw [bX];exact n8 hn
  refine⟨t,by rw [g1];simp;omega,fun v hv=>?_,?_,?_⟩
  ·rcases g2 v hv with g|g
   ·rcases zY.1 g with g|g
    ·exact .inl g
    ·rw [CO.1 g];exact .inr (F4 hn)
   ·exact .inr g
  ·unfold lY
   rw [hi,aY,cr (by simp;omega),aY]
   exact g3
  ·unfold um
   rw [hi,aY,cr (by simp;omega),aY]
   exact g4
theorem VG{xs:List α}(h:xs.length≤68719476736):app [] xs=some xs:=by rw [cr (by simpa using h)];rfl

def AF(l:List co)(c:List Int):Bool:=decide (c.length≤16)&&c.all (fun e=>decide (0≤e))&&l.all (fun r=>nD r c)
def vW(l:List co)(c:List Int):Int:=if p5 l then(if AF l c then 0 else 2)else 150
theorem CL(c:List Int): ∀l:List co,pC c l=some (if l.all (fun r=>nD r c)then 0 else 2)
 |[]=>rfl
 |r::l=>by
  unfold pC
  rw [LM,aY,CL c l,wq]
  cases nD r c<;>rfl
theorem Fz(h:l.length≤8000)(c:List Int):xI l c=some (vW l c):=by
 unfold xI vW
 rw [vC,Hi l h,aY]
 cases p5 l with
 |false=>simp
 |true=>
  rw [aW rfl,aM (by decide),jM (f:=tI) (g:=fun c=>decide (c<(0:Int))) (fun v=>rfl),aW rfl]
  have hn:c.all (fun e=>decide (0≤e))= !c.any (fun e=>decide (e<(0:Int))):=by
   rw [List.not_any_eq_all_not]
   congr 1
   funext e
   rw [zX];simp only [kZ,CN,Fp];omega
  unfold AF
  by_cases hc:c.length≤16
  ·rw [aW (by simp;omega),aY,aY,ug hc,hn,CL]
   cases c.any (fun e=>decide (e<(0:Int)))<;>cases l.all (fun r=>nD r c)<;>rfl
  ·rw [aM (by simp;omega),aY,tu hc];rfl
theorem xP(h:AF l c=true)(hr:r∈l):nD r c=true:=by
 unfold AF at h
 rw [lr,ju]at h
 exact h.2 r hr
theorem KF(h:vW l c=0):p5 l=true∧AF l c=true:=by
 unfold vW at h
 cases h1:p5 l<;>cases h2:AF l c<;>simp_all
def gz(c:List Int)(r:co):co:=(nr r c).getD []
theorem An(h:nD r c=true):nr r c=some (gz c r)∧(gz c r).length=c.length∧ ∀v∈gz c r,v∈r:=by
 unfold nD at h
 rw [lr,kZ,ju]at h
 obtain⟨t,g1,g2,g3,g4⟩:=DM r c [] (fun e he=>by have:=h.2 e he;rw [lr,kZ,kZ]at this;exact this) (by simp;omega)
 have e:nr r c=some t:=g3
 unfold gz
 rw [e]
 exact⟨rfl,by simpa using g1,fun v hv=>(g2 v hv).elim (fun h=>by cases h) id⟩
def xi(c:List Int)(a b:co):Int:=GO (ek (gz c a) (gz c b)) (ek a b)
theorem Ke(c:List Int):Bi (xi c):=
 have h:=Bi.lex i8 i8
 ⟨fun x y=>h.rng (gz c x,x) (gz c y,y),fun x y=>h.anti (gz c x,x) (gz c y,y),fun x y=>(h.eq (gz c x,x) (gz c y,y)).trans ⟨fun e=>(Prod.mk.injEq ..▸e).2,fun e=>by rw [e]⟩,fun x y z=>h.trans (gz c x,x) (gz c y,y) (gz c z,z)⟩
theorem KW{a b:co}(ha:nD a c=true)(hb:nD b c=true):mj c a b=some (xi c a b):=by
 unfold mj
 rw [(An ha).1,(An hb).1]
 simp only [aY,vB,BW,Xh]
 unfold xi GO
 congr 1
 by_cases h:ek (gz c a) (gz c b)=0
 ·by_cases h2:ek a b=0<;>simp [h,h2]
 ·simp [h]
theorem KV{a b:co}(ha:nD a c=true)(hb:nD b c=true):gn c a b=some (decide (gz c a=gz c b)):=by
 unfold gn
 rw [(An ha).1,(An hb).1]
 simp only [aY,vD]
theorem EA{α:Type}{lt lt' :α→α→Bool}(x:α): ∀l:List α,(∀y∈l,lt y x=lt' y x)→HX lt x l=HX lt' x l
 |[],_=>rfl
 |y::l,h=>by
  unfold HX
  rw [h y (kE ..),EA x l fun z hz=>h z (kC _ hz)]
theorem Cx{α:Type}{lt lt' :α→α→Bool}: ∀l:List α,(∀x∈l,∀y∈l,lt x y=lt' x y)→yW lt l=yW lt' l
 |[],_=>rfl
 |x::l,h=>by
  unfold yW
  rw [←Cx l fun y hy z hz=>h y (kC _ hy) z (kC _ hz)]
  exact EA x _ fun y hy=>h y (kC _ ((sU lt l).mem_iff.1 hy)) x (kE ..)
theorem Jd [DecidableEq α]{f:α→α→Int}(h:Bi f){c:α×α→Option Int}{l:List α}(hc: ∀x∈l,∀y∈l,c (x,y)=some (f x y))(hl:l.length≤1099511627776):yO c l=some (tt f l):=by
 have hg:=xv h (c:=fun p=>some (f p.1 p.2)) (fun _ _=>rfl) hl
 have hlt: ∀x∈l,∀y∈l,ut c x y=ut (fun p:α×α=>some (f p.1 p.2)) x y:=fun x hx y hy=>by unfold ut;rw [hc x hx y hy]
 have hg' :zT c l:=⟨hl,fun x hx y hy=>by rw [hc x hx y hy];rfl,fun x hx=>by rw [hlt x hx x hx];exact hg.irr x hx,
  fun x hx y hy z hz h1 h2=>by rw [hlt x hx y hy]at h1;rw [hlt y hy z hz]at h2;rw [hlt x hx z hz];exact hg.tr x hx y hy z hz h1 h2,
  fun x hx y hy h1 h2=>by rw [hlt x hx y hy]at h1;rw [hlt y hy x hx]at h2;exact hg.anti x hx y hy h1 h2⟩
 rw [DO hg',Cx l hlt]
 rfl
def uM(al:co→co→Bool):Nat→List co→List (List co)
 |0,_=>[]
 |_+1,[]=>[]
 |k+1,x::t=>(x::t.takeWhile (al x))::uM al k (t.dropWhile (al x))
theorem D0{Sg:Type}{alike:co→co→Option Bool}{al:co→co→Bool}(yld:List co→Sg→Option (Bool×Sg))(nx:Sg→List co→Option Sg)(s:Sg)(x:co)(t:List co)(hal: ∀y∈t,alike x y=some (al x y))(ht:t.length≤8000):
  ∀(rest pre:List co) (fuel:Nat),t=pre++rest→rest.length<fuel→mW alike yld nx s (x::t) fuel ((1+pre.length:Nat):Int)=(yld (x::(pre++rest.takeWhile (al x))) s).bind fun r=>if(!r.1)then some r.2 else nx r.2 (rest.dropWhile (al x))
 |rest,pre,0,_,h=>by omega
 |[],pre,fuel+1,e,_=>by
  rw [su]at e
  subst e
  unfold mW
  rw [aM (by simp;omega),aY,aM (by decide),show(0:Int)=((0:Nat):Int)from rfl,lC (by omega) (by simp;omega),aY]
  rw [lC (by simp;omega) (dF _)]
  simp only [aY,List.takeWhile_nil,List.dropWhile_nil,su,wB]
  rw [rC (by simp;omega),rC (dF _),Do (by simp;omega)]
 |b::rest,pre,fuel+1,e,hf=>by
  have hlen:t.length=pre.length+rest.length+1:=by rw [e];simp;omega
  have hb:cE (x::t) ((1+pre.length:Nat):Int)=some b:=by
   rw [bX,Nat.add_comm,Nh,e]
   simp
  unfold mW
  rw [aW (by simp;omega),show cE (x::t) 0=some x from rfl,aY,hb,aY,hal b (by rw [e];simp),aY,aY]
  cases hb2:al x b with
  |true=>
   rw [aW rfl,cx (by omega) (by omega),show(((1+pre.length:Nat):Int)+1)=((1+(pre++[b]).length:Nat):Int) by simp;omega]
   rw [D0 yld nx s x t hal ht rest (pre++[b]) fuel (by rw [e];simp) (by simp at hf;omega)]
   simp [List.takeWhile_cons,List.dropWhile_cons,hb2]
  |false=>
   rw [aM (by decide),show(0:Int)=((0:Nat):Int)from rfl,lC (by omega) (by simp;omega),aY]
   rw [lC (by simp;omega) (dF _)]
   simp only [aY,wB]
   rw [rC (l:=x::t) (dF _)]
   have e1:(x::t).take (1+pre.length)=x::pre:=by rw [Nat.add_comm,List.take_succ_cons,e];simp
   have e2:(x::t).drop (1+pre.length)=b::rest:=by rw [Nat.add_comm,List.drop_succ_cons,e];simp
   rw [e1,e2]
   simp [List.takeWhile_cons,List.dropWhile_cons,hb2]
def GB(c:List Int)(y:List co):hU:=⟨gz c (y.headD []),y⟩
def FZ(c:List Int)(a b:co):Bool:=decide (gz c a=gz c b)
theorem D1(c:List Int): ∀(k fuel:Nat) (l:List co) (out:List hU),(∀r∈l,nD r c=true)→l.length≤k→l.length<fuel→out.length+l.length≤8000→
  jV (gn c) (CJ (fun x s=>jW c x s)) fuel out l=some (out++(uM (FZ c) k l).map (GB c))
 |k,0,l,out,_,_,h,_=>by omega
 |k,fuel+1,[],out,_,_,_,_=>by
  unfold jV
  rw [aM (by simp)]
  cases k<;>simp [uM]
 |0,fuel+1,x::t,out,_,h,_,_=>by simp at h
 |k+1,fuel+1,x::t,out,h,hk,hf,ho=>by
  simp only [iG]at hk hf ho
  have hx:=h x (kE ..)
  have hsub: ∀r∈t.dropWhile (FZ c x),r∈t:=fun r hr=>(IQ _).subset hr
  have hdl:(t.dropWhile (FZ c x)).length≤t.length:=(IQ _).length_le
  have htl:(t.takeWhile (FZ c x)).length≤t.length:=(List.takeWhile_sublist _).length_le
  unfold jV
  rw [aW (by simp),show(1:Int)=((1+([]:List co).length:Nat):Int)from rfl,
   D0 (al:=FZ c) _ _ out x t (fun y hy=>KV hx (h y (kC _ hy))) (by omega) t [] ge rfl (by unfold ge;omega)]
  rw [kz]
  have hb:jW c (x::t.takeWhile (FZ c x)) out=some (out++[GB c (x::t.takeWhile (FZ c x))]):=by
   unfold jW ff
   rw [show cE (x::t.takeWhile (FZ c x)) 0=some x from rfl,aY,(An hx).1,aY,VG (by simp;omega),aY,aY,cr (by simp;omega)]
   rfl
  have hb2:CJ (fun x s=>jW c x s) (x::t.takeWhile (FZ c x)) out=some (true,out++[GB c (x::t.takeWhile (FZ c x))]):=by
   show Option.map _ (jW c (x::t.takeWhile (FZ c x)) out)=_
   rw [hb];rfl
  rw [hb2]
  simp only [aY,ly,gh,ez]
  have ih:=D1 c k fuel (t.dropWhile (FZ c x)) (out++[GB c (x::t.takeWhile (FZ c x))]) (fun r hr=>h r (kC _ (hsub r hr))) (by omega) (by omega) (by simp;omega)
  rw [ih]
  simp [uM]
theorem FF(h:GT l)(c:List Int):sG l c=some (if vW l c=0 then((uM (FZ c) l.length (tt (xi c) l)).map (GB c),0)else([],vW l c)):=by
 unfold sG
 have hlen:=h.len
 rw [Fz h.len,aY]
 by_cases ha:vW l c=0
 ·obtain⟨_,hok⟩:=KF ha
  rw [aM (by simp [ha]),aW ha,yR l (fun r hr=>by have:=h.row r hr;omega) (by omega),aY]
  rw [Jd (Ke c) (fun x hx y hy=>KW (xP hok hx) (xP hok hy)) (by omega),aY]
  unfold D6
  rw [aY]
  unfold vA
  have hl:=xC (xi c) l
  show((jV (gn c) (CJ fun x s=>jW c x s) ge [] (tt (xi c) l)).bind fun xs1=>some (xs1,(0:Int)))=_
  rw [D1 c l.length ge (tt (xi c) l) [] (fun r hr=>xP hok ((lB _ _).mem_iff.1 hr)) (by omega) (by unfold ge;omega) (by simp;omega)]
  rfl
 ·rw [aW (by simp [ha]),aM ha]
theorem Gn(al:co→co→Bool): ∀(k:Nat) (l:List co),l.length≤k→(uM al k l).flatten=l
 |0,l,h=>by
  have:l=[]:=tz (by omega)
  subst this
  rfl
 |k+1,[],_=>rfl
 |k+1,x::t,h=>by
  have hdl:(t.dropWhile (al x)).length≤t.length:=(IQ _).length_le
  unfold uM
  rw [List.flatten_cons,Gn al k _ (by simp at h;omega),wC,List.takeWhile_append_dropWhile]
theorem DZ(al:co→co→Bool): ∀(k:Nat) (l:List co) (y:List co),y∈uM al k l→ ∃x t,y=x::t∧x∈l∧ ∀z∈t,z∈l∧al x z=true
 |0,l,y,h=>by cases h
 |k+1,[],y,h=>by cases h
 |k+1,x::t,y,h=>by
  unfold uM at h
  rcases fF.1 h with rfl|h
  ·exact⟨x,_,rfl,kE ..,fun z hz=>⟨kC _ ((List.takeWhile_sublist _).subset hz),by simpa using ju.1 (List.all_takeWhile (p:=al x) (l:=t)) z hz⟩⟩
  ·obtain⟨x',t',e,h1,h2⟩:=DZ al k _ y h
   have hsub: ∀r∈t.dropWhile (al x),r∈t:=fun r hr=>(IQ _).subset hr
   exact⟨x',t',e,kC _ (hsub _ h1),fun z hz=>⟨kC _ (hsub _ (h2 z hz).1),(h2 z hz).2⟩⟩
theorem NV{a b:co}(h:xi c a b≤0):ek (gz c a) (gz c b)≤0:=by
 unfold xi GO at h
 split at h
 ·exact h
 ·rename_i h2;simp at h2;omega
theorem Ou(c:List Int)(x:co): ∀t:List co,nZ (xi c) (x::t)→ ∀z∈t.dropWhile (FZ c x),ek (gz c x) (gz c z)<0
 |[],_,z,hz=>by cases hz
 |b::t,hs,z,hz=>by
  have hs' :=yp.1 hs
  have hs2:=yp.1 hs'.2
  rw [List.dropWhile_cons]at hz
  split at hz
  ·exact Ou c x t (yp.2 ⟨fun w hw=>hs'.1 w (kC _ hw),hs2.2⟩) z hz
  ·rename_i hb
   have hlt:ek (gz c x) (gz c b)<0:=by
    have h1:=NV (hs'.1 b (kE ..))
    rcases Int.lt_or_eq_of_le h1 with h|h
    ·exact h
    ·exact absurd (ug ((i8.eq _ _).1 h)) hb
   rcases fF.1 hz with rfl|hz
   ·exact hlt
   ·exact i8.lt (Int.le_of_lt hlt) (NV (hs2.1 z hz)) (.inl hlt)
theorem Gm(c:List Int): ∀(k:Nat) (l:List co),nZ (xi c) l→((uM (FZ c) k l).map (GB c)).Pairwise (fun a b=>ek a.Key b.Key<0)
 |0,l,_=>List.Pairwise.nil
 |k+1,[],_=>List.Pairwise.nil
 |k+1,x::t,hs=>by
  unfold uM
  rw [wc]
  have hs' :=yp.1 hs
  refine yp.2 ⟨fun g hg=>?_,Gm c k _ (hs'.2.sublist (IQ _))⟩
  obtain⟨y,hy,rfl⟩:=uF.1 hg
  obtain⟨x',t',rfl,h1,_⟩:=DZ _ _ _ y hy
  exact Ou c x t hs x' h1
end Go.Proofs.YtfhhakidodmdfaaGreatDoor

