/- eJ of this claim: M10, M11, M12, M13, M14, M15, J1, K5, J2, J3, K6, K7, K8. -/
import Derived.Test.YtpgjgkdpeagjbaaGreatDoorJaQ1
set_option linter.all false
namespace Go.Proofs.YtpgjgkdpeagjbaaGreatDoor
open Go

variable{x:Int}
def GB(h:r64 x):(BitVec.ofInt 64 x).msb=decide (x<0):=by
 unfold r64 at h
 rw [BitVec.msb_eq_toInt,BitVec.toInt_ofInt]
 congr 1
 have:x.bmod (2^64)=x:=by
  rw [Int.bmod_def]
  split<;>omega
 rw [this]
variable{b:ac}
def G1(b:BitVec 64):IntKind.i64.wrap (b.toNat:Int)=b.toInt:=by
 rw [xN,BitVec.toInt_eq_toNat_cond]
 have:=b.isLt
 first|done|omega|(split<;>omega)
variable{y:Int}
def A8(V:r64 x)(hy:r64 y):(decide (fx .xor .i64 x y<0))=(decide (x<0) !=decide (y<0))/\r64 (fx .xor .i64 x y):=by
 refine⟨?_,rk _⟩
 have e:fx .xor .i64 x y=(BitVec.ofInt 64 x^^^BitVec.ofInt 64 y).toInt:=G1 _
 rw [e,<-BitVec.msb_eq_toInt,BitVec.msb_xor,GB V,GB hy]
def MQ(V:r64 x)(hy:r64 y):(decide (fx .and .i64 x y<0))=(decide (x<0)&&decide (y<0)):=by
 have e:fx .and .i64 x y=(BitVec.ofInt 64 x&&&BitVec.ofInt 64 y).toInt:=G1 _
 rw [e,<-BitVec.msb_eq_toInt,BitVec.msb_and,GB V,GB hy]
variable{z:Int}
def IC(z:Int):decide (0<=z)= !decide (z<0):=by
 by_cases h:z<0
 ·have: ¬0<=z:=by omega
  simp [h,this]
 ·have:0<=z:=by omega
  simp [h,this]
instance(z:Int):Decidable (r64 z):=by unfold r64;infer_instance
variable{c:List Int}
def WF(V:r64 x)(hy:r64 y):QY 12 x y=(IntKind.i64.wrap (x+y),decide (r64 (x+y))):=by
 have hc:=rk (x+y)
 show(IntKind.i64.wrap (x+y),_)=_
 congr 1
 show decide ((0:Int)<=_)=_
 obtain⟨I,K⟩:=A8 V hc
 obtain⟨h3,h4⟩:=A8 hy hc
 rw [IC,MQ K h4,I,h3]
 have hcw:=xN (x+y)
 unfold r64 at V hy hc ⊢
 generalize IntKind.i64.wrap (x+y)=c at hc hcw ⊢
 by_cases hr: -9223372036854775808<=x+y/\x+y<=9223372036854775807
 ·rw [zQ hr]
  by_cases p1:x<0<;>by_cases p2:y<0<;>by_cases p3:c<0<;>simp only [p1,p2,p3,Dh,decide_false]<;>first|rfl|(exfalso;omega)
 ·rw [yI hr]
  by_cases p1:x<0<;>by_cases p2:y<0<;>by_cases p3:c<0<;>simp only [p1,p2,p3,Dh,decide_false]<;>first|rfl|(exfalso;omega)
def UT(V:r64 x)(hy:r64 y):QY 13 x y=(IntKind.i64.wrap (x-y),decide (r64 (x-y))):=by
 have hc:=rk (x-y)
 show(IntKind.i64.wrap (x-y),_)=_
 congr 1
 show decide ((0:Int)<=_)=_
 obtain⟨I,K⟩:=A8 V hy
 obtain⟨h3,h4⟩:=A8 V hc
 rw [IC,MQ K h4,I,h3]
 have hcw:=xN (x-y)
 unfold r64 at V hy hc ⊢
 generalize IntKind.i64.wrap (x-y)=c at hc hcw ⊢
 by_cases hr: -9223372036854775808<=x-y/\x-y<=9223372036854775807
 ·rw [zQ hr]
  by_cases p1:x<0<;>by_cases p2:y<0<;>by_cases p3:c<0<;>simp only [p1,p2,p3,Dh,decide_false]<;>first|rfl|(exfalso;omega)
 ·rw [yI hr]
  by_cases p1:x<0<;>by_cases p2:y<0<;>by_cases p3:c<0<;>simp only [p1,p2,p3,Dh,decide_false]<;>first|rfl|(exfalso;omega)
def IP{y:Nat}(h:y<18446744073709551616):fx .and .u64 (y:Int) 4294967295=((y%4294967296:Nat):Int):=by
 have e:fx .and .u64 (y:Int) 4294967295=IntKind.u64.wrap (((BitVec.ofInt 64 (y:Int)&&&BitVec.ofInt 64 4294967295).toNat:Nat):Int):=rfl
 have e1:BitVec.ofInt 64 (y:Int)=BitVec.ofNat 64 y:=BitVec.ofInt_natCast 64 y
 have e2:BitVec.ofInt 64 4294967295=BitVec.ofNat 64 (2^32-1):=by decide
 rw [e,e1,e2,BitVec.toNat_and,BitVec.toNat_ofNat,BitVec.toNat_ofNat,Fw (by omega:y<2^64),Fw (by omega:2^32-1<2^64),Nat.and_two_pow_sub_one_eq_mod,JR (by omega) (by omega)]
def zG(y:Nat):((y:Int)).fdiv (2^(min (Int.toNat (32:Int)) IntKind.u64.bits))=((y/4294967296:Nat):Int):=by
 have e:(2:Int)^(min (Int.toNat (32:Int)) IntKind.u64.bits)=4294967296:=by decide
 rw [e,Int.fdiv_eq_ediv_of_nonneg _ (by decide)]
 rfl
def tt{n:Nat}(h:n<18446744073709551616):IntKind.u64.wrap (n:Int)=(n:Int):=JR (by omega) (by omega)
variable{p q:Nat}
def Vn(x y:Nat)(V:x<18446744073709551616)(hy:y<18446744073709551616):ph (x:Int) (y:Int)=some (((x*y/18446744073709551616:Nat):Int),((x*y%18446744073709551616:Nat):Int)):=by
 unfold ph
 have hx0:x%4294967296<4294967296:=xS _ (by decide)
 have hy0:y%4294967296<4294967296:=xS _ (by decide)
 have hx1:x/4294967296<4294967296:=by omega
 have hy1:y/4294967296<4294967296:=by omega
 have ex:x=x/4294967296*4294967296+x%4294967296:=by omega
 have ey:y=y/4294967296*4294967296+y%4294967296:=by omega
 rw [IP V,IP hy,zG,zG]
 generalize x/4294967296=x1 at*
 generalize x%4294967296=x0 at*
 generalize y/4294967296=y1 at*
 generalize y%4294967296=y0 at*
 have b00:x0*y0<=4294967295*4294967295:=zP (by omega) (by omega)
 have b10:x1*y0<=4294967295*4294967295:=zP (by omega) (by omega)
 have b01:x0*y1<=4294967295*4294967295:=zP (by omega) (by omega)
 have b11:x1*y1<=4294967295*4294967295:=zP (by omega) (by omega)
 have exy:x*y=x1*y1*18446744073709551616+(x1*y0+x0*y1)*4294967296+x0*y0:=by
  rw [ex,ey]
  simp only [wO,Nat.mul_add]
  have I:x1*4294967296*(y1*4294967296)=x1*y1*18446744073709551616:=by
   rw [Nat.mul_mul_mul_comm]
  have K:x1*4294967296*y0=x1*y0*4294967296:=by rw [Nat.mul_right_comm]
  have h3:x0*(y1*4294967296)=x0*y1*4294967296:=by rw [Nat.mul_assoc]
  rw [I,K,h3];omega
 rw [<-Ag x1 y1,<-Ag x1 y0,<-Ag x0 y0,<-Ag x0 y1,<-Ag x y]
 rw [exy]
 generalize x0*y0=p at*
 generalize x1*y0=q at*
 generalize x0*y1=r at*
 generalize x1*y1=s at*
 rw [tt (n:=s) (by omega),tt (n:=q) (by omega),tt (n:=p) (by omega),tt (n:=r) (by omega),zG]
 rw [<-Dj q (p/4294967296),tt (n:=q+p/4294967296) (by omega),zG,<-Dj s,tt (n:=s+(q+p/4294967296)/4294967296) (by omega)]
 rw [IP (by omega),<-Dj,tt (n:=(q+p/4294967296)%4294967296+r) (by omega),zG,<-Dj,tt (n:=s+(q+p/4294967296)/4294967296+((q+p/4294967296)%4294967296+r)/4294967296) (by omega)]
 congr 1
 refine Prod.ext ?_ ?_
 ·simp only
  congr 1
  omega
 ·simp only
  rw [wP];omega
def N2(x y:Int):x*y=if(decide (x<0) !=decide (y<0))=true then -(((x.natAbs*y.natAbs:Nat)):Int)else((x.natAbs*y.natAbs:Nat):Int):=by
 have V:x=if x<0 then -(x.natAbs:Int)else(x.natAbs:Int):=by split<;>omega
 have hy:y=if y<0 then -(y.natAbs:Int)else(y.natAbs:Int):=by split<;>omega
 rw [Ag]
 by_cases p1:x<0<;>by_cases p2:y<0
 ·rw [br p1]at V;rw [br p2]at hy
  conv=>lhs;rw [V,hy]
  simp [p1,p2,Int.neg_mul_neg]
 ·rw [br p1]at V;rw [aS p2]at hy
  conv=>lhs;rw [V,hy]
  simp [p1,p2,Int.neg_mul]
 ·rw [aS p1]at V;rw [br p2]at hy
  conv=>lhs;rw [V,hy]
  simp [p1,p2,Int.mul_neg]
 ·rw [aS p1]at V;rw [aS p2]at hy
  conv=>lhs;rw [V,hy]
  simp [p1,p2]
variable{m:Nat}
def JZ(m:Nat)(hm:m<18446744073709551616)(b:Bool): ∃n,o0 (m:Int) b=some (n,decide (r64 (if b then -(m:Int)else(m:Int))))/\(r64 (if b then -(m:Int)else(m:Int))->n=if b then -(m:Int)else(m:Int)):=by
 unfold o0
 cases b with
 |true=>
  simp only [gx]
  refine⟨IntKind.i64.wrap (IntKind.u64.wrap (0-(m:Int))),?_,fun hr=>?_⟩
  ·congr 2
   exact Fv.mpr (by unfold r64;omega)
  ·unfold r64 at hr
   rw [wP,xN];omega
 |false=>
  simp only [iq,fU]
  refine⟨IntKind.i64.wrap (m:Int),?_,fun hr=>?_⟩
  ·congr 2
   exact Fv.mpr (by unfold r64;omega)
  ·unfold r64 at hr
   rw [xN];omega
def Vm(V:r64 x)(hy:r64 y):(QY 14 x y).2=decide (r64 (x*y))/\(r64 (x*y)->(QY 14 x y).1=x*y):=by
 have ha:x.natAbs<=9223372036854775808:=by unfold r64 at V;omega
 have M:y.natAbs<=9223372036854775808:=by unfold r64 at hy;omega
 have hprod:=N2 x y
 have e:QY 14 x y=(oz x y).getD (0,false):=rfl
 rw [e]
 unfold oz
 rw [wW x V,wW y hy]
 simp only [bt]
 rw [Vn _ _ (by omega) (by omega)]
 simp only [bt]
 generalize (decide (x<0) !=decide (y<0))=b at hprod ⊢
 generalize x.natAbs*y.natAbs=m at hprod ⊢
 obtain⟨n,I,K⟩:=JZ (m%18446744073709551616) (xS _ (by decide)) b
 rw [I]
 simp only [bt,JJ]
 rw [hprod]
 by_cases hm:m<18446744073709551616
 ·rw [Fw hm]at K ⊢
  have hd:m/18446744073709551616=0:=Nat.div_eq_of_lt hm
  rw [hd]
  refine⟨by simp,fun hr=>K hr⟩
 ·have hd:m/18446744073709551616≠0:=by omega
  have hnr: ¬r64 (if b=true then -(m:Int)else(m:Int)):=by
   unfold r64
   split<;>omega
  refine⟨?_,fun hr=>absurd hr hnr⟩
  have:((((m/18446744073709551616:Nat):Int))==0)=false:=by simp;omega
  rw [this]
  simp [hnr]
variable{a:ac}
def N1(x y:Int):x.tdiv y=if(decide (x<0) !=decide (y<0))=true then -((x.natAbs/y.natAbs:Nat):Int)else((x.natAbs/y.natAbs:Nat):Int):=by
 have V:x=if x<0 then -(x.natAbs:Int)else(x.natAbs:Int):=by split<;>omega
 have hy:y=if y<0 then -(y.natAbs:Int)else(y.natAbs:Int):=by split<;>omega
 have Y: ∀a b:Nat,((a:Int)).tdiv (b:Int)=((a/b:Nat):Int):=fun a b=>rfl
 by_cases p1:x<0<;>by_cases p2:y<0
 ·rw [br p1]at V;rw [br p2]at hy
  conv=>lhs;rw [V,hy]
  rw [Int.neg_tdiv,Int.tdiv_neg,Y]
  simp [p1,p2]
 ·rw [br p1]at V;rw [aS p2]at hy
  conv=>lhs;rw [V,hy]
  rw [Int.neg_tdiv,Y]
  simp [p1,p2]
 ·rw [aS p1]at V;rw [br p2]at hy
  conv=>lhs;rw [V,hy]
  rw [Int.tdiv_neg,Y]
  simp [p1,p2]
 ·rw [aS p1]at V;rw [aS p2]at hy
  conv=>lhs;rw [V,hy]
  rw [Y]
  simp [p1,p2]
def V8(V:r64 x)(hy:r64 y)(h0:y≠0):(QY 15 x y).2=decide (r64 (x.tdiv y))/\(r64 (x.tdiv y)->(QY 15 x y).1=x.tdiv y):=by
 have ha:x.natAbs<=9223372036854775808:=by unfold r64 at V;omega
 have hq:=N1 x y
 have e:QY 15 x y=(oA x y).getD (0,false):=rfl
 rw [e]
 unfold oA
 rw [aS (by simpa using h0),wW x V,wW y hy]
 simp only [bt]
 have hn:nz ((y.natAbs:Nat):Int)=some ():=by
  unfold nz
  rw [aS (by omega)]
 rw [hn]
 have Y:((x.natAbs:Int)).tdiv (y.natAbs:Int)=((x.natAbs/y.natAbs:Nat):Int):=rfl
 have hle:x.natAbs/y.natAbs<=x.natAbs:=Nat.div_le_self _ _
 simp only [bt]
 rw [Y,tt (by omega)]
 generalize (decide (x<0) !=decide (y<0))=b at hq ⊢
 obtain⟨n,I,K⟩:=JZ (x.natAbs/y.natAbs) (by omega) b
 rw [I]
 simp only [bt,JJ]
 rw [hq]
 exact⟨rfl,K⟩
def exZ(tag x y:Int):Option Int:=if tag=12 then some (x+y)else if tag=13 then some (x-y)else if tag=14 then some (x*y)else if y=0 then none else some (x.tdiv y)
def Jn(tag x y:Int):ac×Int:=match exZ tag x y with
 |none=>(zV,140)
 |some z=>if r64 z then(iV z,0)else(zV,140)
def aan(x y:Int):exZ 12 x y=some (x+y):=rfl
def aam(x y:Int):exZ 13 x y=some (x-y):=rfl
def aal(x y:Int):exZ 14 x y=some (x*y):=rfl
def SE(x y:Int):exZ 15 x y=if y=0 then none else some (x.tdiv y):=rfl
variable{tag:Int}
def sn(h:exZ tag x y=some z):Jn tag x y=if r64 z then(iV z,0)else(zV,140):=by
 unfold Jn;rw [h]
def Kd(h:exZ tag x y=none):Jn tag x y=(zV,140):=by
 unfold Jn;rw [h]
def Lx{a:Int×Bool}(I:a.2=decide (r64 z))(K:r64 z->a.1=z):(if a.2=true then(iV a.1,(0:Int))else(zV,140))=if r64 z then(iV z,0)else(zV,140):=by
 by_cases h:r64 z
 ·rw [I,zQ h,br rfl,br h,K h]
 ·rw [I,yI h,aS (by decide),aS h]
def ZO(Y:tag=12\/tag=13\/tag=14\/tag=15)(V:r64 x)(hy:r64 y):(if(QY tag x y).2=true then(iV (QY tag x y).1,(0:Int))else(zV,140))=Jn tag x y:=by
 have hw: ∀z,r64 z->IntKind.i64.wrap z=z:=fun z h=>by unfold r64 at h;exact dm h.1 h.2
 rcases Y with rfl|rfl|rfl|rfl
 ·rw [sn (aan x y)]
  exact Lx (by rw [WF V hy]) (fun h=>by rw [WF V hy];exact hw _ h)
 ·rw [sn (aam x y)]
  exact Lx (by rw [UT V hy]) (fun h=>by rw [UT V hy];exact hw _ h)
 ·rw [sn (aal x y)]
  exact Lx (Vm V hy).1 (Vm V hy).2
 ·by_cases h0:y=0
  ·subst h0
   rw [Kd (by rw [SE,br rfl])]
   rfl
  ·rw [sn (z:=x.tdiv y) (by rw [SE,aS h0])]
   exact Lx (V8 V hy h0).1 (V8 V hy h0).2

def lO(m:Nat):List Int:=[((m%4294967296:Nat):Int),((m/4294967296%4294967296:Nat):Int),((m/18446744073709551616%4294967296:Nat):Int),((m/79228162514264337593543950336%4294967296:Nat):Int),0,0,0,0]
def nv(z:Int):d8:=⟨lO z.natAbs,decide (z<0)⟩
def yu(h:m<18446744073709551616):lO m=[((m%4294967296:Nat):Int),((m/4294967296:Nat):Int),0,0,0,0,0,0]:=by
 unfold lO
 rw [Fw (show m/4294967296<4294967296 by omega),Nat.div_eq_of_lt h,Nat.div_eq_of_lt (show m<79228162514264337593543950336 by omega)]
 rfl
def Ha(x:Nat):((x:Int)).tmod 4294967296=((x%4294967296:Nat):Int):=rfl
def A1{u:Nat}(h:u<18446744073709551616):fx .xor .u64 (if IntKind.u64.signed then -1 else IntKind.u64.max) (u:Int)=((18446744073709551615-u:Nat):Int):=by
 have e:fx .xor .u64 (if IntKind.u64.signed then -1 else IntKind.u64.max) (u:Int)=IntKind.u64.wrap (((BitVec.ofInt 64 (if IntKind.u64.signed then -1 else IntKind.u64.max)^^^BitVec.ofInt 64 (u:Int)).toNat:Nat):Int):=rfl
 have e1:BitVec.ofInt 64 (if IntKind.u64.signed then -1 else IntKind.u64.max)=BitVec.allOnes 64:=by decide
 have e2:BitVec.ofInt 64 (u:Int)=BitVec.ofNat 64 u:=BitVec.ofInt_natCast 64 u
 rw [e,e1,e2,BitVec.allOnes_xor,BitVec.toNat_not,BitVec.toNat_ofNat,Fw (by omega:u<2^64),tt (by omega)]
def Pm(m:Nat)(h:m<18446744073709551616)(b:Bool):ow 0 (m:Int) ⟨List.replicate 8 0,b⟩=some ⟨lO m,b⟩:=by
 rw [yu h]
 unfold ow
 rw [Ha,zG]
 rfl
def kT(h:r64 z):gX z=some (nv z):=by
 unfold r64 at h
 unfold gX nv
 by_cases hz:z<0
 ·rw [br (by simpa using hz)]
  unfold sY
  rw [br (by decide)]
  have eu:IntKind.u64.wrap z=((18446744073709551616-z.natAbs:Nat):Int):=by rw [wP];omega
  rw [eu,A1 (by omega)]
  have e1:IntKind.u64.wrap (((18446744073709551615-(18446744073709551616-z.natAbs):Nat):Int)+1)=((z.natAbs:Nat):Int):=by rw [wP];omega
  rw [e1,aS (by simp;omega)]
  have e2:IntKind.u64.wrap (-1)=((18446744073709551615:Nat):Int):=by decide
  rw [e2,A1 (by omega)]
  have:=Pm z.natAbs (by omega) true
  rw [show((18446744073709551615-18446744073709551615:Nat):Int)=0 from rfl,this]
  simp [hz]
 ·rw [aS (by simpa using hz)]
  unfold sY
  rw [aS (by decide)]
  have eu:IntKind.u64.wrap z=((z.natAbs:Nat):Int):=by rw [wP];omega
  rw [eu,show IntKind.u64.wrap 0=0 from by decide,Pm z.natAbs (by omega) false]
  simp [hz]
def G0(h:m<340282366920938463463374607431768211456)(b:Bool):tL ⟨lO m,b⟩=some (decide (m=0)):=by
 unfold tL
 congr 1
 apply lP
 simp only [j9]
 constructor
 ·intro he
  unfold lO at he
  have he:[((m%4294967296:Nat):Int),((m/4294967296%4294967296:Nat):Int),((m/18446744073709551616%4294967296:Nat):Int),((m/79228162514264337593543950336%4294967296:Nat):Int),0,0,0,0]=[0,0,0,0,0,0,0,0]:=he
  simp only [List.cons.injEq]at he
  omega
 ·intro he;subst he;rfl
def Ue(h:z.natAbs<340282366920938463463374607431768211456):sX (nv z)=some (nv (-z)):=by
 unfold sX nv
 rw [G0 h]
 simp only [Int.natAbs_neg]
 by_cases I:z<0
 ·have K: ¬(-z<0):=by omega
  simp [I,K]
  omega
 ·by_cases h0:z=0
  ·subst h0;simp
  ·have K: -z<0:=by omega
   have h3: ¬z.natAbs=0:=by omega
   have h4:decide (z<0)=false:=yI I
   have h5:decide (-z<0)=true:=zQ K
   have h6:decide (z.natAbs=0)=false:=yI h3
   rw [h4,h5,h6]
   rfl
variable{i:Nat}
def XW(h:i<8):TU (i:Int) 8=some ():=by unfold TU;rw [br (by omega)]
def jZ(aa bb ds:List Int)(s t:Bool)(k i:Nat)(hi:i<8)(e1 e2 c:Nat)(I:aa[i]? =some (e1:Int))(K:bb[i]? =some (e2:Int))(b1:e1<4294967296)(b2:e2<4294967296)(b3:c<=1):
  iB ⟨aa,s⟩ ⟨bb,s⟩ (k+1) i (c:Int) ⟨ds,t⟩=iB ⟨aa,s⟩ ⟨bb,s⟩ k (i+1) (((e1+e2+c)/4294967296:Nat):Int) ⟨ds.set i (((e1+e2+c)%4294967296:Nat):Int),t⟩:=by
 conv=>lhs;unfold iB
 rw [br (by simp),XW hi,cO,I,cO,K]
 simp only [bt]
 rw [<-Dj,tt (by omega),<-Dj,tt (by omega),zG,Ha]
 rfl
def j3(aa bb ds:List Int)(s u t:Bool)(hsu:(s==u)=false)(k i:Nat)(hi:i<8)(e1 e2 c:Nat)(I:aa[i]? =some (e1:Int))(K:bb[i]? =some (e2:Int))(b1:e1<4294967296)(b2:e2<4294967296)(b3:c<=1):
  iB ⟨aa,s⟩ ⟨bb,u⟩ (k+1) i (c:Int) ⟨ds,t⟩=iB ⟨aa,s⟩ ⟨bb,u⟩ k (i+1) ((1-(e1+4294967296-e2-c)/4294967296:Nat):Int) ⟨ds.set i (((e1+4294967296-e2-c)%4294967296:Nat):Int),t⟩:=by
 conv=>lhs;unfold iB
 rw [aS (by simp only [hsu];decide),XW hi,cO,I,cO,K]
 simp only [bt]
 have q1:IntKind.u64.wrap ((e1:Int)+4294967296)=((e1+4294967296:Nat):Int):=by rw [JR (by omega) (by omega)];omega
 have q2:IntKind.u64.wrap (((e1+4294967296:Nat):Int)-(e2:Int))=((e1+4294967296-e2:Nat):Int):=by rw [JR (by omega) (by omega)];omega
 have q3:IntKind.u64.wrap (((e1+4294967296-e2:Nat):Int)-(c:Int))=((e1+4294967296-e2-c:Nat):Int):=by rw [JR (by omega) (by omega)];omega
 rw [q1,q2,q3,zG,Ha]
 have q4:IntKind.u64.wrap (1-(((e1+4294967296-e2-c)/4294967296:Nat):Int))=((1-(e1+4294967296-e2-c)/4294967296:Nat):Int):=by rw [JR (by omega) (by omega)];omega
 rw [q4]
 rfl
def DI(aa bb:d8)(i:Nat)(c:Int)(m:Nat)(hm:m<340282366920938463463374607431768211456)(t:Bool):iB aa bb 0 i c ⟨lO m,t⟩=some ⟨lO m,t&&decide (m≠0)⟩:=by
 unfold iB
 cases t with
 |false=>rfl
 |true=>
  simp only [gx]
  rw [G0 hm]
  simp
def adp(hp:p<18446744073709551616)(hq:q<18446744073709551616)(s:Bool):je ⟨lO p,s⟩ ⟨lO q,s⟩=some ⟨lO (p+q),s&&decide (p+q≠0)⟩:=by
 have hd:lO (p+q)=[(((p%4294967296+q%4294967296+0)%4294967296:Nat):Int),(((p/4294967296+q/4294967296+(p%4294967296+q%4294967296+0)/4294967296)%4294967296:Nat):Int),(((0+0+(p/4294967296+q/4294967296+(p%4294967296+q%4294967296+0)/4294967296)/4294967296)%4294967296:Nat):Int),0,0,0,0,0]:=by
  unfold lO
  congr 1
  ·congr 1;omega
  ·congr 1
   ·congr 1;omega
   ·congr 1
    ·congr 1;omega
    ·congr 1
     have:(p+q)/79228162514264337593543950336%4294967296=0:=by omega
     rw [this];rfl
 have vi:=hd
 rw [yu hp,yu hq]
 unfold je
 generalize hp0:p%4294967296=p0 at vi ⊢
 generalize hp1:p/4294967296=p1 at vi ⊢
 generalize hq0:q%4294967296=q0 at vi ⊢
 generalize hq1:q/4294967296=q1 at vi ⊢
 have c1:(p0+q0+0)/4294967296<=1:=by omega
 generalize hc:(p0+q0+0)/4294967296=c at vi c1 ⊢
 have c2:(p1+q1+c)/4294967296<=1:=by omega
 generalize hcc:(p1+q1+c)/4294967296=cc at vi c2 ⊢
 rw [show((0:Int))=((0:Nat):Int)from rfl]
 rw [jZ _ _ _ s s 7 0 (by omega) p0 q0 0 rfl rfl (by omega) (by omega) (by omega),hc]
 rw [jZ _ _ _ s s 6 1 (by omega) p1 q1 c rfl rfl (by omega) (by omega) (by omega),hcc]
 rw [jZ _ _ _ s s 5 2 (by omega) 0 0 cc rfl rfl (by omega) (by omega) (by omega)]
 have c3:(0+0+cc)/4294967296=0:=by omega
 rw [c3]
 rw [jZ _ _ _ s s 4 3 (by omega) 0 0 0 rfl rfl (by omega) (by omega) (by omega)]
 rw [show(0+0+0)/4294967296=0 from rfl]
 rw [jZ _ _ _ s s 3 4 (by omega) 0 0 0 rfl rfl (by omega) (by omega) (by omega)]
 rw [show(0+0+0)/4294967296=0 from rfl]
 rw [jZ _ _ _ s s 2 5 (by omega) 0 0 0 rfl rfl (by omega) (by omega) (by omega)]
 rw [show(0+0+0)/4294967296=0 from rfl]
 rw [jZ _ _ _ s s 1 6 (by omega) 0 0 0 rfl rfl (by omega) (by omega) (by omega)]
 rw [show(0+0+0)/4294967296=0 from rfl]
 rw [jZ _ _ _ s s 0 7 (by omega) 0 0 0 rfl rfl (by omega) (by omega) (by omega)]
 have he:=DI ⟨[(p0:Int),(p1:Int),0,0,0,0,0,0],s⟩ ⟨[(q0:Int),(q1:Int),0,0,0,0,0,0],s⟩ (7+1) (((0+0+0)/4294967296:Nat):Int) (p+q) (by omega) s
 rw [vi]at he
 rw [vi]
 exact he
def aab(hp:p<18446744073709551616)(hq:q<=p)(s u:Bool)(hsu:(s==u)=false):je ⟨lO p,s⟩ ⟨lO q,u⟩=some ⟨lO (p-q),s&&decide (p-q≠0)⟩:=by
 have hd:lO (p-q)=[(((p%4294967296+4294967296-q%4294967296-0)%4294967296:Nat):Int),(((p/4294967296+4294967296-q/4294967296-(1-(p%4294967296+4294967296-q%4294967296-0)/4294967296))%4294967296:Nat):Int),0,0,0,0,0,0]:=by
  rw [yu (by omega)]
  congr 1
  ·congr 1;omega
  ·congr 1
   ·congr 1;omega
 have vi:=hd
 rw [yu hp,yu (m:=q) (by omega)]
 unfold je
 have hge:(p/4294967296+4294967296-q/4294967296-(1-(p%4294967296+4294967296-q%4294967296-0)/4294967296))/4294967296=1:=by omega
 generalize hp0:p%4294967296=p0 at vi hge ⊢
 generalize hp1:p/4294967296=p1 at vi hge ⊢
 generalize hq0:q%4294967296=q0 at vi hge ⊢
 generalize hq1:q/4294967296=q1 at vi hge ⊢
 have c1:1-(p0+4294967296-q0-0)/4294967296<=1:=by omega
 generalize hc:1-(p0+4294967296-q0-0)/4294967296=c at vi hge c1 ⊢
 rw [show((0:Int))=((0:Nat):Int)from rfl]
 rw [j3 _ _ _ s u s hsu 7 0 (by omega) p0 q0 0 rfl rfl (by omega) (by omega) (by omega),hc]
 rw [j3 _ _ _ s u s hsu 6 1 (by omega) p1 q1 c rfl rfl (by omega) (by omega) (by omega),hge]
 rw [show 1-1=0 from rfl]
 rw [j3 _ _ _ s u s hsu 5 2 (by omega) 0 0 0 rfl rfl (by omega) (by omega) (by omega)]
 rw [show 1-(0+4294967296-0-0)/4294967296=0 from rfl]
 rw [j3 _ _ _ s u s hsu 4 3 (by omega) 0 0 0 rfl rfl (by omega) (by omega) (by omega)]
 rw [show 1-(0+4294967296-0-0)/4294967296=0 from rfl]
 rw [j3 _ _ _ s u s hsu 3 4 (by omega) 0 0 0 rfl rfl (by omega) (by omega) (by omega)]
 rw [show 1-(0+4294967296-0-0)/4294967296=0 from rfl]
 rw [j3 _ _ _ s u s hsu 2 5 (by omega) 0 0 0 rfl rfl (by omega) (by omega) (by omega)]
 rw [show 1-(0+4294967296-0-0)/4294967296=0 from rfl]
 rw [j3 _ _ _ s u s hsu 1 6 (by omega) 0 0 0 rfl rfl (by omega) (by omega) (by omega)]
 rw [show 1-(0+4294967296-0-0)/4294967296=0 from rfl]
 rw [j3 _ _ _ s u s hsu 0 7 (by omega) 0 0 0 rfl rfl (by omega) (by omega) (by omega)]
 have he:=DI ⟨[(p0:Int),(p1:Int),0,0,0,0,0,0],s⟩ ⟨[(q0:Int),(q1:Int),0,0,0,0,0,0],u⟩ (7+1) ((1-(0+4294967296-0-0)/4294967296:Nat):Int) (p-q) (by omega) s
 rw [vi]at he
 rw [vi]
 exact he
def j4(aa bb:List Int)(s t:Bool)(n:Nat)(i:Nat)(hi:i<8)(e1 e2:Int)(I:aa[i]? =some e1)(K:bb[i]? =some e2):
  mh ⟨aa,s⟩ ⟨bb,t⟩ (n+1) (i:Int)=if e1=e2 then mh ⟨aa,s⟩ ⟨bb,t⟩ n ((i:Int)-1)else some (decide (e1<e2)):=by
 conv=>lhs;unfold mh
 rw [br (by simp),cO,I,cO,K]
 simp only [bt]
 by_cases h:e1=e2
 ·rw [aS (by simp [h]),br h,dm (by omega) (by omega)]
 ·rw [br (by simpa using h),aS h]
def XO(hp:p<18446744073709551616)(hq:q<18446744073709551616)(s t:Bool):tM ⟨lO p,s⟩ ⟨lO q,t⟩=some (decide (p<q)):=by
 rw [yu hp,yu hq]
 unfold tM
 obtain⟨f,hf⟩: ∃f,fm=f+9:=⟨fm-9,by have:=ku (n:=9) (by omega);omega⟩
 rw [hf]
 rw [show(7:Int)=((7:Nat):Int)from rfl,j4 _ _ s t (f+8) 7 (by omega) 0 0 rfl rfl,br rfl]
 rw [show((7:Nat):Int)-1=((6:Nat):Int)from rfl,j4 _ _ s t (f+7) 6 (by omega) 0 0 rfl rfl,br rfl]
 rw [show((6:Nat):Int)-1=((5:Nat):Int)from rfl,j4 _ _ s t (f+6) 5 (by omega) 0 0 rfl rfl,br rfl]
 rw [show((5:Nat):Int)-1=((4:Nat):Int)from rfl,j4 _ _ s t (f+5) 4 (by omega) 0 0 rfl rfl,br rfl]
 rw [show((4:Nat):Int)-1=((3:Nat):Int)from rfl,j4 _ _ s t (f+4) 3 (by omega) 0 0 rfl rfl,br rfl]
 rw [show((3:Nat):Int)-1=((2:Nat):Int)from rfl,j4 _ _ s t (f+3) 2 (by omega) 0 0 rfl rfl,br rfl]
 rw [show((2:Nat):Int)-1=((1:Nat):Int)from rfl,j4 _ _ s t (f+2) 1 (by omega) _ _ rfl rfl]
 by_cases I:((p/4294967296:Nat):Int)=((q/4294967296:Nat):Int)
 ·rw [br I,show((1:Nat):Int)-1=((0:Nat):Int)from rfl,j4 _ _ s t (f+1) 0 (by omega) _ _ rfl rfl]
  by_cases h0:((p%4294967296:Nat):Int)=((q%4294967296:Nat):Int)
  ·rw [br h0]
   unfold mh
   rw [aS (by decide)]
   congr 1
   symm
   rw [Jd];omega
  ·rw [aS h0]
   congr 1
   apply lP
   simp only [j9];omega
 ·rw [aS I]
  congr 1
  apply lP
  simp only [j9];omega
def S7(V:x.natAbs<=9223372036854775808)(hy:y.natAbs<=9223372036854775808):nm (nv x) (nv y)=some (nv (x+y)):=by
 unfold nm nv
 rw [XO (by omega) (by omega)]
 simp only [bt]
 by_cases h:(decide (x<0)==decide (y<0))=true
 ·have hs:decide (y<0)=decide (x<0):=(eq_of_beq h).symm
  have hne:(decide (x<0) !=decide (y<0))=false:=by rw [hs];simp
  rw [hne]
  simp only [iq,fU,bt]
  rw [hs,adp (by omega) (by omega)]
  congr 2
  ·congr 1
   have:(decide (x<0)=true↔decide (y<0)=true):=by rw [hs]
   simp only [j9]at this
   omega
  ·apply lP
   have:(decide (x<0)=true↔decide (y<0)=true):=by rw [hs]
   simp only [j9]at this
   simp only [gN,j9]
   omega
 ·have M:(decide (x<0)==decide (y<0))=false:=by simpa using h
  have hne:(decide (x<0) !=decide (y<0))=true:=by simp only [bne,M];rfl
  rw [hne]
  simp only [gx,bt]
  have hxy: ¬(x<0↔y<0):=by
   intro hi
   have:decide (x<0)=decide (y<0):=by simp only [Fv];exact hi
   rw [this]at M;simp at M
  by_cases hlt:x.natAbs<y.natAbs
  ·rw [br (by simpa using hlt)]
   have hb' :(decide (y<0)==decide (x<0))=false:=by
    cases q1:decide (x<0)<;>cases q2:decide (y<0)<;>simp_all
   rw [aab (by omega) (by omega) _ _ hb']
   congr 2
   ·congr 1;omega
   ·apply lP
    simp only [gN,j9]
    omega
  ·rw [aS (by simpa using hlt)]
   rw [aab (by omega) (by omega) _ _ M]
   congr 2
   ·congr 1;omega
   ·apply lP
    simp only [gN,j9]
    omega
def I3(m:Nat)(b:Bool)(e e1 e2 e3:Int):gu ⟨lO m,b⟩ e e1 e2 e3 (8-4) 4=gu ⟨lO m,b⟩ e e1 e2 e3 0 8:=by
 have step: ∀k i,(lO m)[i]? =some 0->gu ⟨lO m,b⟩ e e1 e2 e3 (k+1) i=gu ⟨lO m,b⟩ e e1 e2 e3 k (i+1):=by
  intro k i h
  conv=>lhs;unfold gu
  rw [cO]
  simp only [h,bt]
  rw [aS (by decide)]
 show gu _ _ _ _ _ (3+1) 4=_
 rw [step 3 4 rfl]
 show gu _ _ _ _ _ (2+1) 5=_
 rw [step 2 5 rfl]
 show gu _ _ _ _ _ (1+1) 6=_
 rw [step 1 6 rfl]
 show gu _ _ _ _ _ (0+1) 7=_
 rw [step 0 7 rfl]
def ac2:(2:Int)^(min (Int.toNat (32:Int)) IntKind.u64.bits)=((4294967296:Nat):Int):=by
 have:(2:Int)^(min (Int.toNat (32:Int)) IntKind.u64.bits)=4294967296:=by decide
 rw [this];rfl
def Bc(d e:Nat)(hd:d<4294967296)(he:e<4294967296):IntKind.u64.wrap (IntKind.u64.wrap ((d:Int)*2^(min (Int.toNat (32:Int)) IntKind.u64.bits))+(e:Int))=((d*4294967296+e:Nat):Int):=by
 have e0:(2:Int)^(min (Int.toNat (32:Int)) IntKind.u64.bits)=((4294967296:Nat):Int):=ac2
 rw [e0,<-Ag,tt (by omega),<-Dj,tt (by omega)]
def Pi(h:z.natAbs<340282366920938463463374607431768211456): ∃n,jy (nv z)=some (n,decide (r64 z))/\(r64 z->n=z):=by
 unfold jy wo nv
 generalize hm:z.natAbs=m at h ⊢
 have i3:di (lO m) 3=some ((m/79228162514264337593543950336%4294967296:Nat):Int):=rfl
 have i2:di (lO m) 2=some ((m/18446744073709551616%4294967296:Nat):Int):=rfl
 have i1:di (lO m) 1=some ((m/4294967296%4294967296:Nat):Int):=rfl
 have i0:di (lO m) 0=some ((m%4294967296:Nat):Int):=rfl
 simp only [i3,i2,i1,i0,bt]
 rw [I3]
 unfold gu
 rw [Bc _ _ (xS _ (by decide)) (xS _ (by decide)),Bc _ _ (xS _ (by decide)) (xS _ (by decide))]
 have hhi:m/79228162514264337593543950336%4294967296*4294967296+m/18446744073709551616%4294967296=m/18446744073709551616:=by omega
 have hlo:m/4294967296%4294967296*4294967296+m%4294967296=m%18446744073709551616:=by
  have:=Nat.mod_mul (x:=m) (a:=4294967296) (b:=4294967296)
  rw [show 4294967296*4294967296=18446744073709551616 from rfl]at this
  rw [this,Nat.mul_comm,Nat.add_comm]
 rw [hhi,hlo]
 have bhi:m/18446744073709551616<18446744073709551616:=by omega
 have blo:m%18446744073709551616<18446744073709551616:=xS _ (by decide)
 have hsplit:m=m/18446744073709551616*18446744073709551616+m%18446744073709551616:=by omega
 generalize m/18446744073709551616=hi at bhi hsplit ⊢
 generalize m%18446744073709551616=lo at blo hsplit ⊢
 by_cases hz:z<0
 ·have hzm:z= -(m:Int):=by omega
  have hm0:0<m:=by omega
  rw [br (by simpa using hz),A1 blo,A1 bhi]
  have ew:IntKind.u64.wrap (((18446744073709551615-lo:Nat):Int)+1)=(((18446744073709551616-lo)%18446744073709551616:Nat):Int):=by rw [wP];omega
  have eh:IntKind.u64.wrap (((18446744073709551615-hi:Nat):Int)+1)=(((18446744073709551616-hi)%18446744073709551616:Nat):Int):=by rw [wP];omega
  rw [ew,eh]
  unfold mi
  simp only [hz,Dh]
  by_cases hl0:lo=0
  ·subst hl0
   rw [br (by decide)]
   simp only [bt]
   refine⟨IntKind.i64.wrap (((18446744073709551616-0)%18446744073709551616:Nat):Int),?_,fun hr=>?_⟩
   ·congr 2
    have hnr: ¬r64 z:=by unfold r64;omega
    have e0:IntKind.i64.wrap (((18446744073709551616-0)%18446744073709551616:Nat):Int)=0:=by decide
    rw [e0]
    have hne:(IntKind.i64.wrap (((18446744073709551616-hi)%18446744073709551616:Nat):Int)==0)=false:=by
     simp only [beq_eq_false_iff_ne,sJ]
     rw [xN];omega
    rw [hne]
    simp [hnr]
   ·unfold r64 at hr;omega
  ·rw [aS (by simp;omega)]
   simp only [bt]
   have e0:IntKind.i64.wrap (((18446744073709551616-lo)%18446744073709551616:Nat):Int)=if lo<=9223372036854775808 then -(lo:Int)else 18446744073709551616-(lo:Int):=by
    rw [xN];split<;>omega
   refine⟨IntKind.i64.wrap (((18446744073709551616-lo)%18446744073709551616:Nat):Int),?_,fun hr=>?_⟩
   ·congr 2
    apply lP
    rw [e0]
    simp only [gN,tB,uZ,j9]
    rw [xN]
    unfold r64
    constructor
    ·rintro⟨I,K⟩
     split at K<;>omega
    ·intro I
     have:hi=0:=by omega
     subst this
     have:lo<=9223372036854775808:=by omega
     rw [br this]
     refine⟨by omega,.inr ⟨by omega,by omega⟩⟩
   ·rw [e0]
    unfold r64 at hr
    have:hi=0:=by omega
    subst this
    rw [br (by omega)];omega
 ·have hzm:z=(m:Int):=by omega
  rw [aS (by simpa using hz)]
  unfold mi
  simp only [hz,decide_false,bt]
  have e0:IntKind.i64.wrap (lo:Int)=if lo<=9223372036854775807 then(lo:Int)else(lo:Int)-18446744073709551616:=by
   rw [xN];split<;>omega
  refine⟨IntKind.i64.wrap (lo:Int),?_,fun hr=>?_⟩
  ·congr 2
   apply lP
   rw [e0]
   simp only [gN,tB,uZ,j9,Jd]
   rw [xN]
   unfold r64
   constructor
   ·rintro⟨I,K⟩
    split at K<;>omega
   ·intro I
    have:hi=0:=by omega
    subst this
    rw [br (by omega)]
    refine⟨by omega,.inl ⟨by omega,by omega⟩⟩
  ·rw [e0]
   unfold r64 at hr
   rw [br (by omega)];omega

def yP(aa bb ds:List Int)(s t o:Bool)(nx:Nat->d8->Option d8)(i k j:Nat)(hij:i+j<8)(p e3 e4 c:Nat)(I:ds[i+j]? =some (p:Int))(K:aa[i]? =some (e3:Int))(h3:bb[j]? =some (e4:Int))(b1:p<4294967296)(b2:e3<4294967296)(b3:e4<4294967296)(b4:c<4294967296):
  jT ⟨aa,s⟩ ⟨bb,t⟩ nx i (k+1) j (c:Int) ⟨ds,o⟩=jT ⟨aa,s⟩ ⟨bb,t⟩ nx i k (j+1) (((p+e3*e4+c)/4294967296:Nat):Int) ⟨ds.set (i+j) (((p+e3*e4+c)%4294967296:Nat):Int),o⟩:=by
 conv=>lhs;unfold jT
 have hm:e3*e4<=4294967295*4294967295:=zP (by omega) (by omega)
 have hw:IntKind.i64.wrap ((i:Int)+(j:Int))=((i+j:Nat):Int):=by rw [dm (by omega) (by omega)];omega
 rw [hw,XW hij,cO,I,cO,K,cO,h3]
 simp only [bt]
 rw [<-Ag,tt (n:=e3*e4) (by omega),<-Dj,tt (n:=p+e3*e4) (by omega),<-Dj,tt (n:=p+e3*e4+c) (by omega),zG,Ha]
 rfl
def Tm(aa bb:d8)(ds:List Int)(o:Bool)(nx:Nat->d8->Option d8)(i j:Nat)(hi:i<4)(c:Int):jT aa bb nx i 0 j c ⟨ds,o⟩=nx (i+1) ⟨ds.set (i+4) c,o⟩:=by
 conv=>lhs;unfold jT
 have hw:IntKind.i64.wrap ((i:Int)+(4:Int))=((i+4:Nat):Int):=by rw [dm (by omega) (by omega)];omega
 rw [hw,XW (by omega)]
 rfl
def A9(aa bb ds:List Int)(s t o:Bool)(nx:Nat->d8->Option d8)(i:Nat)(hi:i<4)(x y0 y1 p0 p1 p2 p3:Nat)(ha:aa[i]? =some (x:Int))(h0:bb[0]? =some (y0:Int))(I:bb[1]? =some (y1:Int))(K:bb[2]? =some 0)(h3:bb[3]? =some 0)
  (q0:ds[i]? =some (p0:Int))(q1:ds[i+1]? =some (p1:Int))(q2:ds[i+2]? =some (p2:Int))(q3:ds[i+3]? =some (p3:Int))(bx:x<4294967296)(by0:y0<4294967296)(by1:y1<4294967296)(b0:p0<4294967296)(b1:p1<4294967296)(b2:p2<4294967296)(b3:p3<4294967296)
  (c1 c2 c3 c4:Nat)(e1:c1=(p0+x*y0+0)/4294967296)(e2:c2=(p1+x*y1+c1)/4294967296)(e3:c3=(p2+x*0+c2)/4294967296)(e4:c4=(p3+x*0+c3)/4294967296):
  jT ⟨aa,s⟩ ⟨bb,t⟩ nx i 4 0 0 ⟨ds,o⟩=nx (i+1) ⟨((((ds.set i (((p0+x*y0+0)%4294967296:Nat):Int)).set (i+1) (((p1+x*y1+c1)%4294967296:Nat):Int)).set (i+2) (((p2+x*0+c2)%4294967296:Nat):Int)).set (i+3) (((p3+x*0+c3)%4294967296:Nat):Int)).set (i+4) ((c4:Nat):Int),o⟩:=by
 have m0:x*y0<=4294967295*4294967295:=zP (by omega) (by omega)
 have m1:x*y1<=4294967295*4294967295:=zP (by omega) (by omega)
 have k1:c1<4294967296:=by omega
 have k2:c2<4294967296:=by omega
 have k3:c3<4294967296:=by omega
 rw [show(0:Int)=((0:Nat):Int)from rfl,yP aa bb ds s t o nx i 3 0 (by omega) p0 x y0 0 q0 ha h0 b0 bx by0 (by omega),<-e1]
 rw [yP aa bb _ s t o nx i 2 1 (by omega) p1 x y1 c1 (by rw [JN (by omega)];exact q1) ha I b1 bx by1 k1,<-e2]
 rw [yP aa bb _ s t o nx i 1 2 (by omega) p2 x 0 c2 (by rw [JN (by omega),JN (by omega)];exact q2) ha K b2 bx (by omega) k2,<-e3]
 rw [yP aa bb _ s t o nx i 0 3 (by omega) p3 x 0 c3 (by rw [JN (by omega),JN (by omega),JN (by omega)];exact q3) ha h3 b3 bx (by omega) k3,<-e4]
 rw [Tm _ _ _ _ _ _ _ hi]
 rfl
def ad5(m:Nat):lO m=[((m%4294967296:Nat):Int),((m/4294967296%4294967296:Nat):Int),((m/4294967296/4294967296%4294967296:Nat):Int),((m/4294967296/4294967296/4294967296%4294967296:Nat):Int),0,0,0,0]:=by
 unfold lO
 rw [FE,FE]
def PQ{p0 p1 q0 q1:Nat}(hp0:p0<4294967296)(hp1:p1<4294967296)(hq0:q0<4294967296)(hq1:q1<4294967296)(s t:Bool)(m:Nat)(hm:m=(p1*4294967296+p0)*(q1*4294967296+q0))(hlt:m<340282366920938463463374607431768211456):
  fN ⟨[(p0:Int),(p1:Int),0,0,0,0,0,0],s⟩ ⟨[(q0:Int),(q1:Int),0,0,0,0,0,0],t⟩ 4 0 ⟨List.replicate 8 0,false⟩=some ⟨lO m,(s !=t)&&decide (m≠0)⟩:=by
 have hA:p0*q0<=4294967295*4294967295:=zP (by omega) (by omega)
 have hC:p0*q1<=4294967295*4294967295:=zP (by omega) (by omega)
 have hD:p1*q0<=4294967295*4294967295:=zP (by omega) (by omega)
 have hE:p1*q1<=4294967295*4294967295:=zP (by omega) (by omega)
 have hme:m=4294967296*(4294967296*(p1*q1)+p1*q0+p0*q1)+p0*q0:=by
  rw [hm]
  simp only [wO,Nat.mul_add]
  have I:p1*4294967296*(q1*4294967296)=4294967296*(4294967296*(p1*q1)):=by
   rw [Nat.mul_mul_mul_comm,Nat.mul_comm (p1*q1),Nat.mul_assoc]
  have K:p1*4294967296*q0=4294967296*(p1*q0):=by rw [Nat.mul_right_comm,Nat.mul_comm]
  have h3:p0*(q1*4294967296)=4294967296*(p0*q1):=by rw [<-Nat.mul_assoc,Nat.mul_comm]
  rw [I,K,h3];omega
 obtain⟨c1,e1⟩: ∃c,c=(0+p0*q0+0)/4294967296:=⟨_,rfl⟩
 obtain⟨c2,e2⟩: ∃c,c=(0+p0*q1+c1)/4294967296:=⟨_,rfl⟩
 have k1:c1<4294967296:=by omega
 have k2:c2<4294967296:=by omega
 obtain⟨d1,f1⟩: ∃c,c=(0+p0*q1+c1)%4294967296:=⟨_,rfl⟩
 have l1:d1<4294967296:=by omega
 obtain⟨c3,e3⟩: ∃c,c=(d1+p1*q0+0)/4294967296:=⟨_,rfl⟩
 have k3:c3<4294967296:=by omega
 obtain⟨c4,e4⟩: ∃c,c=(c2+p1*q1+c3)/4294967296:=⟨_,rfl⟩
 have k4:c4<4294967296:=by omega
 obtain⟨d0,f0⟩: ∃c,c=(0+p0*q0+0)%4294967296:=⟨_,rfl⟩
 obtain⟨g1,f2⟩: ∃c,c=(d1+p1*q0+0)%4294967296:=⟨_,rfl⟩
 obtain⟨g2,f3⟩: ∃c,c=(c2+p1*q1+c3)%4294967296:=⟨_,rfl⟩
 have l0:d0<4294967296:=by omega
 have l2:g1<4294967296:=by omega
 have l3:g2<4294967296:=by omega
 have z: ∀x:Nat,0+x*0+0=0:=fun x=>by omega
 -- row 0
 conv=>lhs;unfold fN
 rw [A9 _ _ _ s t false _ 0 (by omega) p0 q0 q1 0 0 0 0 rfl rfl rfl rfl rfl rfl rfl rfl rfl hp0 hq0 hq1 (by omega) (by omega) (by omega) (by omega) c1 c2 0 0 e1 e2 (by omega) (by omega)]
 rw [<-f0,<-f1,show(0+p0*0+c2)%4294967296=c2 from by omega,show(0+p0*0+0)%4294967296=0 from by omega]
 show fN _ _ 3 1 ⟨[(d0:Int),(d1:Int),(c2:Int),0,0,0,0,0],false⟩=_
 -- row 1
 conv=>lhs;unfold fN
 rw [A9 _ _ _ s t false _ 1 (by omega) p1 q0 q1 d1 c2 0 0 rfl rfl rfl rfl rfl rfl rfl rfl rfl hp1 hq0 hq1 l1 k2 (by omega) (by omega) c3 c4 0 0 e3 e4 (by omega) (by omega)]
 rw [<-f2,<-f3,show(0+p1*0+c4)%4294967296=c4 from by omega,show(0+p1*0+0)%4294967296=0 from by omega]
 show fN _ _ 2 2 ⟨[(d0:Int),(g1:Int),(g2:Int),(c4:Int),0,0,0,0],false⟩=_
 -- row 2
 conv=>lhs;unfold fN
 rw [A9 _ _ _ s t false _ 2 (by omega) 0 q0 q1 g2 c4 0 0 rfl rfl rfl rfl rfl rfl rfl rfl rfl (by omega) hq0 hq1 l3 k4 (by omega) (by omega) 0 0 0 0 (by omega) (by omega) (by omega) (by omega)]
 rw [show(g2+0*q0+0)%4294967296=g2 from by omega,show(c4+0*q1+0)%4294967296=c4 from by omega]
 show fN _ _ 1 3 ⟨[(d0:Int),(g1:Int),(g2:Int),(c4:Int),0,0,0,0],false⟩=_
 -- row 3
 conv=>lhs;unfold fN
 rw [A9 _ _ _ s t false _ 3 (by omega) 0 q0 q1 c4 0 0 0 rfl rfl rfl rfl rfl rfl rfl rfl rfl (by omega) hq0 hq1 k4 (by omega) (by omega) (by omega) 0 0 0 0 (by omega) (by omega) (by omega) (by omega)]
 rw [show(c4+0*q0+0)%4294967296=c4 from by omega,show(0+0*q1+0)%4294967296=0 from by omega]
 show fN _ _ 0 4 ⟨[(d0:Int),(g1:Int),(g2:Int),(c4:Int),0,0,0,0],false⟩=_
 have hd:[(d0:Int),(g1:Int),(g2:Int),(c4:Int),0,0,0,0]=lO m:=by
  rw [ad5]
  generalize p0*q0=A at*
  generalize p0*q1=C at*
  generalize p1*q0=D at*
  generalize p1*q1=E at*
  have r1:m/4294967296=4294967296*E+D+C+c1:=by omega
  have r2:m/4294967296/4294967296=c2+E+c3:=by rw [r1];omega
  have r3:m/4294967296/4294967296/4294967296=c4:=by rw [r2];omega
  have w0:m%4294967296=d0:=by omega
  have w1:(4294967296*E+D+C+c1)%4294967296=g1:=by omega
  have w2:(c2+E+c3)%4294967296=g2:=f3.symm
  have w3:c4%4294967296=c4:=by omega
  rw [r3,r2,r1,w0,w1,w2,w3]
 rw [hd]
 unfold fN
 cases hst:(s !=t)with
 |false=>rfl
 |true=>
  simp only [gx]
  rw [G0 hlt]
  simp
def WG(V:x.natAbs<=9223372036854775808)(hy:y.natAbs<=9223372036854775808):uL (nv x) (nv y)=some (nv (x*y)):=by
 have hpr:=N2 x y
 have hna:(x*y).natAbs=x.natAbs*y.natAbs:=Int.natAbs_mul x y
 have hle:x.natAbs*y.natAbs<=9223372036854775808*9223372036854775808:=zP V hy
 unfold uL nv
 rw [yu (m:=x.natAbs) (by omega),yu (m:=y.natAbs) (by omega)]
 rw [PQ (m:=x.natAbs*y.natAbs) (by omega) (by omega) (by omega) (by omega) _ _ (by congr 1<;>omega) (by omega)]
 rw [hna]
 congr 2
 apply lP
 simp only [gN,j9]
 generalize x.natAbs*y.natAbs=m at*
 generalize (decide (x<0) !=decide (y<0))=b at*
 rw [hpr]
 cases b with
 |true=>simp only [gx,true_and];omega
 |false=>simp only [iq,fU,false_and];constructor;exact False.elim;omega

def adD(a b:Int):di [a,b,0,0,0,0,0,0] 1=some b:=rfl
def adE(a b:Int):di [a,b,0,0,0,0,0,0] 0=some a:=rfl
def ado(a b:Int):((List.replicate 8 (0:Int)).set 0 a).set 1 b=[a,b,0,0,0,0,0,0]:=rfl
def TB(p0 p1 q0 q1:Nat)(s t:Bool)(hp0:p0<4294967296)(hp1:p1<4294967296)(hq0:q0<4294967296)(hq1:q1<4294967296)(p q:Nat)(hp:p1*4294967296+p0=p)(hq:q1*4294967296+q0=q)(h0:q≠0):
  nV ⟨[(p0:Int),(p1:Int),0,0,0,0,0,0],s⟩ ⟨[(q0:Int),(q1:Int),0,0,0,0,0,0],t⟩=some ⟨lO (p/q),(s !=t)&&(((p/q:Nat):Int) !=0)⟩:=by
 unfold nV
 rw [adD,adE,adD,adE]
 rw [bt,bt,bt,bt]
 rw [Bc _ _ hp1 hp0,Bc _ _ hq1 hq0,hp,hq]
 have hn:nz (q:Int)=some ():=by
  unfold nz
  rw [aS (by omega)]
 have hle:p/q<=p:=Nat.div_le_self _ _
 have Y:((p:Nat):Int).tdiv (q:Int)=((p/q:Nat):Int):=rfl
 rw [hn,bt,Y,tt (by omega),Ha,zG,ado,yu (by omega)]
def Pk(V:x.natAbs<=9223372036854775808)(hy:y.natAbs<=9223372036854775808)(h0:y≠0):nV (nv x) (nv y)=some (nv (x.tdiv y)):=by
 have hq:=N1 x y
 have hna:(x.tdiv y).natAbs=x.natAbs/y.natAbs:=Int.natAbs_tdiv x y
 unfold nv
 rw [yu (m:=x.natAbs) (by omega),yu (m:=y.natAbs) (by omega)]
 rw [TB _ _ _ _ _ _ (by omega) (by omega) (by omega) (by omega) x.natAbs y.natAbs (by omega) (by omega) (by omega),hna]
 generalize x.natAbs/y.natAbs=m at*
 have hf:((decide (x<0) !=decide (y<0))&&((m:Int) !=0))=decide (x.tdiv y<0):=by
  apply lP
  rw [hq]
  generalize (decide (x<0) !=decide (y<0))=b
  cases b with
  |true=>simp only [xr,ux,sJ,j9,gx];omega
  |false=>simp only [GQ,iq,fU,j9,false_iff];omega
 rw [hf]
variable{v:ac}
def Bb(h:z.natAbs<340282366920938463463374607431768211456):((jy (nv z)).bind fun r=>if(!r.2)=true then some (zV,(140:Int))else(lj r.1).bind fun v=>some (v,(0:Int)))=some (if r64 z then(iV z,0)else(zV,140)):=by
 obtain⟨n,I,K⟩:=Pi h
 rw [I]
 simp only [bt]
 by_cases hr:r64 z
 ·rw [br hr,K hr,aS (by simp [hr])];rfl
 ·rw [aS hr,br (by simp [hr])]
def Rm(v:ac)(h:gF v=true):qp v=some ((v.Kind==0)||(v.Kind==2)):=by
 unfold qp
 rw [gg,h];rfl
def Cq(h:r64 x):x.natAbs<=9223372036854775808:=by unfold r64 at h;omega
def S3(h: ¬((a.Kind=0\/a.Kind=2)/\(b.Kind=0\/b.Kind=2))):z8 tag a b=(zV,2):=aS h
def WB(h:(a.Kind=0\/a.Kind=2)/\(b.Kind=0\/b.Kind=2))(K:a.Kind=0\/b.Kind=0):z8 tag a b=(zV,0):=by
 unfold z8
 rw [br h,br K]
def ZM(Y:tag=12\/tag=13\/tag=14\/tag=15)(ha:Pl a)(M:Pl b)(h:(a.Kind=0\/a.Kind=2)/\(b.Kind=0\/b.Kind=2))(K: ¬(a.Kind=0\/b.Kind=0)):z8 tag a b=Jn tag a.N b.N:=by
 unfold z8
 rw [br h,aS K,ZO Y ha.r64 M.r64]
def adr(tag:Int):Int:=if tag=12 then 43 else if tag=13 then 45 else if tag=14 then 42 else 47
def agf(V:r64 x)(hy:r64 y):((gX x).bind fun r4=>(gX y).bind fun r5=>(nm r4 r5).bind fun r6=>(jy r6).bind fun r7=>if(!r7.2)=true then some (zV,(140:Int))else(lj r7.1).bind fun r8=>some (r8,(0:Int)))=some (Jn 12 x y):=by
 rw [kT V,kT hy,bt,bt,S7 (Cq V) (Cq hy),bt,sn (aan _ _)]
 have:=Cq V
 have:=Cq hy
 exact Bb (by omega)
def age(V:r64 x)(hy:r64 y):((gX x).bind fun r9=>(gX y).bind fun r10=>(sX r10).bind fun r11=>(nm r9 r11).bind fun r12=>(jy r12).bind fun r13=>if(!r13.2)=true then some (zV,(140:Int))else(lj r13.1).bind fun r14=>some (r14,(0:Int)))=some (Jn 13 x y):=by
 have I:=Cq V
 have K:=Cq hy
 rw [kT V,kT hy,bt,bt,Ue (by omega),bt,S7 I (by rw [Int.natAbs_neg];exact K),bt,sn (aam _ _),<-Int.sub_eq_add_neg]
 exact Bb (by omega)
def agd(V:r64 x)(hy:r64 y):((gX x).bind fun r15=>(gX y).bind fun r16=>(uL r15 r16).bind fun r17=>(jy r17).bind fun r18=>if(!r18.2)=true then some (zV,(140:Int))else(lj r18.1).bind fun r19=>some (r19,(0:Int)))=some (Jn 14 x y):=by
 have I:=Cq V
 have K:=Cq hy
 rw [kT V,kT hy,bt,bt,WG I K,bt,sn (aal _ _)]
 have h3:x.natAbs*y.natAbs<=85070591730234615865843651857942052864:=zP I K
 exact Bb (by rw [Int.natAbs_mul];omega)
def agc(V:r64 x)(hy:r64 y)(h0:y≠0):((gX x).bind fun r20=>(gX y).bind fun r21=>(nV r20 r21).bind fun r22=>(jy r22).bind fun r23=>if(!r23.2)=true then some (zV,(140:Int))else(lj r23.1).bind fun r24=>some (r24,(0:Int)))=some (Jn 15 x y):=by
 have I:=Cq V
 have K:=Cq hy
 rw [kT V,kT hy,bt,bt,Pk I K h0,bt,sn (z:=x.tdiv y) (by rw [SE,aS h0])]
 have h3:(x.tdiv y).natAbs=x.natAbs/y.natAbs:=Int.natAbs_tdiv _ _
 have h4:x.natAbs/y.natAbs<=x.natAbs:=Nat.div_le_self _ _
 exact Bb (by omega)
def aaY(Y:tag=12\/tag=13\/tag=14\/tag=15)(ha:Pl a)(M:Pl b):jU (adr tag) a b=some (z8 tag a b):=by
 have hra:=ha.r64
 have hrb:=M.r64
 unfold jU
 rw [gg,gg,ha.right,M.right,Rm a ha.right,Rm b M.right]
 rw [bt,br (by decide),bt,bt,aS (by decide),bt,bt]
 by_cases I:a.Kind=0\/a.Kind=2
 ·have e1:((a.Kind==0)||(a.Kind==2))=true:=by simpa using I
  rw [e1,br (by decide)]
  by_cases K:b.Kind=0\/b.Kind=2
  ·have e2:((b.Kind==0)||(b.Kind==2))=true:=by simpa using K
   rw [e2,bt,aS (by decide)]
   by_cases h3:a.Kind=0\/b.Kind=0
   ·rw [WB ⟨I,K⟩ h3,br (by simpa using h3)];rfl
   ·rw [ZM Y ha M ⟨I,K⟩ h3,aS (by simpa using h3)]
    rcases Y with rfl|rfl|rfl|rfl
    ·rw [br (by decide)]
     exact agf hra hrb
    ·rw [aS (by decide),br (by decide)]
     exact age hra hrb
    ·rw [aS (by decide),aS (by decide),br (by decide)]
     exact agd hra hrb
    ·rw [aS (by decide),aS (by decide),aS (by decide)]
     by_cases h0:b.N=0
     ·rw [br (by simpa using h0),Kd (by rw [SE,br h0])];rfl
     ·rw [aS (by simpa using h0)]
      exact agc hra hrb h0
  ·have e2:((b.Kind==0)||(b.Kind==2))=false:=by simpa using K
   rw [e2,bt,br (by decide),S3 (fun h=>K h.2)];rfl
 ·have e1:((a.Kind==0)||(a.Kind==2))=false:=by simpa using I
  rw [e1,aS (by decide),bt,br (by decide),S3 (fun h=>I h.1)];rfl

def Kq{s:C0}{x:UInt8}{xs:List UInt8}(h:s.drop i=x::xs):OJ s (i:Int)=some (x.toNat:Int):=by
 unfold OJ
 rw [cO]
 have:s[i]? =some x:=by
  have K:(s.drop i)[0]? =some x:=by rw [h];rfl
  rw [zU]at K
  exact K
 rw [this];rfl
variable{α:Type}
def KE{s:List α}{x:α}{xs:List α}(h:s.drop i=x::xs):s.drop (i+1)=xs:=by
 rw [<-qb,h];rfl
def acJ(a b:ac): ∀(xs ys:List UInt8) (i n:Nat),a.S.drop i=xs->b.S.drop i=ys->a.S.length=i+xs.length->b.S.length=i+ys.length->xs.length<n->a.S.length<=100000->mq a b n (i:Int)=some (Lib.compareBytes xs ys):=by
 intro xs
 induction xs with
 |nil=>
  intro ys i n I K l1 l2 hn _
  obtain⟨m,rfl⟩: ∃m,n=m+1:=⟨n-1,by simp at hn;omega⟩
  simp only [oo,vg]at l1
  unfold mq
  have e1:decide ((i:Int)<(a.S.length:Int))=false:=by simp;omega
  rw [e1,GQ,aS (by decide)]
  cases ys with
  |nil=>
   simp only [oo,vg]at l2
   rw [aS (by simp;omega)];rfl
  |cons y ys=>
   simp only [io]at l2
   rw [br (by simp;omega),br (by simp;omega)];rfl
 |cons x xs ih=>
  intro ys i n I K l1 l2 hn hl
  obtain⟨m,rfl⟩: ∃m,n=m+1:=⟨n-1,by simp at hn;omega⟩
  simp only [io]at l1 hn
  unfold mq
  have e1:decide ((i:Int)<(a.S.length:Int))=true:=by simp;omega
  rw [e1,xr]
  cases ys with
  |nil=>
   simp only [oo,vg]at l2
   rw [aS (by simp;omega),br (by simp;omega),aS (by simp;omega)];rfl
  |cons y ys=>
   simp only [io]at l2
   rw [br (by simp;omega),Kq I,Kq K]
   simp only [bt]
   unfold Lib.compareBytes
   by_cases h:x=y
   ·subst h
    have hlt: ¬x<x:=by rw [Rd];omega
    rw [aS (by simp),aS hlt,aS hlt,dm (by omega) (by omega)]
    exact ih ys (i+1) m (KE I) (KE K) (by omega) (by omega) (by omega) hl
   ·have hne:x.toNat≠y.toNat:=fun hh=>h (UInt8.toNat_inj.1 hh)
    rw [br (by simp;omega)]
    by_cases hlt:x<y
    ·have:=Rd.1 hlt
     rw [br hlt,br (by simp;omega)]
    ·have h3: ¬x.toNat<y.toNat:=fun hh=>hlt (Rd.2 hh)
     have h4:y<x:=Rd.2 (by omega)
     rw [aS hlt,br h4,aS (by simp;omega)]
def Pl.short(h:Pl v):v.S.length<=40:=by
 cases h with
 |z=>simp [zV]
 |b b=>simp [bV]
 |i n h=>simp [iV]
 |s s h=>exact h
def sg(x y:Int):Int:=if x<y then -1 else if y<x then 1 else 0
def QV(x y:Int):kj x y=some (sg x y):=by
 unfold kj pN sg
 simp only [B5,bt,iq,fU,j9]
 by_cases I:x<y
 ·rw [br I,br I]
 ·rw [aS I,aS I]
  by_cases K:y<x
  ·rw [br K,br K]
  ·rw [aS K,aS K]
def ML(x y:Int):i9 x y=some (sg x y):=by
 unfold i9 mP sg
 simp only [B5,bt,iq,fU,j9]
 by_cases I:x<y
 ·rw [br I,br I]
 ·rw [aS I,aS I]
  by_cases K:y<x
  ·rw [br K,br K]
  ·rw [aS K,aS K]
def ZA(x y z:Int):oX [x,y,z]=some (if x≠0 then x else if y≠0 then y else z):=by
 unfold oX iC iC iC iC
 by_cases I:x=0<;>by_cases K:y=0<;>by_cases h3:z=0<;>simp [I,K,h3]
def MM(ha:Pl a)(M:Pl b):IG a b=if sg a.Kind b.Kind≠0 then sg a.Kind b.Kind else if sg a.N b.N≠0 then sg a.N b.N else Lib.compareBytes a.S b.S:=by
 unfold IG nd
 rw [ha.plain_eq,M.plain_eq,bt,br (by decide),bt,bt,aS (by decide),QV,ML,bt,bt]
 have:rC a.S b.S=some (Lib.compareBytes a.S b.S):=rfl
 rw [this,bt,ZA];rfl
def UW(x:Int):sg x x=0:=by unfold sg;rw [aS (by omega),aS (by omega)]
def Rw(h:x≠y):sg x y=(if x<y then -1 else 1)/\sg x y≠0:=by
 unfold sg
 by_cases I:x<y
 ·rw [br I,br I];exact⟨rfl,by decide⟩
 ·rw [aS I,aS I,br (by omega)];exact⟨rfl,by decide⟩
def acM(ha:Pl a)(M:Pl b)(h:a.Kind≠b.Kind):IG a b=if a.Kind<b.Kind then -1 else 1:=by
 rw [MM ha M,br (Rw h).2,(Rw h).1]
def acL(ha:Pl a)(M:Pl b)(h:a.Kind=b.Kind)(K:a.N≠b.N):IG a b=if a.N<b.N then -1 else 1:=by
 rw [MM ha M,h,UW,aS (by decide),br (Rw K).2,(Rw K).1]
def acK(ha:Pl a)(M:Pl b)(h:a.Kind=b.Kind)(K:a.N=b.N):IG a b=Lib.compareBytes a.S b.S:=by
 rw [MM ha M,h,UW,aS (by decide),K,UW,aS (by decide)]
def ES(ha:Pl a)(M:Pl b):pF a b=some (IG a b):=by
 unfold pF
 rw [kY,kY,ha.plain,M.plain,bt,br (by decide),bt,bt,aS (by decide)]
 by_cases I:a.Kind=b.Kind
 ·rw [aS (by simpa using I)]
  by_cases K:a.N=b.N
  ·rw [aS (by simpa using K),acK ha M I K]
   have h4:=ha.short
   have h5:=ku (n:=41) (by omega)
   exact acJ a b a.S b.S 0 fm rfl rfl (by omega) (by omega) (by omega) (by omega)
  ·rw [br (by simpa using K),acL ha M I K]
   by_cases h3:a.N<b.N
   ·rw [br h3,br (by simpa using h3)]
   ·rw [aS h3,aS (by simpa using h3)]
 ·rw [br (by simpa using I),acM ha M I]
  by_cases h3:a.Kind<b.Kind
  ·rw [br h3,br (by simpa using h3)]
  ·rw [aS h3,aS (by simpa using h3)]
def xD(b:Bool):lB b=some (bV b):=by cases b<;>rfl
def ZI(ha:Pl a)(M:Pl b):tP a b=some (if a.Kind≠0/\b.Kind≠0/\a.Kind≠b.Kind then 2 else 0):=by
 unfold tP
 rw [gg,gg,ha.right,M.right,bt,br (by decide),bt,bt,aS (by decide)]
 rw [kY,kY,ha.plain,M.plain,bt,br (by decide),bt,bt]
 by_cases h:a.Kind≠0/\b.Kind≠0/\a.Kind≠b.Kind
 ·rw [br h,br (by simp [h])]
 ·rw [aS h,aS (by simp;intro I K;exact Classical.byContradiction fun h3=>h ⟨I,K,h3⟩)]
def NV(ha:Pl a)(M:Pl b)(f:Int->Bool):((tP a b).bind fun r=>if(((r !=(0:Int))||(a.Kind==(0:Int)))||(b.Kind==(0:Int)))=true then some ((⟨(0:Int),(0:Int),(0:Int),[]⟩:ac),r)else(pF a b).bind fun r1=>(lB (f r1)).bind fun r2=>some (r2,(0:Int)))=some (gv f a b):=by
 rw [ZI ha M,bt]
 by_cases h0:a.Kind=0\/b.Kind=0
 ·have hne: ¬(a.Kind≠0/\b.Kind≠0/\a.Kind≠b.Kind):=fun h=>h0.elim h.1 h.2.1
  have e:gv f a b=(zV,0):=br h0
  rw [aS hne,e,br (by rcases h0 with h|h<;>simp [h])];rfl
 ·have I:a.Kind≠0:=fun h=>h0 (.inl h)
  have K:b.Kind≠0:=fun h=>h0 (.inr h)
  by_cases h3:a.Kind=b.Kind
  ·have hne: ¬(a.Kind≠0/\b.Kind≠0/\a.Kind≠b.Kind):=fun h=>h.2.2 h3
   have e:gv f a b=(bV (f (IG a b)),0):=by unfold gv;rw [aS h0,br h3]
   rw [aS hne,e,aS (by simp [I,K]),ES ha M,bt,xD];rfl
  ·have hp:a.Kind≠0/\b.Kind≠0/\a.Kind≠b.Kind:=⟨I,K,h3⟩
   have e:gv f a b=(zV,2):=by unfold gv;rw [aS h0,aS h3]
   rw [br hp,e,br (by simp)];rfl
def AB(ha:Pl a)(M:Pl b):ss a b=some (gv (fun c=>c==0) a b):=NV ha M _
def uq(ha:Pl a)(M:Pl b):np a b=some (gv (fun c=>decide (c<0)) a b):=NV ha M _
def EJ(ha:Pl a)(M:Pl b):qG a b=some (if a.Kind<=1/\b.Kind<=1 then 0 else 2):=by
 unfold qG
 rw [gg,gg,ha.right,M.right,bt,br (by decide),bt,bt,aS (by decide)]
 by_cases h:a.Kind<=1/\b.Kind<=1
 ·rw [br h,aS (by simp;omega)]
 ·rw [aS h,br (by simp;omega)]
def DE(h:Tu a):jY a=some (Jx a,0):=by
 cases h with
 |z=>rfl
 |b b=>cases b<;>rfl
def LD(ha:Tu a)(M:Tu b):tQ a b=some (IQ a b,0):=by
 cases ha with
 |z=>cases M with
  |z=>rfl
  |b b=>cases b<;>rfl
 |b x=>cases M with
  |z=>cases x<;>rfl
  |b b=>cases x<;>cases b<;>rfl
def NX(ha:Tu a)(M:Tu b):ye a b=some (WY a b,0):=by
 cases ha with
 |z=>cases M with
  |z=>rfl
  |b b=>cases b<;>rfl
 |b x=>cases M with
  |z=>cases x<;>rfl
  |b b=>cases x<;>cases b<;>rfl
def LC(ha:Pl a):jY a=some (if a.Kind<=1 then(Jx a,0)else(zV,2)):=by
 by_cases h:a.Kind<=1
 ·rw [br h];exact DE ((kC ha).2 h)
 ·rw [aS h]
  unfold jY
  rw [EJ ha ha,aS (fun k=>h k.1)];rfl
def LE(ha:Pl a)(M:Pl b):tQ a b=some (if a.Kind<=1/\b.Kind<=1 then(IQ a b,0)else(zV,2)):=by
 by_cases h:a.Kind<=1/\b.Kind<=1
 ·rw [br h];exact LD ((kC ha).2 h.1) ((kC M).2 h.2)
 ·rw [aS h]
  unfold tQ
  rw [EJ ha M,aS h];rfl
def NY(ha:Pl a)(M:Pl b):ye a b=some (if a.Kind<=1/\b.Kind<=1 then(WY a b,0)else(zV,2)):=by
 by_cases h:a.Kind<=1/\b.Kind<=1
 ·rw [br h];exact NX ((kC ha).2 h.1) ((kC M).2 h.2)
 ·rw [aS h]
  unfold ye
  rw [EJ ha M,aS h];rfl
def HX{f:Int->Bool}{x y:ac}:((jY (gv f x y).1).bind fun r=>some (r.1,(gv f x y).2))=some (HY (gv f x y)):=by
 unfold HY
 by_cases h0:(gv f x y).2=0
 ·rw [br h0,DE (uQ f x y h0),bt,h0]
 ·rw [aS h0,E2 f x y h0];rfl
def Jr{k:Nat}(h:pk tag=some k)(hk:k≠0)(ha:Pl a)(M:Pl b):CM tag a b=some (EU tag a b):=by
 have op: ∀t,t=12\/t=13\/t=14\/t=15->jU (adr t) a b=some (z8 t a b):=fun t Y=>aaY Y ha M
 rcases U8 h hk with rfl|rfl|rfl|rfl|rfl|rfl|rfl|rfl|rfl|rfl|rfl|rfl|rfl|rfl|rfl|rfl
 ·have K:jU 45 (iV 0) a=some (z8 13 (iV 0) a):=aaY (tag:=13) (.inr (.inl rfl)) (.i 0 ⟨by decide,by decide⟩) ha
  show(jU 45 (iV 0) a).bind _=_
  rw [K];rfl
 ·show(jY a).bind _=some (if a.Kind<=1 then(Jx a,0)else(zV,2))
  rw [LC ha];rfl
 ·show(lB (a.Kind==0)).bind _=some (bV (a.Kind==0),0)
  rw [xD];rfl
 ·show(lB (a.Kind !=0)).bind _=some (bV (a.Kind !=0),0)
  rw [xD];rfl
 ·show(jU 43 a b).bind _=some (z8 12 a b)
  rw [show jU 43 a b=some (z8 12 a b)from op 12 (.inl rfl)];rfl
 ·show(jU 45 a b).bind _=some (z8 13 a b)
  rw [show jU 45 a b=some (z8 13 a b)from op 13 (.inr (.inl rfl))];rfl
 ·show(jU 42 a b).bind _=some (z8 14 a b)
  rw [show jU 42 a b=some (z8 14 a b)from op 14 (.inr (.inr (.inl rfl)))];rfl
 ·show(jU 47 a b).bind _=some (z8 15 a b)
  rw [show jU 47 a b=some (z8 15 a b)from op 15 (.inr (.inr (.inr rfl)))];rfl
 ·show((ss a b).bind fun r=>some (r.1,r.2)).bind _=some (gv (fun c=>c==0) a b)
  rw [AB ha M];rfl
 ·show((ss a b).bind fun r=>(jY r.1).bind fun r4=>some (r4.1,r.2)).bind _=some (HY (gv (fun c=>c==0) a b))
  rw [AB ha M,bt,HX];rfl
 ·show((np a b).bind fun r=>some (r.1,r.2)).bind _=some (gv (fun c=>decide (c<0)) a b)
  rw [uq ha M];rfl
 ·show((np b a).bind fun r=>(jY r.1).bind fun r4=>some (r4.1,r.2)).bind _=some (HY (gv (fun c=>decide (c<0)) b a))
  rw [uq M ha,bt,HX];rfl
 ·show((np b a).bind fun r=>some (r.1,r.2)).bind _=some (gv (fun c=>decide (c<0)) b a)
  rw [uq M ha];rfl
 ·show((np a b).bind fun r=>(jY r.1).bind fun r4=>some (r4.1,r.2)).bind _=some (HY (gv (fun c=>decide (c<0)) a b))
  rw [uq ha M,bt,HX];rfl
 ·show(tQ a b).bind _=some (if a.Kind<=1/\b.Kind<=1 then(IQ a b,0)else(zV,2))
  rw [LE ha M];rfl
 ·show(ye a b).bind _=some (if a.Kind<=1/\b.Kind<=1 then(WY a b,0)else(zV,2))
  rw [NY ha M];rfl

def abr(h:pk tag=some 1)(a b c:ac):EU tag a b=EU tag a c:=by
 have h4:tag=4\/tag=5\/tag=6\/tag=7:=by
  unfold pk at h
  repeat' split at h
  all_goals simp at h
  omega
 rcases h4 with rfl|rfl|rfl|rfl<;>rfl
def ad3(h:pk tag=some 1)(a b c:ac):dz tag a b=dz tag a c:=by
 unfold dz
 rw [abr h a b c]
def I6(nx:List ac->ac->Option (ac×Int))(m:bZ)(own:List ac)(x a b:ac){k:Nat}(h:pk m.Tag=some k)(hk:k≠0)(ha:Pl a)(M:Pl b)(hl:own.length<=60000):rh nx m own x a b=if(dz m.Tag a b).2=0 then nx (own++[(dz m.Tag a b).1]) x else some (dz m.Tag a b):=by
 unfold rh
 rw [Jr h hk ha M,bt]
 rcases yr h hk ha M with⟨I,_,h3⟩|⟨I,K⟩|⟨I,K,_⟩
 ·rw [h3]at I ⊢
  rw [br I,aS (by simp [I]),aS (by simp [I]),cA (by simp;omega)];rfl
 ·rw [I,K];rfl
 ·rw [I,K];rfl
def Tw(r:List ac)(x:ac)(t:Tr):t.wf->WX t->A2 r t-> ∀(rest:List bZ) (own:List ac),own.length+t.size<=50000->
  ((ev r t).2≠0/\dM r (t.flat own.length++rest) own x=some (ev r t))\/
  ((ev r t).2=0/\ ∃w:List ac,w.length+1=t.size/\dM r (t.flat own.length++rest) own x=dM r rest (own++w++[(ev r t).1]) x):=by
 induction t with
 |lf n=>
  intro⟨I,K,h3,h4⟩ hr hc rest own hl
  simp only [Tr.flat,Tr.size,Ac,lU]at hl ⊢
  refine .inr ?_
  have e1:(jz n (-1) (-1)).Tag=n.Tag:=rfl
  have ev0:(ev r (.lf n))=if n.Tag=1 then(n.Value,0)else((r[n.Col.toNat]?).getD zV,0):=rfl
  rcases pk0 I with Y|Y
  ·rw [ev0,br Y]
   refine⟨rfl,[],rfl,?_⟩
   rw [dM]
   rw [e1,br (by simp [Y]),cA (by simp;omega)]
   simp only [bt,tA]
   rfl
  ·rw [ev0,aS (by simp [Y])]
   refine⟨rfl,[],rfl,?_⟩
   have M:=QU K Y
   obtain⟨_,v,hv,_⟩:=hc Y
   have e2:(jz n (-1) (-1)).Col=n.Col:=rfl
   rw [dM]
   rw [e1,aS (by simp [Y]),br (by simp [Y]),e2,iX n.Col.toNat (by omega),hv]
   simp only [bt,tA,JJ]
   rw [cA (by simp;omega)]
   rfl
 |un n a ih=>
  intro⟨⟨I,K,h3,h4⟩,ha⟩ hr hc rest own hl
  have hap:=a.size_pos
  simp only [Tr.flat,Tr.size,ji]at hl ⊢
  obtain⟨m,hm⟩: ∃m,m=jz n (((own.length+a.size:Nat):Int)-1) (-1):=⟨_,rfl⟩
  rw [<-hm]
  rw [SG]
  rcases ih ha hr hc ([m]++rest) own (by omega)with⟨V,he⟩|⟨V,w,hw,he⟩
  ·rw [kN V]
   exact .inl ⟨V,he⟩
  ·rw [he,pp V]
   have hpl:Pl (ev r a).1:=by
    rcases pn r a ha hr hc with⟨_,h⟩|h|h
    ·exact h
    ·rw [h]at V;cases V
    ·rw [h]at V;cases V
   generalize (ev r a).1=v at hpl ⊢
   simp only [Ac,lU]
   have e1:m.Tag=n.Tag:=by rw [hm];rfl
   have eL:m.L=((own.length+a.size:Nat):Int)-1:=by rw [hm];rfl
   have eR:m.R= -1:=by rw [hm];rfl
   have n1:n.Tag≠1:=fun h=>by rw [h]at I;simp [pk]at I
   have n2:n.Tag≠2:=fun h=>by rw [h]at I;simp [pk]at I
   have hstep:dM r (m::rest) (own++w++[v]) x=if(dz n.Tag v v).2=0 then dM r rest (own++w++[v]++[(dz n.Tag v v).1]) x else some (dz n.Tag v v):=by
    rw [dM]
    rw [e1,aS (by simpa using n1),aS (by simpa using n2)]
    rw [eL,eR,iX (own++w).length (by simp;omega),xw (fa _),v6]
    simp only [Je,bt]
    rw [aS (by decide),show(⟨0,0,0,[]⟩:ac)=zV from rfl,I6 _ m _ x v zV (by rw [e1];exact I) (by decide) hpl .z (by simp;omega),e1,ad3 I v _ v]
   rw [hstep]
   by_cases M:(dz n.Tag v v).2=0
   ·rw [br M]
    exact .inr ⟨M,w++[v],by simp;omega,by simp⟩
   ·rw [aS M]
    exact .inl ⟨M,rfl⟩
 |bi n a b iha ihb=>
  intro⟨⟨I,K,h3,h4⟩,ha,M⟩ ⟨hra,hrb⟩ ⟨hca,hcb⟩ rest own hl
  have hap:=a.size_pos
  have hbp:=b.size_pos
  simp only [Tr.flat,Tr.size,ji]at hl ⊢
  obtain⟨m,hm⟩: ∃m,m=jz n (((own.length+a.size:Nat):Int)-1) (((own.length+a.size+b.size:Nat):Int)-1):=⟨_,rfl⟩
  rw [<-hm]
  rw [SI]
  rcases iha ha hra hca (b.flat (own.length+a.size)++([m]++rest)) own (by omega)with⟨V,he⟩|⟨V,w,hw,he⟩
  ·rw [kN V]
   exact .inl ⟨V,he⟩
  ·rw [he,pp V]
   have hpl:Pl (ev r a).1:=by
    rcases pn r a ha hra hca with⟨_,h⟩|h|h
    ·exact h
    ·rw [h]at V;cases V
    ·rw [h]at V;cases V
   generalize (ev r a).1=v at hpl ⊢
   have hl2:(own++w++[v]).length=own.length+a.size:=by simp;omega
   rw [<-hl2]
   rcases ihb M hrb hcb ([m]++rest) (own++w++[v]) (by rw [hl2];omega)with⟨hy,he2⟩|⟨hy,w2,hw2,he2⟩
   ·rw [kN hy]
    exact .inl ⟨hy,he2⟩
   ·rw [he2,pp hy]
    have hpl2:Pl (ev r b).1:=by
     rcases pn r b M hrb hcb with⟨_,h⟩|h|h
     ·exact h
     ·rw [h]at hy;cases hy
     ·rw [h]at hy;cases hy
    generalize (ev r b).1=u at hpl2 ⊢
    simp only [Ac,lU]
    have e1:m.Tag=n.Tag:=by rw [hm];rfl
    have eL:m.L=((own.length+a.size:Nat):Int)-1:=by rw [hm];rfl
    have eR:m.R=((own.length+a.size+b.size:Nat):Int)-1:=by rw [hm];rfl
    have n1:n.Tag≠1:=fun h=>by rw [h]at I;simp [pk]at I
    have n2:n.Tag≠2:=fun h=>by rw [h]at I;simp [pk]at I
    have hstep:dM r (m::rest) (own++w++[v]++w2++[u]) x=if(dz n.Tag v u).2=0 then dM r rest (own++w++[v]++w2++[u]++[(dz n.Tag v u).1]) x else some (dz n.Tag v u):=by
     rw [dM]
     rw [e1,aS (by simpa using n1),aS (by simpa using n2)]
     rw [eL,eR,iX (own++w).length (by simp;omega)]
     have g1:(own++w++[v]++w2++[u])[(own++w).length]? =some v:=by
      rw [ji,ji,xw (fa _),v6];rfl
     rw [g1]
     simp only [bt]
     rw [br (by rw [j9];omega),iX (own++w++[v]++w2).length (by simp;omega)]
     have g2:(own++w++[v]++w2++[u])[(own++w++[v]++w2).length]? =some u:=by
      rw [xw (fa _),v6];rfl
     rw [g2]
     simp only [bt]
     rw [I6 _ m _ x v u (by rw [e1];exact I) (by decide) hpl hpl2 (by simp;omega),e1]
    rw [hstep]
    by_cases M:(dz n.Tag v u).2=0
    ·rw [br M]
     exact .inr ⟨M,w++[v]++w2++[u],by simp;omega,by simp⟩
    ·rw [aS M]
     exact .inl ⟨M,rfl⟩
def Cr(e:cy)(r:List ac)(x:ac): ∀ns:List bZ,(∀n∈ns,n.Tag=2->0<=n.Col)->rf e r ns x=if wF r ns then dM r e.Nodes [] x else some (zV,2)
 |[],_=>rfl
 |n::ns,hc=>by
  unfold rf
  rw [Cr e r x ns fun m hm=>hc m (lT _ hm)]
  have hcons:wF r (n::ns)=((!(n.Tag==2)||BV r n.Col)&&wF r ns):=rfl
  rw [hcons]
  by_cases Y:n.Tag=2
  ·have h0:=hc n (mp ..) Y
   have e0:(n.Tag==2)=true:=by simp [Y]
   rw [e0,br rfl]
   by_cases h:(r.length:Int)<=n.Col
   ·have M:BV r n.Col=false:=by unfold BV;rw [Bool.and_eq_false_iff];left;simp;omega
    simp [h,M,zV]
   ·have hlt:n.Col.toNat<r.length:=by omega
    have e1:di r n.Col=some r[n.Col.toNat]:=by rw [iX n.Col.toNat (by omega),p5 hlt]
    have M:BV r n.Col=oJ r[n.Col.toNat]:=by
     unfold BV
     rw [p5 hlt]
     have:decide (n.Col<(r.length:Int))=true:=by simp;omega
     rw [this];rfl
    rw [br (by simpa using h),e1,M]
    simp only [bt,kY]
    cases oJ r[n.Col.toNat]<;>simp [zV]
  ·have e0:(n.Tag==2)=false:=by simp [Y]
   rw [e0]
   simp
def Cf(e:cy)(r:List ac)(he:NT e.Nodes)(hr:Xv r):qm e r=some (qY r e.Nodes):=by
 unfold qm qY
 rw [Ay e,bt]
 cases Y:oB e.Nodes with
 |none=>
  have:lW e.Nodes=false:=by unfold lW;rw [Y];rfl
  rw [this,br (by decide)];rfl
 |some t=>
  have:lW e.Nodes=true:=by unfold lW;rw [Y];rfl
  rw [this,aS (by decide)]
  obtain⟨hw,hN,hs⟩:=ma Y
  rw [Cr e r _ e.Nodes (fun n hn K=>(G8 hw 0 (by rw [<-hN];exact hn) K).1)]
  cases hc:wF r e.Nodes with
  |false=>rfl
  |true=>
   simp only [gx]
   have hct:=zw hr t hw 0 (by rw [<-hN];exact hc)
   have hrt:=DD t 0 (by rw [<-hN];exact he)
   have h:=Tw r zV t hw hrt hct [] [] (by simp;omega)
   rw [tA,oo,<-hN]at h
   rcases h with⟨_,K⟩|⟨I,w,K,h3⟩
   ·exact K
   ·have h4:dM r e.Nodes [] zV=some (ev r t):=by
     rw [h3]
     unfold dM
     rw [lU,iX w.length (by rw [dm (by simp<;>omega) (by simp<;>omega)];simp),xw (fa _),v6]
     show some ((ev r t).1,(0:Int))=_
     rw [<-I]
    exact h4

def Ee(h:m<79228162514264337593543950336):lO m=[((m%4294967296:Nat):Int),((m/4294967296%4294967296:Nat):Int),((m/18446744073709551616:Nat):Int),0,0,0,0,0]:=by
 unfold lO
 rw [Fw (show m/18446744073709551616<4294967296 by omega),Nat.div_eq_of_lt h]
 rfl
def Wy(P aJ c:Nat)(h:c<=1):(P+aJ+c)/4294967296=P/4294967296+aJ/4294967296+(P%4294967296+aJ%4294967296+c)/4294967296/\(P+aJ+c)%4294967296=(P%4294967296+aJ%4294967296+c)%4294967296:=by omega
def SY(P aJ c:Nat)(h:aJ+c<=P)(hc:c<=1):(P-aJ-c)/4294967296=P/4294967296-aJ/4294967296-(1-(P%4294967296+4294967296-aJ%4294967296-c)/4294967296)/\(P-aJ-c)%4294967296=(P%4294967296+4294967296-aJ%4294967296-c)%4294967296/\aJ/4294967296+(1-(P%4294967296+4294967296-aJ%4294967296-c)/4294967296)<=P/4294967296/\1-(P%4294967296+4294967296-aJ%4294967296-c)/4294967296<=1:=by omega
def afW(P aJ c:Nat)(h:aJ+c<=P)(hc:c<=1)(hP:P<2147483648):(P+4294967296-aJ-c)%4294967296=P-aJ-c:=by omega
variable{l:List cS}
def abs(hp:p<39614081257132168796771975168)(hq:q<39614081257132168796771975168)(s:Bool):je ⟨lO p,s⟩ ⟨lO q,s⟩=some ⟨lO (p+q),s&&decide (p+q≠0)⟩:=by
 have dp:p/4294967296/4294967296=p/18446744073709551616:=by rw [FE]
 have dq:q/4294967296/4294967296=q/18446744073709551616:=by rw [FE]
 have ds:(p+q)/4294967296/4294967296=(p+q)/18446744073709551616:=by rw [FE]
 have hd:lO (p+q)=[(((p%4294967296+q%4294967296+0)%4294967296:Nat):Int),(((p/4294967296%4294967296+q/4294967296%4294967296+(p%4294967296+q%4294967296+0)/4294967296)%4294967296:Nat):Int),(((p/18446744073709551616+q/18446744073709551616+(p/4294967296%4294967296+q/4294967296%4294967296+(p%4294967296+q%4294967296+0)/4294967296)/4294967296)%4294967296:Nat):Int),0,0,0,0,0]:=by
  rw [Ee (by omega)]
  have b1:p/18446744073709551616<2147483648:=by omega
  have b2:q/18446744073709551616<2147483648:=by omega
  obtain⟨e1,e0⟩:=Wy p q 0 (by decide)
  rw [vg]at e1 e0
  rw [<-ds,e1,e0,<-dp,<-dq]
  rw [<-dp]at b1
  rw [<-dq]at b2
  obtain⟨e2,e3⟩:=Wy (p/4294967296) (q/4294967296) ((p%4294967296+q%4294967296+0)/4294967296) (by clear ds dp dq e1 e0;omega)
  rw [e2,e3]
  have l:=Nat.div_le_div_right (c:=4294967296) (show p/4294967296%4294967296+q/4294967296%4294967296+(p%4294967296+q%4294967296+0)/4294967296<=8589934591 by omega)
  rw [show 8589934591/4294967296=1 from rfl]at l
  have ll:=Nat.add_le_add (Nat.add_le_add (Nat.le_of_lt_succ b1) (Nat.le_of_lt_succ b2)) l
  rw [Fw (Nat.lt_of_le_of_lt ll (by decide))]
 have vi:=hd
 rw [Ee (m:=p) (by omega),Ee (m:=q) (by omega)]
 unfold je
 generalize hp0:p%4294967296=p0 at vi ⊢
 generalize hp1:p/4294967296%4294967296=p1 at vi ⊢
 generalize hp2:p/18446744073709551616=p2 at vi ⊢
 generalize hq0:q%4294967296=q0 at vi ⊢
 generalize hq1:q/4294967296%4294967296=q1 at vi ⊢
 generalize hq2:q/18446744073709551616=q2 at vi ⊢
 have c1:(p0+q0+0)/4294967296<=1:=by omega
 generalize hc:(p0+q0+0)/4294967296=c at vi c1 ⊢
 have c2:(p1+q1+c)/4294967296<=1:=by omega
 generalize hcc:(p1+q1+c)/4294967296=cc at vi c2 ⊢
 have c3:(p2+q2+cc)/4294967296=0:=by omega
 rw [show((0:Int))=((0:Nat):Int)from rfl]
 rw [jZ _ _ _ s s 7 0 (by omega) p0 q0 0 rfl rfl (by omega) (by omega) (by omega),hc]
 rw [jZ _ _ _ s s 6 1 (by omega) p1 q1 c rfl rfl (by omega) (by omega) (by omega),hcc]
 rw [jZ _ _ _ s s 5 2 (by omega) p2 q2 cc rfl rfl (by omega) (by omega) (by omega),c3]
 rw [jZ _ _ _ s s 4 3 (by omega) 0 0 0 rfl rfl (by omega) (by omega) (by omega)]
 rw [show(0+0+0)/4294967296=0 from rfl]
 rw [jZ _ _ _ s s 3 4 (by omega) 0 0 0 rfl rfl (by omega) (by omega) (by omega)]
 rw [show(0+0+0)/4294967296=0 from rfl]
 rw [jZ _ _ _ s s 2 5 (by omega) 0 0 0 rfl rfl (by omega) (by omega) (by omega)]
 rw [show(0+0+0)/4294967296=0 from rfl]
 rw [jZ _ _ _ s s 1 6 (by omega) 0 0 0 rfl rfl (by omega) (by omega) (by omega)]
 rw [show(0+0+0)/4294967296=0 from rfl]
 rw [jZ _ _ _ s s 0 7 (by omega) 0 0 0 rfl rfl (by omega) (by omega) (by omega)]
 have he:=DI ⟨[(p0:Int),(p1:Int),(p2:Int),0,0,0,0,0],s⟩ ⟨[(q0:Int),(q1:Int),(q2:Int),0,0,0,0,0],s⟩ (7+1) (((0+0+0)/4294967296:Nat):Int) (p+q) (by omega) s
 rw [vi]at he
 rw [vi]
 exact he
def U7(hp:p<39614081257132168796771975168)(hq:q<=p)(s u:Bool)(hsu:(s==u)=false):je ⟨lO p,s⟩ ⟨lO q,u⟩=some ⟨lO (p-q),s&&decide (p-q≠0)⟩:=by
 have dp:p/4294967296/4294967296=p/18446744073709551616:=by rw [FE]
 have dq:q/4294967296/4294967296=q/18446744073709551616:=by rw [FE]
 have ds:(p-q)/4294967296/4294967296=(p-q)/18446744073709551616:=by rw [FE]
 have hd:lO (p-q)=[(((p%4294967296+4294967296-q%4294967296-0)%4294967296:Nat):Int),(((p/4294967296%4294967296+4294967296-q/4294967296%4294967296-(1-(p%4294967296+4294967296-q%4294967296-0)/4294967296))%4294967296:Nat):Int),(((p/18446744073709551616+4294967296-q/18446744073709551616-(1-(p/4294967296%4294967296+4294967296-q/4294967296%4294967296-(1-(p%4294967296+4294967296-q%4294967296-0)/4294967296))/4294967296))%4294967296:Nat):Int),0,0,0,0,0]:=by
  rw [Ee (by omega)]
  have b1:p/18446744073709551616<2147483648:=by omega
  obtain⟨e1,e0,le,l1⟩:=SY p q 0 hq (by decide)
  rw [Nat.sub_zero]at e1 e0
  rw [<-ds,e1,e0,<-dp,<-dq]
  rw [<-dp]at b1
  obtain⟨e2,e3,le2,l2⟩:=SY (p/4294967296) (q/4294967296) (1-(p%4294967296+4294967296-q%4294967296-0)/4294967296) le l1
  rw [e2,e3]
  rw [afW _ _ _ le2 l2 b1]
 have vi:=hd
 rw [Ee (m:=p) (by omega),Ee (m:=q) (by omega)]
 unfold je
 have hge:(p/18446744073709551616+4294967296-q/18446744073709551616-(1-(p/4294967296%4294967296+4294967296-q/4294967296%4294967296-(1-(p%4294967296+4294967296-q%4294967296-0)/4294967296))/4294967296))/4294967296=1:=by omega
 generalize hp0:p%4294967296=p0 at vi hge ⊢
 generalize hp1:p/4294967296%4294967296=p1 at vi hge ⊢
 generalize hp2:p/18446744073709551616=p2 at vi hge ⊢
 generalize hq0:q%4294967296=q0 at vi hge ⊢
 generalize hq1:q/4294967296%4294967296=q1 at vi hge ⊢
 generalize hq2:q/18446744073709551616=q2 at vi hge ⊢
 have c1:1-(p0+4294967296-q0-0)/4294967296<=1:=by omega
 generalize hc:1-(p0+4294967296-q0-0)/4294967296=c at vi hge c1 ⊢
 have c2:1-(p1+4294967296-q1-c)/4294967296<=1:=by omega
 generalize hcc:1-(p1+4294967296-q1-c)/4294967296=cc at vi hge c2 ⊢
 rw [show((0:Int))=((0:Nat):Int)from rfl]
 rw [j3 _ _ _ s u s hsu 7 0 (by omega) p0 q0 0 rfl rfl (by omega) (by omega) (by omega),hc]
 rw [j3 _ _ _ s u s hsu 6 1 (by omega) p1 q1 c rfl rfl (by omega) (by omega) (by omega),hcc]
 rw [j3 _ _ _ s u s hsu 5 2 (by omega) p2 q2 cc rfl rfl (by omega) (by omega) (by omega),hge]
 rw [show 1-1=0 from rfl]
 rw [j3 _ _ _ s u s hsu 4 3 (by omega) 0 0 0 rfl rfl (by omega) (by omega) (by omega)]
 rw [show 1-(0+4294967296-0-0)/4294967296=0 from rfl]
 rw [j3 _ _ _ s u s hsu 3 4 (by omega) 0 0 0 rfl rfl (by omega) (by omega) (by omega)]
 rw [show 1-(0+4294967296-0-0)/4294967296=0 from rfl]
 rw [j3 _ _ _ s u s hsu 2 5 (by omega) 0 0 0 rfl rfl (by omega) (by omega) (by omega)]
 rw [show 1-(0+4294967296-0-0)/4294967296=0 from rfl]
 rw [j3 _ _ _ s u s hsu 1 6 (by omega) 0 0 0 rfl rfl (by omega) (by omega) (by omega)]
 rw [show 1-(0+4294967296-0-0)/4294967296=0 from rfl]
 rw [j3 _ _ _ s u s hsu 0 7 (by omega) 0 0 0 rfl rfl (by omega) (by omega) (by omega)]
 have he:=DI ⟨[(p0:Int),(p1:Int),(p2:Int),0,0,0,0,0],s⟩ ⟨[(q0:Int),(q1:Int),(q2:Int),0,0,0,0,0],u⟩ (7+1) ((1-(0+4294967296-0-0)/4294967296:Nat):Int) (p-q) (by omega) s
 rw [vi]at he
 rw [vi]
 exact he
def adu(hp:p<39614081257132168796771975168)(hq:q<39614081257132168796771975168)(s t:Bool):tM ⟨lO p,s⟩ ⟨lO q,t⟩=some (decide (p<q)):=by
 rw [Ee (m:=p) (by omega),Ee (m:=q) (by omega)]
 unfold tM
 obtain⟨f,hf⟩: ∃f,fm=f+9:=⟨fm-9,by have:=ku (n:=9) (by omega);omega⟩
 rw [hf]
 rw [show(7:Int)=((7:Nat):Int)from rfl,j4 _ _ s t (f+8) 7 (by omega) 0 0 rfl rfl,br rfl]
 rw [show((7:Nat):Int)-1=((6:Nat):Int)from rfl,j4 _ _ s t (f+7) 6 (by omega) 0 0 rfl rfl,br rfl]
 rw [show((6:Nat):Int)-1=((5:Nat):Int)from rfl,j4 _ _ s t (f+6) 5 (by omega) 0 0 rfl rfl,br rfl]
 rw [show((5:Nat):Int)-1=((4:Nat):Int)from rfl,j4 _ _ s t (f+5) 4 (by omega) 0 0 rfl rfl,br rfl]
 rw [show((4:Nat):Int)-1=((3:Nat):Int)from rfl,j4 _ _ s t (f+4) 3 (by omega) 0 0 rfl rfl,br rfl]
 rw [show((3:Nat):Int)-1=((2:Nat):Int)from rfl,j4 _ _ s t (f+3) 2 (by omega) _ _ rfl rfl]
 by_cases K:((p/18446744073709551616:Nat):Int)=((q/18446744073709551616:Nat):Int)
 ·rw [br K,show((2:Nat):Int)-1=((1:Nat):Int)from rfl,j4 _ _ s t (f+2) 1 (by omega) _ _ rfl rfl]
  by_cases I:((p/4294967296%4294967296:Nat):Int)=((q/4294967296%4294967296:Nat):Int)
  ·rw [br I,show((1:Nat):Int)-1=((0:Nat):Int)from rfl,j4 _ _ s t (f+1) 0 (by omega) _ _ rfl rfl]
   by_cases h0:((p%4294967296:Nat):Int)=((q%4294967296:Nat):Int)
   ·rw [br h0]
    unfold mh
    rw [aS (by decide)]
    congr 1
    symm
    rw [Jd];omega
   ·rw [aS h0]
    congr 1
    apply lP
    simp only [j9];omega
  ·rw [aS I]
   congr 1
   apply lP
   simp only [j9];omega
 ·rw [aS K]
  congr 1
  apply lP
  simp only [j9];omega
def WK(V:x.natAbs<39614081257132168796771975168)(hy:y.natAbs<39614081257132168796771975168):nm (nv x) (nv y)=some (nv (x+y)):=by
 unfold nm nv
 rw [adu V hy]
 simp only [bt]
 by_cases h:(decide (x<0)==decide (y<0))=true
 ·have hs:decide (y<0)=decide (x<0):=(eq_of_beq h).symm
  have hne:(decide (x<0) !=decide (y<0))=false:=by rw [hs];simp
  rw [hne]
  simp only [iq,fU,bt]
  rw [hs,abs V hy]
  congr 2
  ·congr 1
   have:(decide (x<0)=true↔decide (y<0)=true):=by rw [hs]
   simp only [j9]at this
   omega
  ·apply lP
   have:(decide (x<0)=true↔decide (y<0)=true):=by rw [hs]
   simp only [j9]at this
   simp only [gN,j9]
   omega
 ·have M:(decide (x<0)==decide (y<0))=false:=by simpa using h
  have hne:(decide (x<0) !=decide (y<0))=true:=by simp only [bne,M];rfl
  rw [hne]
  simp only [gx,bt]
  have hxy: ¬(x<0↔y<0):=by
   intro hi
   have:decide (x<0)=decide (y<0):=by simp only [Fv];exact hi
   rw [this]at M;simp at M
  by_cases hlt:x.natAbs<y.natAbs
  ·rw [br (by simpa using hlt)]
   have hb' :(decide (y<0)==decide (x<0))=false:=by
    cases q1:decide (x<0)<;>cases q2:decide (y<0)<;>simp_all
   rw [U7 hy (by omega) _ _ hb']
   congr 2
   ·congr 1;omega
   ·apply lP
    simp only [gN,j9]
    omega
  ·rw [aS (by simpa using hlt)]
   rw [U7 V (by omega) _ _ M]
   congr 2
   ·congr 1;omega
   ·apply lP
    simp only [gN,j9]
    omega
def rR(z:Int):ac:=⟨4,z/18446744073709551616,z%18446744073709551616,[]⟩
def DN(z:Int):Prop:=z.natAbs<1208925819614629174706176
def KS(m:Nat)(h:m<79228162514264337593543950336)(b:Bool):ow ((m/18446744073709551616:Nat):Int) ((m%18446744073709551616:Nat):Int) ⟨List.replicate 8 0,b⟩=some ⟨lO m,b⟩:=by
 rw [Ee h]
 unfold ow
 rw [Ha,zG,Ha,zG]
 have e1:m%18446744073709551616%4294967296=m%4294967296:=by omega
 have e2:m%18446744073709551616/4294967296=m/4294967296%4294967296:=by omega
 have e3:m/18446744073709551616%4294967296=m/18446744073709551616:=by omega
 have e4:m/18446744073709551616/4294967296=0:=by omega
 rw [e1,e2,e3,e4]
 rfl
def WL(h:DN z):sY (rR z).N (rR z).U=some (nv z):=by
 unfold DN at h
 unfold sY rR nv
 simp only []
 by_cases hz:z<0
 ·rw [br (by rw [j9];omega),zQ hz]
  obtain⟨u,hu⟩:=GX (show 0<=z%18446744073709551616 by omega)
  have hul:u<18446744073709551616:=by omega
  have hn:IntKind.u64.wrap (z/18446744073709551616)=((18446744073709551616-(-(z/18446744073709551616)).toNat:Nat):Int):=by rw [wP];omega
  rw [hu,A1 hul,hn,A1 (by omega)]
  have elow:IntKind.u64.wrap (((18446744073709551615-u:Nat):Int)+1)=((z.natAbs%18446744073709551616:Nat):Int):=by rw [wP];omega
  rw [elow]
  have:=KS z.natAbs (by omega) true
  by_cases hl:z.natAbs%18446744073709551616=0
  ·rw [br (by rw [hl];rfl)]
   have ehigh:IntKind.u64.wrap (((18446744073709551615-(18446744073709551616-(-(z/18446744073709551616)).toNat):Nat):Int)+1)=((z.natAbs/18446744073709551616:Nat):Int):=by rw [wP];omega
   rw [ehigh]
   exact this
  ·rw [aS (by rw [uZ];omega)]
   have ehigh:((18446744073709551615-(18446744073709551616-(-(z/18446744073709551616)).toNat):Nat):Int)=((z.natAbs/18446744073709551616:Nat):Int):=by omega
   rw [ehigh]
   exact this
 ·rw [aS (by rw [j9];omega),yI hz]
  have e1:z%18446744073709551616=((z.natAbs%18446744073709551616:Nat):Int):=by omega
  have e2:IntKind.u64.wrap (z/18446744073709551616)=((z.natAbs/18446744073709551616:Nat):Int):=by rw [wP];omega
  rw [e1,e2]
  exact KS z.natAbs (by omega) false
def Rs(h:DN z):yd (nv z)=some (rR z,0):=by
 unfold DN at h
 unfold yd wo nv rR
 generalize hm:z.natAbs=m at h ⊢
 have i3:di (lO m) 3=some ((m/79228162514264337593543950336%4294967296:Nat):Int):=rfl
 have i2:di (lO m) 2=some ((m/18446744073709551616%4294967296:Nat):Int):=rfl
 have i1:di (lO m) 1=some ((m/4294967296%4294967296:Nat):Int):=rfl
 have i0:di (lO m) 0=some ((m%4294967296:Nat):Int):=rfl
 simp only [i3,i2,i1,i0,bt]
 rw [I3]
 unfold gu
 rw [Bc _ _ (xS _ (by decide)) (xS _ (by decide)),Bc _ _ (xS _ (by decide)) (xS _ (by decide))]
 have hhi:m/79228162514264337593543950336%4294967296*4294967296+m/18446744073709551616%4294967296=m/18446744073709551616:=by omega
 have hlo:m/4294967296%4294967296*4294967296+m%4294967296=m%18446744073709551616:=by
  have:=Nat.mod_mul (x:=m) (a:=4294967296) (b:=4294967296)
  rw [show 4294967296*4294967296=18446744073709551616 from rfl]at this
  rw [this,Nat.mul_comm,Nat.add_comm]
 rw [hhi,hlo]
 have bhi:m/18446744073709551616<18446744073709551616:=by omega
 have blo:m%18446744073709551616<18446744073709551616:=xS _ (by decide)
 by_cases hz:z<0
 ·rw [br (by simpa using hz),A1 blo,A1 bhi]
  have ew:IntKind.u64.wrap (((18446744073709551615-m%18446744073709551616:Nat):Int)+1)=z%18446744073709551616:=by rw [wP];omega
  rw [ew]
  unfold mi
  simp only [hz,Dh]
  by_cases hl0:z%18446744073709551616=0
  ·rw [br (by rw [hl0];rfl)]
   have eh:IntKind.i64.wrap (IntKind.u64.wrap (((18446744073709551615-m/18446744073709551616:Nat):Int)+1))=z/18446744073709551616:=by rw [xN,wP];omega
   rw [eh,zQ (show z/18446744073709551616<0 by omega)]
   rfl
  ·rw [aS (by simpa using hl0)]
   have eh:IntKind.i64.wrap ((18446744073709551615-m/18446744073709551616:Nat):Int)=z/18446744073709551616:=by rw [xN];omega
   rw [eh,zQ (show z/18446744073709551616<0 by omega)]
   rfl
 ·rw [aS (by simpa using hz)]
  unfold mi
  simp only [hz,decide_false]
  have eh:IntKind.i64.wrap ((m/18446744073709551616:Nat):Int)=z/18446744073709551616:=by rw [xN];omega
  have el:((m%18446744073709551616:Nat):Int)=z%18446744073709551616:=by omega
  rw [eh,el,yI (show¬z/18446744073709551616<0 by omega)]
  rfl
def Bh(z:Int):gF (rR z)=true:=by unfold gF d5 rR;rfl
def Jo(h:gF v=true)(hk:v.Kind=2)(hr:r64 v.N):tN zV v=some (rR v.N,0):=by
 unfold tN sr qp
 have hz:gF zV=true:=rfl
 simp only [gg,h,hz,bt,p6,Dd,gx,iq,fU,xr]
 have e1:(zV.Kind==0)=true:=rfl
 have e2:(v.Kind==0)=false:=by rw [hk];rfl
 have e3:(v.Kind==2)=true:=by rw [hk];rfl
 simp only [e1,e2,e3,Bool.true_or,Bool.or_true,p6,iq,fU,gx]
 have hs:DN v.N:=by unfold r64 at hr;unfold DN;omega
 rw [kT hr,bt,Rs hs]
 rfl
def LA(h:gF v=true)(hk:v.Kind=2)(hr:r64 v.N)(hz:DN z)(hz2:DN (z+v.N)):tN (rR z) v=some (rR (z+v.N),0):=by
 unfold tN sr qp
 simp only [gg,h,Bh,bt,p6,Dd,gx,iq,fU,xr]
 have e1:((rR z).Kind==0)=false:=rfl
 have e4:((rR z).Kind==4)=true:=rfl
 have e2:(v.Kind==0)=false:=by rw [hk];rfl
 have e3:(v.Kind==2)=true:=by rw [hk];rfl
 simp only [e1,e2,e3,e4,Bool.or_true,p6,iq,fU,gx]
 have V:z.natAbs<39614081257132168796771975168:=by unfold DN at hz;omega
 have hy:v.N.natAbs<39614081257132168796771975168:=by unfold r64 at hr;omega
 rw [kT hr,WL hz,bt,bt,WK V hy,bt,Rs hz2]
 rfl
def NW(h:DN z):vQ (rR z)=some (if r64 z then(iV z,0)else(zV,140)):=by
 unfold vQ sr
 simp only [gg,Bh,bt,p6,iq,fU,xr]
 have e1:((rR z).Kind==0)=false:=rfl
 have e4:((rR z).Kind==4)=true:=rfl
 simp only [e1,e4,Bool.or_true,p6,iq,fU]
 obtain⟨n,I,K⟩:=Pi (z:=z) (by unfold DN at h;omega)
 rw [WL h,bt,I,bt]
 by_cases hr:r64 z
 ·rw [br hr,zQ hr,aS (by simp),K hr]
  rfl
 ·rw [aS hr,yI hr]
  rfl
def LB:vQ zV=some (zV,0):=rfl
def IN{kind:Int}(h:gF v=true)(hk:v.Kind=0\/v.Kind=kind):sy kind [v]=some 0:=by
 unfold sy lY lY
 rw [qh,h]
 simp only [gx,bt]
 rw [aS (by decide),aS]
 simp
 omega
def Lh(hr:r64 v.N):ug v=some (rR v.N):=by
 unfold r64 at hr
 unfold ug rR
 have e:(2:Int)^(min (Int.toNat (63:Int)) IntKind.i64.bits)=9223372036854775808:=by decide
 rw [e,wP]
 congr 2
 rw [Int.fdiv_eq_ediv_of_nonneg _ (by decide)]
 omega
def U6(V:DN x)(hy:DN y)(hs:DN (x+y)):zy (rR x) (rR y)=some (rR (x+y),0):=by
 unfold DN at V hy hs
 unfold zy rR Pg
 simp only []
 rw [br (by omega),bt]
 simp only []
 rw [br (by rw [wP,wP];omega),bt]
 simp only []
 have eh:IntKind.i64.wrap ((IntKind.u64.wrap (x/18446744073709551616)+IntKind.u64.wrap (y/18446744073709551616)+(x%18446744073709551616+y%18446744073709551616+0)/18446744073709551616)%18446744073709551616)=(x+y)/18446744073709551616:=by
  rw [xN,wP,wP]
  omega
 rw [eh]
 have rx:r64 (x/18446744073709551616):=by unfold r64;omega
 have ry:r64 (y/18446744073709551616):=by unfold r64;omega
 have rs:r64 ((x+y)/18446744073709551616):=by unfold r64;omega
 obtain⟨a1,a2⟩:=A8 rx rs
 obtain⟨b1,b2⟩:=A8 ry rs
 rw [MQ a2 b2,a1,b1]
 have hno:((decide (x/18446744073709551616<0) !=decide ((x+y)/18446744073709551616<0))&&(decide (y/18446744073709551616<0) !=decide ((x+y)/18446744073709551616<0)))=false:=by
  rw [p8]
  intro h
  simp only [gN,ux,sJ,Fv]at h
  omega
 have el:(x%18446744073709551616+y%18446744073709551616+0)%18446744073709551616=(x+y)%18446744073709551616:=by omega
 rw [hno,aS (by simp),el]
def Uf(h:gF v=true)(hk:v.Kind=2)(hr:r64 v.N):vX zV v=some (rR v.N,0):=by
 unfold vX
 rw [IN (v:=zV) rfl (.inl rfl),IN h (.inr hk),bt,bt,aS (by decide),aS (by decide),aS (by rw [hk];decide),br (by rfl),Lh hr]
 rfl
def WH(h:gF v=true)(hk:v.Kind=2)(hr:r64 v.N)(hz:DN z)(hz2:DN (z+v.N)):vX (rR z) v=some (rR (z+v.N),0):=by
 unfold vX
 have hs:DN v.N:=by unfold r64 at hr;unfold DN;omega
 rw [IN (kind:=4) (Bh z) (.inr rfl),IN h (.inr hk),bt,bt,aS (by decide),aS (by decide),aS (by rw [hk];decide),aS (by show¬((4:Int)==0)=true;decide),Lh hr,bt,U6 hz hs hz2]
 rfl
def ZZ(h:DN z):Bx (rR z)=some (if r64 z then(iV z,0)else(zV,140)):=by
 unfold DN at h
 unfold Bx
 rw [IN (kind:=4) (Bh z) (.inr rfl),bt,aS (by decide),aS (by show¬((4:Int)==0)=true;decide)]
 have e:qE (IntKind.i64.wrap (rR z).U)=some (iV (IntKind.i64.wrap (z%18446744073709551616))):=rfl
 have hw:r64 (IntKind.i64.wrap (z%18446744073709551616)):=rk _
 rw [e,bt,Lh (v:=iV (IntKind.i64.wrap (z%18446744073709551616))) hw,bt]
 by_cases hr:r64 z
 ·have:IntKind.i64.wrap (z%18446744073709551616)=z:=by unfold r64 at hr;rw [xN];omega
  rw [br hr,this,br (by simp [iV])]
 ·rw [aS hr,aS]
  ·rfl
  ·intro hh
   have hh:=Ng hh
   unfold rR iV at hh
   simp only [ac.mk.injEq,true_and,and_true]at hh
   refine hr ?_
   have I:=hh.1
   unfold r64 at hw ⊢
   generalize IntKind.i64.wrap (z%18446744073709551616)=w at hh hw I
   omega

def Ct{a b:cS}(ha:kW a=true)(M:kW b=true):sl a b=some (fe a b):=by rw [HA,ha,M];rfl

def Bu{r:List ac}{ns:List bZ}(he:NT ns)(hr:Xv r):((qY r ns).2=0/\Pl (qY r ns).1)\/((qY r ns).2≠0/\(qY r ns).2≠140/\(qY r ns).1=zV)\/qY r ns=(zV,140):=by
 unfold qY
 cases Y:oB ns with
 |none=>right;left;exact⟨show(200:Int)≠0 by decide,show(200:Int)≠140 by decide,rfl⟩
 |some t=>
  obtain⟨hw,hN,hs⟩:=ma Y
  simp only []
  by_cases hc:wF r ns=true
  ·rw [br hc]
   have hrt:WX t:=DD t 0 (by rw [<-hN];exact he)
   have hcv:A2 r t:=zw hr t hw 0 (by rw [<-hN];exact hc)
   rcases pn r t hw hrt hcv with h|h|h
   ·exact .inl h
   ·rw [h];right;left;decide
   ·exact .inr (.inr h)
  ·rw [aS hc];right;left;decide
def D7(ns:List bZ)(rows:List cS):List ac:=rows.filterMap fun r=>if(qY r ns).2=0/\(qY r ns).1.Kind≠0 then some (qY r ns).1 else none
def Gn(ns:List bZ)(rows:List cS):Bool:=rows.any fun r=>(qY r ns).2 !=0&&(qY r ns).2 !=140
def Gi(ns:List bZ)(rows:List cS):Bool:=rows.any fun r=>(qY r ns).2==140
def vd(tag:Int)(vs:List ac):Bool:=tag==3&&vs.any fun v=>v.Kind !=2
def HB(rows:List cS):Prop:= ∀r∈rows,Xv r
def Iv(ns:List bZ)(r:cS)(t:List cS):D7 ns (r::t)=if(qY r ns).2=0/\(qY r ns).1.Kind≠0 then(qY r ns).1::D7 ns t else D7 ns t:=by
 unfold D7
 rw [List.filterMap_cons]
 split
 ·split
  ·rename_i h;rw [br (by simpa using h)]at*;simp_all
  ·rfl
 ·rename_i h;split
  ·rename_i K;rw [br K]at h;simp at h;rw [h]
  ·rename_i K;rw [aS K]at h;simp at h
def MH{ns:List bZ}(he:NT ns): ∀{rows:List cS},HB rows-> ∀v∈D7 ns rows,Pl v
 |[],_,v,hv=>by simp [D7]at hv
 |r::t,hr,v,hv=>by
  rw [Iv]at hv
  have Y:HB t:=fun x V=>hr x (lT _ V)
  split at hv
  ·rename_i h
   rcases gW.1 hv with hv|hv
   ·subst hv
    rcases Bu he (hr r (mp ..))with q|q|q
    ·exact q.2
    ·exact absurd h.1 q.1
    ·rw [q]at h;exact absurd h.1 (by decide)
   ·exact MH he Y v hv
  ·exact MH he Y v hv
def SF(ns:List bZ)(rows:List cS):(D7 ns rows).length<=rows.length:=List.length_filterMap_le ..
def GM(a:jt)(hl:a.Arg.Nodes.length<=50000)(he:NT a.Arg.Nodes): ∀(rows:List cS) (out:List ac) (fault:Int),HB rows->out.length+rows.length<=1000000->ld a rows out fault=some (if Gn a.Arg.Nodes rows then([],2)else(out++D7 a.Arg.Nodes rows,if Gi a.Arg.Nodes rows then 140 else fault))
 |[],out,fault,_,_=>by
  unfold ld Gn Gi D7
  simp
 |r::t,out,fault,hr,hk=>by
  have Y:HB t:=fun x V=>hr x (lT _ V)
  rw [io]at hk
  unfold ld
  rw [zr a.Arg r hl he (hr r (mp ..)),bt,Iv]
  have eb:Gn a.Arg.Nodes (r::t)=(((qY r a.Arg.Nodes).2 !=0&&(qY r a.Arg.Nodes).2 !=140)||Gn a.Arg.Nodes t):=rfl
  have ef:Gi a.Arg.Nodes (r::t)=(((qY r a.Arg.Nodes).2==140)||Gi a.Arg.Nodes t):=rfl
  rw [eb,ef]
  rcases Bu he (hr r (mp ..))with q|q|q
  ·rw [q.1]
   simp only [Int.reduceBEq,iq,fU,Int.reduceBNe,GQ,xL,true_and]
   by_cases hk0:(qY r a.Arg.Nodes).1.Kind=0
   ·rw [aS (by simp [hk0]),GM a hl he t out fault Y (by omega)]
    simp only [hk0,sJ,Nc,fU]
   ·rw [br (by simpa using hk0),br hk0,cA (by simp only [vl];omega),bt,GM a hl he t _ fault Y (by simp only [ju,vl];omega)]
    simp only [ji,Cv]
  ·rw [aS (by simpa using q.2.1),br (by simpa using q.1)]
   have:((qY r a.Arg.Nodes).2 !=0&&(qY r a.Arg.Nodes).2 !=140)=true:=by simp [q.1,q.2.1]
   rw [this];simp
  ·rw [q]
   simp only [Fx,gx,GM a hl he t out 140 Y (by omega),Int.reduceBNe,Bool.and_false,xL,Bool.true_or]
   rw [aS (by decide: ¬((140:Int)=0/\_))]
   simp
def tH:List ac->Int
 |[]=>0
 |v::t=>v.N+tH t
def pick(tag:Int)(b v:ac):ac:=if tag=4/\val v b<0\/tag=5/\0<val v b then v else b
def yz(tag:Int):List ac->ac
 |[]=>zV
 |v::t=>t.foldl (pick tag) v
def US(vs:List ac):ac×Int:=if vs=[]then(zV,0)else if r64 (tH vs)then(iV (tH vs),0)else(zV,140)
def VG(tag:Int)(vs:List ac)(fault:Int):ac×Int:=
 if fault≠0 then(zV,fault)else if tag=2 then(iV (vs.length:Int),0)else if tag=3 then US vs else(yz tag vs,0)
def wH(a:jt)(rows:List cS):ac×Int:=
 if a.Tag=1 then(iV (rows.length:Int),0)else if Gn a.Arg.Nodes rows||vd a.Tag (D7 a.Arg.Nodes rows)then(zV,2)else VG a.Tag (D7 a.Arg.Nodes rows) (if Gi a.Arg.Nodes rows then 140 else 0)
def Nx(p q:List ac):tH (p++q)=tH p+tH q:=by
 induction p with
 |nil=>simp [tH]
 |cons v t ih=>simp only [Ac,tH,ih];omega
def Rt: ∀(p:List ac),(∀v∈p,r64 v.N)->(tH p).natAbs<=p.length*9223372036854775808
 |[],_=>by simp [tH]
 |v::t,h=>by
  have I:=Rt t fun x V=>h x (lT _ V)
  have K:=h v (mp ..)
  unfold r64 at K
  simp only [tH,io]
  omega
def Lo{p:List ac}(h: ∀v∈p,r64 v.N)(hl:p.length<=100000):DN (tH p):=by
 have:=Rt p h
 unfold DN
 omega
def WA(tag:Int)(p:List ac)(v:ac):yz tag (p++[v])=if p=[]then v else pick tag (yz tag p) v:=by
 cases p with
 |nil=>rfl
 |cons x t=>simp [yz]
def Wz(tag:Int): ∀(p:List ac),p≠[]->yz tag p∈p
 |[],h=>absurd rfl h
 |v::t,_=>by
  unfold yz
  have: ∀(t:List ac) (b:ac),t.foldl (pick tag) b∈b::t:=by
   intro t
   induction t with
   |nil=>intro b;simp
   |cons x t ih=>
    intro b
    simp only [List.foldl_cons]
    have:=ih (pick tag b x)
    have hp:pick tag b x=b\/pick tag b x=x:=by unfold pick;split<;>simp
    rcases hp with hp|hp<;>rw [hp]at this ⊢
    ·rcases gW.1 this with h|h
     ·rw [h];simp
     ·exact lT _ (lT _ h)
    ·exact lT _ this
  exact this t v
def Ic(l:List ac)(h: ¬vd 3 l=true): ∀v∈l,v.Kind=2:=by
 intro v hv
 unfold vd at h
 simp only [Fx,xr,Gb,List.any_eq_false]at h
 simpa using h v hv
def Fo{f:ac->Option Bool}{g:ac->Bool}(hf: ∀v,f v=some (g v))(l:List ac):fG l f=some (l.any g):=by
 have key: ∀(l:List ac) (i:Nat),∃j:Int,d9 f l i=some j/\decide (0<=j)=l.any g:=by
  intro l
  induction l with
  |nil=>intro i;exact⟨-1,rfl,rfl⟩
  |cons v t ih=>
   intro i
   unfold d9
   rw [hf,bt,wU]
   by_cases H:g v=true
   ·rw [br H,H]
    exact⟨(i:Int),rfl,by simp⟩
   ·rw [aS H,p8.2 H,xL]
    exact ih (i+1)
 obtain⟨j,I,K⟩:=key l 0
 unfold fG iS
 rw [I]
 simp only [bt]
 rw [<-K]
def ud{x y:ac}(V:gF x=true)(hy:gF y=true):jI x y=some (val x y):=by
 unfold jI
 have I:kW [x]=true:=by unfold kW;simp [V]
 have K:kW [y]=true:=by unfold kW;simp [hy]
 rw [Ct I K,bt]
 have:=adq 0 0 0 0
 unfold fe
 simp only [fe]
 split<;>simp_all
def QA: ∀(l:List ac) (m:ac),(∀v∈l,gF v=true)->gF m=true->dH jI l m=some (l.foldl (pick 4) m)
 |[],m,_,_=>rfl
 |v::t,m,h,hm=>by
  have hv:=h v (mp ..)
  have Y:=fun x V=>h x (lT v V)
  unfold dH
  rw [ud hv hm,bt,List.foldl_cons]
  by_cases hc:val v m<0
  ·rw [br (by simpa using hc),QA t v Y hv]
   simp [pick,hc]
  ·rw [aS (by simpa using hc),QA t m Y hm]
   simp [pick,hc]
def QB: ∀(l:List ac) (m:ac),(∀v∈l,gF v=true)->gF m=true->dI jI l m=some (l.foldl (pick 5) m)
 |[],m,_,_=>rfl
 |v::t,m,h,hm=>by
  have hv:=h v (mp ..)
  have Y:=fun x V=>h x (lT v V)
  unfold dI
  rw [ud hv hm,bt,List.foldl_cons]
  by_cases hc:0<val v m
  ·rw [br (by simpa using hc),QB t v Y hv]
   simp [pick,hc]
  ·rw [aS (by simpa using hc),QB t m Y hm]
   simp [pick,hc]
def adC(v:α)(t:List α):di (v::t) (0:Int)=some v:=rfl
def aby{l:List ac}(h: ∀v∈l,gF v=true)(hne:l≠[]):gA l jI=some (yz 4 l):=by
 cases l with
 |nil=>exact absurd rfl hne
 |cons v t=>
  unfold gA iF
  rw [aS (by rw [io,j9];omega),adC,bt]
  exact QA t v (fun x V=>h x (lT v V)) (h v (mp ..))
def abz{l:List ac}(h: ∀v∈l,gF v=true)(hne:l≠[]):gB l jI=some (yz 5 l):=by
 cases l with
 |nil=>exact absurd rfl hne
 |cons v t=>
  unfold gB iG
  rw [aS (by rw [io,j9];omega),adC,bt]
  exact QB t v (fun x V=>h x (lT v V)) (h v (mp ..))
def WD(x:ac): ∀(l:List ac) (z:Int) (n:Nat),(∀v∈l,Pl v/\v.Kind=2)->z.natAbs<=n*9223372036854775808->n+l.length<=100000->o3 l x (rR z)=some (if r64 (z+tH l)then(iV (z+tH l),0)else(zV,140))
 |[],z,n,_,hz,hn=>by
  have hz2:DN z:=by unfold DN;omega
  unfold o3
  rw [ZZ hz2,bt]
  simp only [tH,Int.add_zero]
 |v::t,z,n,h,hz,hn=>by
  rw [io]at hn
  obtain⟨hv,hk⟩:=h v (mp ..)
  have hr:=hv.r64
  have M:(z+v.N).natAbs<=(n+1)*9223372036854775808:=by unfold r64 at hr;omega
  unfold o3
  rw [WH hv.right hk hr (z:=z) (by unfold DN;omega) (by unfold DN;omega),bt,aS (by show¬((0:Int) !=0)=true;decide)]
  have e:z+tH (v::t)=z+v.N+tH t:=by simp only [tH];omega
  rw [WD x t (z+v.N) (n+1) (fun y hy=>h y (lT _ hy)) M (by omega),e]
def MP{l:List ac}(h: ∀v∈l,Pl v/\v.Kind=2)(hl:l.length<=90000):By l=some (US l):=by
 unfold By
 rw [aS (by simp;omega)]
 have:rM=some zV:=rfl
 rw [this,bt]
 cases l with
 |nil=>rfl
 |cons v t=>
  obtain⟨hv,hk⟩:=h v (mp ..)
  have hr:=hv.r64
  rw [io]at hl
  unfold o3
  rw [Uf hv.right hk hr,bt,aS (by show¬((0:Int) !=0)=true;decide)]
  rw [WD _ t v.N 1 (fun y hy=>h y (lT _ hy)) (by unfold r64 at hr;omega) (by omega)]
  rfl
def BU(a:jt)(hl:a.Arg.Nodes.length<=50000)(he:NT a.Arg.Nodes)(Y:a.Tag=1\/a.Tag=2\/a.Tag=3\/a.Tag=4\/a.Tag=5){rows:List cS}(hr:HB rows)(hn:rows.length<=90000):oh a rows=some (wH a rows):=by
 unfold oh wH
 by_cases I:a.Tag=1
 ·rw [br (by simpa using I),br I];rfl
 ·rw [aS (by simpa using I),aS I]
  have e:AY a rows=_:=GM a hl he rows [] 0 hr (by simp only [oo];omega)
  rw [e,bt]
  by_cases M:Gn a.Arg.Nodes rows=true
  ·rw [M];rfl
  ·rw [p8.2 M]
   simp only [iq,fU,xL,lU]
   rw [aS (by split<;>decide),Fo (f:=oV) (g:=fun v=>v.Kind !=2) (fun v=>rfl)]
   have eo:(if(a.Tag==(3:Int))then((some ((D7 a.Arg.Nodes rows).any fun v=>v.Kind !=2)).bind fun r2=>some r2)else some false)=some (vd a.Tag (D7 a.Arg.Nodes rows)):=by
    unfold vd
    cases (a.Tag==(3:Int))<;>rfl
   rw [eo,bt]
   by_cases ho:vd a.Tag (D7 a.Arg.Nodes rows)=true
   ·rw [ho];rfl
   ·rw [p8.2 ho]
    simp only [iq,fU]
    unfold VG
    have hpl:=MH he hr
    have hlen:=SF a.Arg.Nodes rows
    by_cases hf:Gi a.Arg.Nodes rows=true
    ·rw [hf];rfl
    ·rw [p8.2 hf]
     simp only [iq,fU,sJ,Nc,B5]
     by_cases K:a.Tag=2
     ·rw [br (by simpa using K),br K];rfl
     ·rw [aS (by simpa using K),aS K]
      by_cases h3:a.Tag=3
      ·rw [br (by simpa using h3),br h3]
       rw [h3]at ho
       rw [MP (fun v hv=>⟨hpl v hv,Ic _ ho v hv⟩) (by omega)]
       rfl
      ·rw [aS (by simpa using h3),aS h3]
       by_cases hz:D7 a.Arg.Nodes rows=[]
       ·rw [hz,br (by rfl)];rfl
       ·rw [aS (by
         intro hh;apply hz
         have:=eq_of_beq hh
         exact vZ (by omega))]
        have hrt: ∀v∈D7 a.Arg.Nodes rows,gF v=true:=fun v hv=>(hpl v hv).right
        by_cases h4:a.Tag=4
        ·rw [br (by simpa using h4),h4,aby hrt hz];rfl
        ·have h5:a.Tag=5:=by omega
         rw [aS (by simpa using h4),h5,abz hrt hz];rfl

def BR(tag:Int)(vs:List ac):ac:=if tag=3/\vs≠[]then rR (tH vs)else zV
def Ok(tag:Int)(p q:List ac):vd tag (p++q)=(vd tag p||vd tag q):=by
 unfold vd
 rw [JF]
 cases (tag==3)<;>rfl
def Xw{vs:List ac}(h: ∀v∈vs,Pl v/\v.Kind=2)(hl:vs.length<=90000):vQ (BR 3 vs)=some (US vs):=by
 unfold BR US
 by_cases hv:vs=[]
 ·rw [aS (by simp [hv]),br hv,LB]
 ·rw [br ⟨rfl,hv⟩,aS hv,NW (Lo (fun v hm=>(h v hm).1.r64) (by omega))]
def UR{vs:List ac}(h: ∀v∈vs,Pl v/\v.Kind=2)(hl:vs.length<=90000)(hv:Pl v)(hk:v.Kind=2):tN (BR 3 vs) v=some (BR 3 (vs++[v]),0):=by
  have e:BR 3 (vs++[v])=rR (tH vs+v.N):=by
    unfold BR
    rw [br ⟨rfl,by simp⟩,Nx]
    simp [tH]
  rw [e]
  by_cases hn:vs=[]
  · subst hn
    have:BR 3 []=zV:=by unfold BR;simp
    rw [this,Jo hv.right hk hv.r64]
    simp [tH]
  · have:BR 3 vs=rR (tH vs):=by unfold BR;rw [br ⟨rfl,hn⟩]
    have I:DN (tH vs):=Lo (fun v hm=>(h v hm).1.r64) (by omega)
    have K:DN (tH vs+v.N):=by
      have:=Lo (p:=vs++[v])
        (by
          intro w hw
          rcases BG.1 hw with q|q
          · exact(h w q).1.r64
          · simp at q;rw [q];exact hv.r64) (by simp;omega)
      rw [Nx]at this
      simpa [tH] using this
    rw [this,LA hv.right hk hv.r64 I K]
def WE(a:jt)(nx:Int->Int->ac->ac->ac->Option (ac×Int))(vs:List ac)(hl:vs.length<=90000)(fault:Int)(x:ac)(v:ac)(c:Int)(sm:ac):mC a nx (vs.length:Int) fault x (yz a.Tag vs) (v,c) sm=nx ((vs++[v]).length:Int) fault x sm (yz a.Tag (vs++[v])):=by
 unfold mC ir
 have hw:IntKind.i64.wrap ((vs.length:Int)+1)=((vs++[v]).length:Int):=by rw [ot (by omega) (by omega)];simp
 simp only [hw,wm,bt]
 rw [WA]
 by_cases hv:vs=[]
 ·subst hv
  simp
 ·rw [aS hv]
  have:(((vs++[v]).length:Int)==1)=false:=by
   rw [beq_eq_false_iff_ne]
   intro h
   apply hv
   simp only [ju,vl]at h
   exact vZ (by omega)
  simp only [this,Dd,gx]
  unfold pick
  by_cases h4:a.Tag=4
  ·rw [h4]
   by_cases hc:val v (yz 4 vs)<0
   ·simp [hc]
   ·simp [hc]
  ·by_cases h5:a.Tag=5
   ·rw [h5]
    by_cases hc:0<val v (yz 5 vs)
    ·simp [hc]
    ·simp [hc]
   ·simp [h4,h5]
def Ly(a:jt)(he:NT a.Arg.Nodes)(Y:a.Tag≠1)(x:ac): ∀(rows:List cS) (vs:List ac) (fault:Int),HB rows->vs.length+rows.length<=90000->(∀v∈vs,Pl v)->vd a.Tag vs=false->(fault=0\/fault=140)->
  ft a rows (vs.length:Int) fault x (BR a.Tag vs) (yz a.Tag vs)=some (if Gn a.Arg.Nodes rows||vd a.Tag (D7 a.Arg.Nodes rows)then(zV,2)else VG a.Tag (vs++D7 a.Arg.Nodes rows) (if Gi a.Arg.Nodes rows then 140 else fault))
 |[],vs,fault,_,hl,hpl,hod,hf=>by
  have e1:Gn a.Arg.Nodes []=false:=rfl
  have e2:D7 a.Arg.Nodes []=[]:=rfl
  have e3:Gi a.Arg.Nodes []=false:=rfl
  have e4:vd a.Tag []=false:=by unfold vd;simp
  rw [e1,e2,e3,e4,tA]
  simp only [Bool.or_self,iq,fU]
  unfold ft VG
  rcases hf with hf|hf
  ·rw [hf]
   simp only [sJ,Nc,B5,iq,fU]
   by_cases K:a.Tag=2
   ·rw [br (by simpa using K),br K];rfl
   ·rw [aS (by simpa using K),aS K]
    by_cases h3:a.Tag=3
    ·rw [br (by simpa using h3),br h3]
     rw [h3]at hod ⊢
     simp only [oo]at hl
     rw [Xw (fun v hv=>⟨hpl v hv,Ic _ (by simpa using hod) v hv⟩) (by omega)]
     rfl
    ·rw [aS (by simpa using h3),aS h3]
  ·rw [hf];rfl
 |r::t,vs,fault,hr,hl,hpl,hod,hf=>by
  have htl:HB t:=fun x V=>hr x (lT _ V)
  have hr1:=hr r (mp ..)
  rw [io]at hl
  unfold ft
  rw [Cf a.Arg r he hr1,bt,Iv]
  have eb:Gn a.Arg.Nodes (r::t)=(((qY r a.Arg.Nodes).2 !=0&&(qY r a.Arg.Nodes).2 !=140)||Gn a.Arg.Nodes t):=rfl
  have ef:Gi a.Arg.Nodes (r::t)=(((qY r a.Arg.Nodes).2==140)||Gi a.Arg.Nodes t):=rfl
  rw [eb,ef]
  rcases Bu he hr1 with q|q|q
  ·rw [aS (by rw [q.1];decide)]
   have e0:((qY r a.Arg.Nodes).2 !=0&&(qY r a.Arg.Nodes).2 !=140)=false:=by rw [q.1];rfl
   have e1:((qY r a.Arg.Nodes).2==140)=false:=by rw [q.1];rfl
   have e2:((qY r a.Arg.Nodes).2 !=0)=false:=by rw [q.1];rfl
   rw [e0,e1,e2]
   simp only [xL]
   by_cases hk0:(qY r a.Arg.Nodes).1.Kind=0
   ·rw [aS (by simp [hk0]),br (by simpa using hk0)]
    have hn2: ¬((qY r a.Arg.Nodes).2=0/\(qY r a.Arg.Nodes).1.Kind≠0):=fun h=>h.2 hk0
    simp only [aS hn2]
    unfold ir
    exact Ly a he Y x t vs fault htl (by omega) hpl hod hf
   ·have hc2:(qY r a.Arg.Nodes).2=0/\(qY r a.Arg.Nodes).1.Kind≠0:=⟨q.1,hk0⟩
    rw [br hc2]
    by_cases hodd:a.Tag=3/\(qY r a.Arg.Nodes).1.Kind≠2
    ·rw [br (by simp [hodd.1,hodd.2,hk0])]
     have:vd a.Tag ((qY r a.Arg.Nodes).1::D7 a.Arg.Nodes t)=true:=by
      unfold vd
      simp [hodd.1,hodd.2]
     rw [this,Bool.or_true];rfl
    ·rw [aS (by simp only [gN,uZ,ux,sJ];intro h;exact hodd ⟨h.1.1,h.2⟩),aS (by simpa using hk0)]
     have ho1:vd a.Tag [(qY r a.Arg.Nodes).1]=false:=by
      unfold vd
      simp only [wU,List.any_nil,Bool.or_false]
      rw [p8]
      intro h
      simp only [gN,uZ,ux,sJ]at h
      exact hodd h
     have ho:vd a.Tag ((qY r a.Arg.Nodes).1::D7 a.Arg.Nodes t)=vd a.Tag (D7 a.Arg.Nodes t):=by
      have:=Ok a.Tag [(qY r a.Arg.Nodes).1] (D7 a.Arg.Nodes t)
      rw [ho1,xL]at this
      exact this
     have hvs:vd a.Tag (vs++[(qY r a.Arg.Nodes).1])=false:=by rw [Ok,hod,ho1];rfl
     have hpl2: ∀v∈vs++[(qY r a.Arg.Nodes).1],Pl v:=by
      intro v hv
      rcases BG.1 hv with h|h
      ·exact hpl v h
      ·simp at h;rw [h];exact q.2
     have ih:=Ly a he Y x t (vs++[(qY r a.Arg.Nodes).1]) fault htl (by simp only [ju,vl];omega) hpl2 hvs hf
     rw [ho]
     rw [ji,Cv]at ih
     rw [<-ih]
     have hpair:qY r a.Arg.Nodes=((qY r a.Arg.Nodes).1,(qY r a.Arg.Nodes).2):=rfl
     by_cases h3:a.Tag=3
     ·rw [br (by simpa using h3)]
      have hk2:(qY r a.Arg.Nodes).1.Kind=2:=by
       rcases Classical.em ((qY r a.Arg.Nodes).1.Kind=2)with h|h
       ·exact h
       ·exact absurd ⟨h3,h⟩ hodd
      have hod3: ¬vd 3 vs=true:=by rw [<-h3,hod];simp
      have st:=UR (fun v hv=>⟨hpl v hv,Ic _ hod3 v hv⟩) (by omega) q.2 hk2
      rw [<-h3]at st
      rw [st,bt]
      rw [hpair]
      exact WE a _ vs (by omega) fault x _ _ _
     ·rw [aS (by simpa using h3)]
      have es:BR a.Tag (vs++[(qY r a.Arg.Nodes).1])=BR a.Tag vs:=by
       unfold BR
       rw [aS (fun h=>h3 h.1),aS (fun h=>h3 h.1)]
      rw [es,hpair]
      exact WE a _ vs (by omega) fault x _ _ _
  ·rw [aS (by simpa using q.2.1),br (by simp [q.1])]
   have:((qY r a.Arg.Nodes).2 !=0&&(qY r a.Arg.Nodes).2 !=140)=true:=by simp [q.1,q.2.1]
   rw [this]
   simp only [Bool.true_or,gx]
   rfl
  ·rw [q,aS (by decide: ¬((140:Int)=0/\_)),br (by rfl)]
   unfold ir
   have ih:=Ly a he Y x t vs 140 htl (by omega) hpl hod (.inr rfl)
   rw [ih]
   simp
def CK(a:jt)(he:NT a.Arg.Nodes){rows:List cS}(hr:HB rows)(hn:rows.length<=90000):pe a rows=some (wH a rows):=by
 unfold pe wH
 by_cases I:a.Tag=1
 ·rw [br (by simpa using I),br I];rfl
 ·rw [aS (by simpa using I),aS I]
  have e:BR a.Tag []=zV:=by unfold BR;simp
  have:=Ly a he I zV rows [] 0 hr (by simp only [oo];omega) (by simp) (by unfold vd;simp) (.inl rfl)
  rw [e,lU]at this
  exact this

def nb(r:Nat):Nat:=if r%2=1 then(r/2)^^^2197175160 else r/2
def nb8(r:Nat):Nat:=nb (nb (nb (nb (nb (nb (nb (nb r)))))))
def Z8:List Int:=(List.range 256).map fun i=>(nb8 i:Int)

def k5(r:cS)(c:List Int):Bool:=decide (c.length<=16)&&c.all fun e=>decide (0<=e)&&decide (e<(r.length:Int))
def yE{f:Int->Option Bool}{g:Int->Bool}(hf: ∀v,f v=some (g v)): ∀(l:List Int) (i:Nat),∃j:Int,ie f l i=some j/\decide (0<=j)=l.any g
 |[],i=>⟨-1,rfl,rfl⟩
 |e::l,i=>by
  unfold ie
  rw [hf,bt]
  cases h:g e with
  |true=>exact⟨(i:Int),by simp,by simp [h]⟩
  |false=>
   obtain⟨j,I,K⟩:=yE hf l (i+1)
   exact⟨j,by simpa using I,by rw [K];simp [h]⟩
def lR{f:Int->Option Bool}{g:Int->Bool}(hf: ∀v,f v=some (g v))(l:List Int):dD l f=some (l.any g):=by
 unfold dD ne
 obtain⟨j,I,K⟩:=yE hf l 0
 rw [I,bt,K]
def Qe(r:cS)(c:List Int):Gt r c=some (k5 r c):=by
 unfold Gt k5
 rw [lR (f:=Be r) (g:=fun c=>(decide (c<(0:Int)))||(decide ((r.length:Int)<=c))) (fun v=>rfl)]
 by_cases h:c.length<=16
 ·rw [br (by rw [j9];omega),bt,bt,zQ h,xr]
  congr 1
  induction c with
  |nil=>rfl
  |cons e c ih=>
   rw [wU,BE,Bool.not_or,ih (by simp at h;omega)]
   congr 1
   rw [De];simp only [Ai,Bool.or_eq_false_iff,gN,j9,Jd];omega
 ·rw [aS (by rw [j9];omega),bt,yI h,GQ]
def Cz(r:cS): ∀(c:List Int) (out:cS),(∀e∈c,0<=e/\e<(r.length:Int))->out.length+c.length<=1000->
  ∃t:cS,t.length=out.length+c.length/\(∀v∈t,v∈out\/v∈r)/\ov r c out=some t/\ri r c out=some t
 |[],out,_,_=>⟨out,rfl,fun v hv=> .inl hv,rfl,rfl⟩
 |e::c,out,h,hl=>by
  obtain⟨I,K⟩:=h e (mp ..)
  obtain⟨n,rfl⟩:=GX I
  have hn:n<r.length:=by omega
  rw [io]at hl
  obtain⟨t,g1,g2,g3,g4⟩:=Cz r c (out++[r[n]]) (fun e he=>h e (lT _ he)) (by simp;omega)
  have hi:di r (n:Int)=some r[n]:=by rw [cO];exact p5 hn
  refine⟨t,by rw [g1];simp;omega,fun v hv=>?_,?_,?_⟩
  ·rcases g2 v hv with g|g
   ·rcases BG.1 g with g|g
    ·exact .inl g
    ·rw [EE.1 g];exact .inr (Dk hn)
   ·exact .inr g
  ·unfold ov
   rw [hi,bt,cA (by simp;omega),bt]
   exact g3
  ·unfold ri
   rw [hi,bt,cA (by simp;omega),bt]
   exact g4
def ZP{xs:List α}(h:xs.length<=68719476736):app [] xs=some xs:=by rw [cA (by simpa using h)];rfl

def AK(l:List cS)(c:List Int):Bool:=decide (c.length<=16)&&c.all (fun e=>decide (0<=e))&&l.all (fun r=>k5 r c)
def zx(l:List cS)(c:List Int):Int:=if wG l then(if AK l c then 0 else 2)else 150
def F8(c:List Int): ∀l:List cS,sR c l=some (if l.all (fun r=>k5 r c)then 0 else 2)
 |[]=>rfl
 |r::l=>by
  unfold sR
  rw [Qe,bt,F8 c l,BE]
  cases k5 r c<;>rfl
def Jj(h:l.length<=8000)(c:List Int):Bf l c=some (zx l c):=by
 unfold Bf zx
 rw [yZ,Li l h,bt]
 cases wG l with
 |false=>simp
 |true=>
  rw [br rfl,aS (by decide),lR (f:=wY) (g:=fun c=>decide (c<(0:Int))) (fun v=>rfl),br rfl]
  have hn:c.all (fun e=>decide (0<=e))= !c.any (fun e=>decide (e<(0:Int))):=by
   rw [List.not_any_eq_all_not]
   congr 1
   funext e
   rw [De];simp only [j9,Ai,Jd];omega
  unfold AK
  by_cases hc:c.length<=16
  ·rw [br (by simp;omega),bt,bt,zQ hc,hn,F8]
   cases c.any (fun e=>decide (e<(0:Int)))<;>cases l.all (fun r=>k5 r c)<;>rfl
  ·rw [aS (by simp;omega),bt,yI hc];rfl
def Bm(h:AK l c=true){r:cS}(hr:r∈l):k5 r c=true:=by
 unfold AK at h
 rw [gN,p7]at h
 exact h.2 r hr
def Pd(h:zx l c=0):wG l=true/\AK l c=true:=by
 unfold zx at h
 cases I:wG l<;>cases K:AK l c<;>simp_all
def gQ(c:List Int)(r:cS):cS:=(pb r c).getD []
def yQ{r:cS}(h:k5 r c=true):pb r c=some (gQ c r)/\(gQ c r).length=c.length/\ ∀v∈gQ c r,v∈r:=by
 unfold k5 at h
 rw [gN,j9,p7]at h
 obtain⟨t,g1,g2,g3,g4⟩:=Cz r c [] (fun e he=>by have:=h.2 e he;rw [gN,j9,j9]at this;exact this) (by simp;omega)
 have e:pb r c=some t:=g3
 unfold gQ
 rw [e]
 exact⟨rfl,by simpa using g1,fun v hv=>(g2 v hv).elim (fun h=>by cases h) id⟩
def AP(c:List Int)(a b:cS):Int:=KK (fe (gQ c a) (gQ c b)) (fe a b)
def ON(c:List Int):Dc (AP c):=
 have h:=Dc.lex i7 i7
 ⟨fun x y=>h.rng (gQ c x,x) (gQ c y,y),fun x y=>h.anti (gQ c x,x) (gQ c y,y),fun x y=>(h.eq (gQ c x,x) (gQ c y,y)).trans ⟨fun e=>(Prod.mk.injEq ..▸e).2,fun e=>by rw [e]⟩,fun x y z=>h.trans (gQ c x,x) (gQ c y,y) (gQ c z,z)⟩
def Pt{a b:cS}(ha:k5 a c=true)(M:k5 b c=true):oF c a b=some (AP c a b):=by
 unfold oF
 rw [(yQ ha).1,(yQ M).1]
 simp only [bt,yY,Ff,orL]
 unfold AP KK
 congr 1
 by_cases h:fe (gQ c a) (gQ c b)=0
 ·by_cases K:fe a b=0<;>simp [h,K]
 ·simp [h]
def Ps{a b:cS}(ha:k5 a c=true)(M:k5 b c=true):iI c a b=some (decide (gQ c a=gQ c b)):=by
 unfold iI
 rw [(yQ ha).1,(yQ M).1]
 simp only [bt,y4]
def Ia{α:Type}{lt lt' :α->α->Bool}(x:α): ∀l:List α,(∀y∈l,lt y x=lt' y x)->Me lt x l=Me lt' x l
 |[],_=>rfl
 |y::l,h=>by
  unfold Me
  rw [h y (mp ..),Ia x l fun z hz=>h z (lT _ hz)]
def FV{α:Type}{lt lt' :α->α->Bool}: ∀l:List α,(∀x∈l,∀y∈l,lt x y=lt' x y)->Cl lt l=Cl lt' l
 |[],_=>rfl
 |x::l,h=>by
  unfold Cl
  rw [<-FV l fun y hy z hz=>h y (lT _ hy) z (lT _ hz)]
  exact Ia x _ fun y hy=>h y (lT _ ((wx lt l).mem_iff.1 hy)) x (mp ..)
def ND [DecidableEq α]{f:α->α->Int}(h:Dc f){c:α×α->Option Int}{l:List α}(hc: ∀x∈l,∀y∈l,c (x,y)=some (f x y))(hl:l.length<=1099511627776):B9 c l=some (u9 f l):=by
 have H:=A7 h (c:=fun p=>some (f p.1 p.2)) (fun _ _=>rfl) hl
 have hlt: ∀x∈l,∀y∈l,xG c x y=xG (fun p:α×α=>some (f p.1 p.2)) x y:=fun x V y hy=>by unfold xG;rw [hc x V y hy]
 have hg' :C9 c l:=⟨hl,fun x V y hy=>by rw [hc x V y hy];rfl,fun x V=>by rw [hlt x V x V];exact H.irr x V,
  fun x V y hy z hz I K=>by rw [hlt x V y hy]at I;rw [hlt y hy z hz]at K;rw [hlt x V z hz];exact H.tr x V y hy z hz I K,
  fun x V y hy I K=>by rw [hlt x V y hy]at I;rw [hlt y hy x V]at K;exact H.anti x V y hy I K⟩
 rw [Hd hg',FV l hlt]
 rfl
def xZ(al:cS->cS->Bool):Nat->List cS->List (List cS)
 |0,_=>[]
 |_+1,[]=>[]
 |k+1,x::t=>(x::t.takeWhile (al x))::xZ al k (t.dropWhile (al x))
def Hq{Sg:Type}{alike:cS->cS->Option Bool}{al:cS->cS->Bool}(yld:List cS->Sg->Option (Bool×Sg))(nx:Sg->List cS->Option Sg)(s:Sg)(x:cS)(t:List cS)(hal: ∀y∈t,alike x y=some (al x y))(Y:t.length<=8000):
  ∀(rest pre:List cS) (fuel:Nat),t=pre++rest->rest.length<fuel->pw alike yld nx s (x::t) fuel ((1+pre.length:Nat):Int)=(yld (x::(pre++rest.takeWhile (al x))) s).bind fun r=>if(!r.1)then some r.2 else nx r.2 (rest.dropWhile (al x))
 |rest,pre,0,_,h=>by omega
 |[],pre,fuel+1,e,_=>by
  rw [tA]at e
  subst e
  unfold pw
  rw [aS (by simp;omega),bt,aS (by decide),show(0:Int)=((0:Nat):Int)from rfl,nL (by omega) (by simp;omega),bt]
  rw [nL (by simp;omega) (fa _)]
  simp only [bt,List.takeWhile_nil,List.dropWhile_nil,tA,xM]
  rw [u0 (by simp;omega),u0 (fa _),EF (by simp;omega)]
 |b::rest,pre,fuel+1,e,hf=>by
  have hlen:t.length=pre.length+rest.length+1:=by rw [e];simp;omega
  have M:di (x::t) ((1+pre.length:Nat):Int)=some b:=by
   rw [cO,Nat.add_comm,Rh,e]
   simp
  unfold pw
  rw [br (by simp;omega),show di (x::t) 0=some x from rfl,bt,M,bt,hal b (by rw [e];simp),bt,bt]
  cases hb2:al x b with
  |true=>
   rw [br rfl,dm (by omega) (by omega),show(((1+pre.length:Nat):Int)+1)=((1+(pre++[b]).length:Nat):Int) by simp;omega]
   rw [Hq yld nx s x t hal Y rest (pre++[b]) fuel (by rw [e];simp) (by simp at hf;omega)]
   simp [List.takeWhile_cons,List.dropWhile_cons,hb2]
  |false=>
   rw [aS (by decide),show(0:Int)=((0:Nat):Int)from rfl,nL (by omega) (by simp;omega),bt]
   rw [nL (by simp;omega) (fa _)]
   simp only [bt,xM]
   rw [u0 (l:=x::t) (fa _)]
   have e1:(x::t).take (1+pre.length)=x::pre:=by rw [Nat.add_comm,List.take_succ_cons,e];simp
   have e2:(x::t).drop (1+pre.length)=b::rest:=by rw [Nat.add_comm,List.drop_succ_cons,e];simp
   rw [e1,e2]
   simp [List.takeWhile_cons,List.dropWhile_cons,hb2]
def Ks(c:List Int)(y:List cS):eg:=⟨gQ c (y.headD []),y⟩
def JB(c:List Int)(a b:cS):Bool:=decide (gQ c a=gQ c b)
def Hr(c:List Int): ∀(k fuel:Nat) (l:List cS) (out:List eg),(∀r∈l,k5 r c=true)->l.length<=k->l.length<fuel->out.length+l.length<=8000->
  mb (iI c) (F6 (fun x s=>md c x s)) fuel out l=some (out++(xZ (JB c) k l).map (Ks c))
 |k,0,l,out,_,_,h,_=>by omega
 |k,fuel+1,[],out,_,_,_,_=>by
  unfold mb
  rw [aS (by simp)]
  cases k<;>simp [xZ]
 |0,fuel+1,x::t,out,_,h,_,_=>by simp at h
 |k+1,fuel+1,x::t,out,h,hk,hf,ho=>by
  simp only [io]at hk hf ho
  have V:=h x (mp ..)
  have hsub: ∀r∈t.dropWhile (JB c x),r∈t:=fun r hr=>(Ni _).subset hr
  have hdl:(t.dropWhile (JB c x)).length<=t.length:=(Ni _).length_le
  have htl:(t.takeWhile (JB c x)).length<=t.length:=(List.takeWhile_sublist _).length_le
  unfold mb
  rw [br (by simp),show(1:Int)=((1+([]:List cS).length:Nat):Int)from rfl,
   Hq (al:=JB c) _ _ out x t (fun y hy=>Ps V (h y (lT _ hy))) (by omega) t [] fm rfl (by unfold fm;omega)]
  rw [lU]
  have M:md c (x::t.takeWhile (JB c x)) out=some (out++[Ks c (x::t.takeWhile (JB c x))]):=by
   unfold md gR
   rw [show di (x::t.takeWhile (JB c x)) 0=some x from rfl,bt,(yQ V).1,bt,ZP (by simp;omega),bt,bt,cA (by simp;omega)]
   rfl
  have hb2:F6 (fun x s=>md c x s) (x::t.takeWhile (JB c x)) out=some (true,out++[Ks c (x::t.takeWhile (JB c x))]):=by
   show Option.map _ (md c (x::t.takeWhile (JB c x)) out)=_
   rw [M];rfl
  rw [hb2]
  simp only [bt,p6,iq,fU]
  have ih:=Hr c k fuel (t.dropWhile (JB c x)) (out++[Ks c (x::t.takeWhile (JB c x))]) (fun r hr=>h r (lT _ (hsub r hr))) (by omega) (by omega) (by simp;omega)
  rw [ih]
  simp [xZ]
def Jm(h:uW l)(c:List Int):wj l c=some (if zx l c=0 then((xZ (JB c) l.length (u9 (AP c) l)).map (Ks c),0)else([],zx l c)):=by
 unfold wj
 have hlen:=h.len
 rw [Jj h.len,bt]
 by_cases ha:zx l c=0
 ·obtain⟨_,hok⟩:=Pd ha
  rw [aS (by simp [ha]),br ha,Cc l (fun r hr=>by have:=h.row r hr;omega) (by omega),bt]
  rw [ND (ON c) (fun x V y hy=>Pt (Bm hok V) (Bm hok hy)) (by omega),bt]
  unfold Hy
  rw [bt]
  unfold yW
  have hl:=um (AP c) l
  show((mb (iI c) (F6 fun x s=>md c x s) fm [] (u9 (AP c) l)).bind fun xs1=>some (xs1,(0:Int)))=_
  rw [Hr c l.length fm (u9 (AP c) l) [] (fun r hr=>Bm hok ((lJ _ _).mem_iff.1 hr)) (by omega) (by unfold fm;omega) (by simp;omega)]
  rfl
 ·rw [br (by simp [ha]),aS ha]
def Kc(al:cS->cS->Bool): ∀(k:Nat) (l:List cS),l.length<=k->(xZ al k l).flatten=l
 |0,l,h=>by
  have:l=[]:=vZ (by omega)
  subst this
  rfl
 |k+1,[],_=>rfl
 |k+1,x::t,h=>by
  have hdl:(t.dropWhile (al x)).length<=t.length:=(Ni _).length_le
  unfold xZ
  rw [List.flatten_cons,Kc al k _ (by simp at h;omega),Ac,List.takeWhile_append_dropWhile]
def Hp(al:cS->cS->Bool): ∀(k:Nat) (l:List cS) (y:List cS),y∈xZ al k l-> ∃x t,y=x::t/\x∈l/\ ∀z∈t,z∈l/\al x z=true
 |0,l,y,h=>by cases h
 |k+1,[],y,h=>by cases h
 |k+1,x::t,y,h=>by
  unfold xZ at h
  rcases gW.1 h with rfl|h
  ·exact⟨x,_,rfl,mp ..,fun z hz=>⟨lT _ ((List.takeWhile_sublist _).subset hz),by simpa using p7.1 (List.all_takeWhile (p:=al x) (l:=t)) z hz⟩⟩
  ·obtain⟨x',t',e,I,K⟩:=Hp al k _ y h
   have hsub: ∀r∈t.dropWhile (al x),r∈t:=fun r hr=>(Ni _).subset hr
   exact⟨x',t',e,lT _ (hsub _ I),fun z hz=>⟨lT _ (hsub _ (K z hz).1),(K z hz).2⟩⟩
def RV{a b:cS}(h:AP c a b<=0):fe (gQ c a) (gQ c b)<=0:=by
 unfold AP KK at h
 split at h
 ·exact h
 ·rename_i K;simp at K;omega
def SL(c:List Int)(x:cS): ∀t:List cS,qS (AP c) (x::t)-> ∀z∈t.dropWhile (JB c x),fe (gQ c x) (gQ c z)<0
 |[],_,z,hz=>by cases hz
 |b::t,hs,z,hz=>by
  have hs' :=BI.1 hs
  have hs2:=BI.1 hs'.2
  rw [List.dropWhile_cons]at hz
  split at hz
  ·exact SL c x t (BI.2 ⟨fun w hw=>hs'.1 w (lT _ hw),hs2.2⟩) z hz
  ·rename_i M
   have hlt:fe (gQ c x) (gQ c b)<0:=by
    have I:=RV (hs'.1 b (mp ..))
    rcases Int.lt_or_eq_of_le I with h|h
    ·exact h
    ·exact absurd (zQ ((i7.eq _ _).1 h)) M
   rcases gW.1 hz with rfl|hz
   ·exact hlt
   ·exact i7.lt (Int.le_of_lt hlt) (RV (hs2.1 z hz)) (.inl hlt)
def Kb(c:List Int): ∀(k:Nat) (l:List cS),qS (AP c) l->((xZ (JB c) k l).map (Ks c)).Pairwise (fun a b=>fe a.Key b.Key<0)
 |0,l,_=>List.Pairwise.nil
 |k+1,[],_=>List.Pairwise.nil
 |k+1,x::t,hs=>by
  unfold xZ
  rw [xU]
  have hs' :=BI.1 hs
  refine BI.2 ⟨fun g H=>?_,Kb c k _ (hs'.2.sublist (Ni _))⟩
  obtain⟨y,hy,rfl⟩:=xT.1 H
  obtain⟨x',t',rfl,I,_⟩:=Hp _ _ _ y hy
  exact SL c x t hs x' I
end Go.Proofs.YtpgjgkdpeagjbaaGreatDoor

