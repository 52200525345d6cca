/- di of this claim: M11, M12, M13, M14, M15, J1, K5, J2, J3, K6, K7, K8, L4, J4. -/
import Derived.Test.YtfhhakidodmdfaaGreatDoorJcQ1
set_option linter.all false
namespace Go.Proofs.YtfhhakidodmdfaaGreatDoor
open Go

def j9(m:Nat):List Int:=[((m%4294967296:Nat):Int),((m/4294967296%4294967296:Nat):Int),((m/18446744073709551616%4294967296:Nat):Int),((m/79228162514264337593543950336%4294967296:Nat):Int),0,0,0,0]
def lS(z:Int):cu:=⟨j9 z.natAbs,decide (z<0)⟩
variable{m:Nat}
theorem vN(h:m<18446744073709551616):j9 m=[((m%4294967296:Nat):Int),((m/4294967296:Nat):Int),0,0,0,0,0,0]:=by
 unfold j9
 rw [CS (show m/4294967296<4294967296 by omega),Nat.div_eq_of_lt h,Nat.div_eq_of_lt (show m<79228162514264337593543950336 by omega)]
 rfl
variable{x:Int}
theorem El(x:Nat):((x:Int)).tmod 4294967296=((x%4294967296:Nat):Int):=rfl
theorem yk{u:Nat}(h:u<18446744073709551616):ea .xor .u64 (if IntKind.u64.signed then -1 else IntKind.u64.max) (u:Int)=((18446744073709551615-u:Nat):Int):=by
 have e:ea .xor .u64 (if IntKind.u64.signed then -1 else IntKind.u64.max) (u:Int)=IntKind.u64.wrap (((BitVec.ofInt 64 (if IntKind.u64.signed then -1 else IntKind.u64.max)^^^BitVec.ofInt 64 (u:Int)).toNat:Nat):Int):=rfl
 have e1:BitVec.ofInt 64 (if IntKind.u64.signed then -1 else IntKind.u64.max)=BitVec.allOnes 64:=by decide
 have e2:BitVec.ofInt 64 (u:Int)=BitVec.ofNat 64 u:=BitVec.ofInt_natCast 64 u
 rw [e,e1,e2,BitVec.allOnes_xor,BitVec.toNat_not,BitVec.toNat_ofNat,CS (by omega:u<2^64),qK (by omega)]
variable{b:ac}
theorem LF(m:Nat)(h:m<18446744073709551616)(b:Bool):mE 0 (m:Int) ⟨List.replicate 8 0,b⟩=some ⟨j9 m,b⟩:=by
 rw [vN h]
 unfold mE
 rw [El,wY]
 rfl
variable{z:Int}
theorem jA(h:r64 z):fN z=some (lS z):=by
 unfold r64 at h
 unfold fN lS
 by_cases hz:z<0
 ·rw [bk (by simpa using hz)]
  unfold qm
  rw [bk (by decide)]
  have eu:IntKind.u64.wrap z=((18446744073709551616-z.natAbs:Nat):Int):=by rw [ur];omega
  rw [eu,yk (by omega)]
  have e1:IntKind.u64.wrap (((18446744073709551615-(18446744073709551616-z.natAbs):Nat):Int)+1)=((z.natAbs:Nat):Int):=by rw [ur];omega
  rw [e1,aX (by simp;omega)]
  have e2:IntKind.u64.wrap (-1)=((18446744073709551615:Nat):Int):=by decide
  rw [e2,yk (by omega)]
  have:=LF z.natAbs (by omega) true
  rw [show((18446744073709551615-18446744073709551615:Nat):Int)=0 from rfl,this]
  simp [hz]
 ·rw [aX (by simpa using hz)]
  unfold qm
  rw [aX (by decide)]
  have eu:IntKind.u64.wrap z=((z.natAbs:Nat):Int):=by rw [ur];omega
  rw [eu,show IntKind.u64.wrap 0=0 from by decide,LF z.natAbs (by omega) false]
  simp [hz]
theorem Ec(h:m<340282366920938463463374607431768211456)(b:Bool):qX ⟨j9 m,b⟩=some (decide (m=0)):=by
 unfold qX
 congr 1
 apply kg
 simp only [lX]
 constructor
 ·intro he
  unfold j9 at he
  have he:[((m%4294967296:Nat):Int),((m/4294967296%4294967296:Nat):Int),((m/18446744073709551616%4294967296:Nat):Int),((m/79228162514264337593543950336%4294967296:Nat):Int),0,0,0,0]=[0,0,0,0,0,0,0,0]:=he
  simp only [List.cons.injEq]at he
  omega
 ·intro he;subst he;rfl
theorem QG(h:z.natAbs<340282366920938463463374607431768211456):ql (lS z)=some (lS (-z)):=by
 unfold ql lS
 rw [Ec h]
 simp only [Int.natAbs_neg]
 by_cases h1:z<0
 ·have h2: ¬(-z<0):=by omega
  simp [h1,h2]
  omega
 ·by_cases h0:z=0
  ·subst h0;simp
  ·have h2: -z<0:=by omega
   have h3: ¬z.natAbs=0:=by omega
   have h4:decide (z<0)=false:=zc h1
   have h5:decide (-z<0)=true:=zb h2
   have h6:decide (z.natAbs=0)=false:=zc h3
   rw [h4,h5,h6]
   rfl
variable{i:Nat}
theorem Ux(h:i<8):Qo (i:Int) 8=some ():=by unfold Qo;rw [bk (by omega)]
variable{c:List Int}
theorem iR(aa bb ds:List Int)(s t:Bool)(k i:Nat)(hi:i<8)(e1 e2 c:Nat)(h1:aa[i]? =some (e1:Int))(h2:bb[i]? =some (e2:Int))(b1:e1<4294967296)(b2:e2<4294967296)(b3:c≤1):
  gw ⟨aa,s⟩ ⟨bb,s⟩ (k+1) i (c:Int) ⟨ds,t⟩=gw ⟨aa,s⟩ ⟨bb,s⟩ k (i+1) (((e1+e2+c)/4294967296:Nat):Int) ⟨ds.set i (((e1+e2+c)%4294967296:Nat):Int),t⟩:=by
 conv=>lhs;unfold gw
 rw [bk (by simp),Ux hi,cC,h1,cC,h2]
 simp only [bu]
 rw [←AL,qK (by omega),←AL,qK (by omega),wY,El]
 rfl
theorem iS(aa bb ds:List Int)(s u t:Bool)(hsu:(s==u)=false)(k i:Nat)(hi:i<8)(e1 e2 c:Nat)(h1:aa[i]? =some (e1:Int))(h2:bb[i]? =some (e2:Int))(b1:e1<4294967296)(b2:e2<4294967296)(b3:c≤1):
  gw ⟨aa,s⟩ ⟨bb,u⟩ (k+1) i (c:Int) ⟨ds,t⟩=gw ⟨aa,s⟩ ⟨bb,u⟩ k (i+1) ((1-(e1+4294967296-e2-c)/4294967296:Nat):Int) ⟨ds.set i (((e1+4294967296-e2-c)%4294967296:Nat):Int),t⟩:=by
 conv=>lhs;unfold gw
 rw [aX (by simp only [hsu];decide),Ux hi,cC,h1,cC,h2]
 simp only [bu]
 have q1:IntKind.u64.wrap ((e1:Int)+4294967296)=((e1+4294967296:Nat):Int):=by rw [GJ (by omega) (by omega)];omega
 have q2:IntKind.u64.wrap (((e1+4294967296:Nat):Int)-(e2:Int))=((e1+4294967296-e2:Nat):Int):=by rw [GJ (by omega) (by omega)];omega
 have q3:IntKind.u64.wrap (((e1+4294967296-e2:Nat):Int)-(c:Int))=((e1+4294967296-e2-c:Nat):Int):=by rw [GJ (by omega) (by omega)];omega
 rw [q1,q2,q3,wY,El]
 have q4:IntKind.u64.wrap (1-(((e1+4294967296-e2-c)/4294967296:Nat):Int))=((1-(e1+4294967296-e2-c)/4294967296:Nat):Int):=by rw [GJ (by omega) (by omega)];omega
 rw [q4]
 rfl
theorem A9(aa bb:cu)(i:Nat)(c:Int)(m:Nat)(hm:m<340282366920938463463374607431768211456)(t:Bool):gw aa bb 0 i c ⟨j9 m,t⟩=some ⟨j9 m,t&&decide (m≠0)⟩:=by
 unfold gw
 cases t with
 |false=>rfl
 |true=>
  simp only [fM]
  rw [Ec hm]
  simp
variable{p q:Nat}
theorem ZU(hp:p<18446744073709551616)(hq:q<18446744073709551616)(s:Bool):gZ ⟨j9 p,s⟩ ⟨j9 q,s⟩=some ⟨j9 (p+q),s&&decide (p+q≠0)⟩:=by
 have hd:j9 (p+q)=[(((p%4294967296+q%4294967296+0)%4294967296:Nat):Int),(((p/4294967296+q/4294967296+(p%4294967296+q%4294967296+0)/4294967296)%4294967296:Nat):Int),(((0+0+(p/4294967296+q/4294967296+(p%4294967296+q%4294967296+0)/4294967296)/4294967296)%4294967296:Nat):Int),0,0,0,0,0]:=by
  unfold j9
  congr 1
  ·congr 1;omega
  ·congr 1
   ·congr 1;omega
   ·congr 1
    ·congr 1;omega
    ·congr 1
     have:(p+q)/79228162514264337593543950336%4294967296=0:=by omega
     rw [this];rfl
 have sI:=hd
 rw [vN hp,vN hq]
 unfold gZ
 generalize hp0:p%4294967296=p0 at sI ⊢
 generalize hp1:p/4294967296=p1 at sI ⊢
 generalize hq0:q%4294967296=q0 at sI ⊢
 generalize hq1:q/4294967296=q1 at sI ⊢
 have c1:(p0+q0+0)/4294967296≤1:=by omega
 generalize hc:(p0+q0+0)/4294967296=c at sI c1 ⊢
 have c2:(p1+q1+c)/4294967296≤1:=by omega
 generalize hcc:(p1+q1+c)/4294967296=cc at sI c2 ⊢
 rw [show((0:Int))=((0:Nat):Int)from rfl]
 rw [iR _ _ _ s s 7 0 (by omega) p0 q0 0 rfl rfl (by omega) (by omega) (by omega),hc]
 rw [iR _ _ _ s s 6 1 (by omega) p1 q1 c rfl rfl (by omega) (by omega) (by omega),hcc]
 rw [iR _ _ _ s s 5 2 (by omega) 0 0 cc rfl rfl (by omega) (by omega) (by omega)]
 have c3:(0+0+cc)/4294967296=0:=by omega
 rw [c3]
 rw [iR _ _ _ s s 4 3 (by omega) 0 0 0 rfl rfl (by omega) (by omega) (by omega)]
 rw [show(0+0+0)/4294967296=0 from rfl]
 rw [iR _ _ _ s s 3 4 (by omega) 0 0 0 rfl rfl (by omega) (by omega) (by omega)]
 rw [show(0+0+0)/4294967296=0 from rfl]
 rw [iR _ _ _ s s 2 5 (by omega) 0 0 0 rfl rfl (by omega) (by omega) (by omega)]
 rw [show(0+0+0)/4294967296=0 from rfl]
 rw [iR _ _ _ s s 1 6 (by omega) 0 0 0 rfl rfl (by omega) (by omega) (by omega)]
 rw [show(0+0+0)/4294967296=0 from rfl]
 rw [iR _ _ _ s s 0 7 (by omega) 0 0 0 rfl rfl (by omega) (by omega) (by omega)]
 have he:=A9 ⟨[(p0:Int),(p1:Int),0,0,0,0,0,0],s⟩ ⟨[(q0:Int),(q1:Int),0,0,0,0,0,0],s⟩ (7+1) (((0+0+0)/4294967296:Nat):Int) (p+q) (by omega) s
 rw [sI]at he
 rw [sI]
 exact he
theorem WO(hp:p<18446744073709551616)(hq:q≤p)(s u:Bool)(hsu:(s==u)=false):gZ ⟨j9 p,s⟩ ⟨j9 q,u⟩=some ⟨j9 (p-q),s&&decide (p-q≠0)⟩:=by
 have hd:j9 (p-q)=[(((p%4294967296+4294967296-q%4294967296-0)%4294967296:Nat):Int),(((p/4294967296+4294967296-q/4294967296-(1-(p%4294967296+4294967296-q%4294967296-0)/4294967296))%4294967296:Nat):Int),0,0,0,0,0,0]:=by
  rw [vN (by omega)]
  congr 1
  ·congr 1;omega
  ·congr 1
   ·congr 1;omega
 have sI:=hd
 rw [vN hp,vN (m:=q) (by omega)]
 unfold gZ
 have hge:(p/4294967296+4294967296-q/4294967296-(1-(p%4294967296+4294967296-q%4294967296-0)/4294967296))/4294967296=1:=by omega
 generalize hp0:p%4294967296=p0 at sI hge ⊢
 generalize hp1:p/4294967296=p1 at sI hge ⊢
 generalize hq0:q%4294967296=q0 at sI hge ⊢
 generalize hq1:q/4294967296=q1 at sI hge ⊢
 have c1:1-(p0+4294967296-q0-0)/4294967296≤1:=by omega
 generalize hc:1-(p0+4294967296-q0-0)/4294967296=c at sI hge c1 ⊢
 rw [show((0:Int))=((0:Nat):Int)from rfl]
 rw [iS _ _ _ s u s hsu 7 0 (by omega) p0 q0 0 rfl rfl (by omega) (by omega) (by omega),hc]
 rw [iS _ _ _ s u s hsu 6 1 (by omega) p1 q1 c rfl rfl (by omega) (by omega) (by omega),hge]
 rw [show 1-1=0 from rfl]
 rw [iS _ _ _ s u s hsu 5 2 (by omega) 0 0 0 rfl rfl (by omega) (by omega) (by omega)]
 rw [show 1-(0+4294967296-0-0)/4294967296=0 from rfl]
 rw [iS _ _ _ s u s hsu 4 3 (by omega) 0 0 0 rfl rfl (by omega) (by omega) (by omega)]
 rw [show 1-(0+4294967296-0-0)/4294967296=0 from rfl]
 rw [iS _ _ _ s u s hsu 3 4 (by omega) 0 0 0 rfl rfl (by omega) (by omega) (by omega)]
 rw [show 1-(0+4294967296-0-0)/4294967296=0 from rfl]
 rw [iS _ _ _ s u s hsu 2 5 (by omega) 0 0 0 rfl rfl (by omega) (by omega) (by omega)]
 rw [show 1-(0+4294967296-0-0)/4294967296=0 from rfl]
 rw [iS _ _ _ s u s hsu 1 6 (by omega) 0 0 0 rfl rfl (by omega) (by omega) (by omega)]
 rw [show 1-(0+4294967296-0-0)/4294967296=0 from rfl]
 rw [iS _ _ _ s u s hsu 0 7 (by omega) 0 0 0 rfl rfl (by omega) (by omega) (by omega)]
 have he:=A9 ⟨[(p0:Int),(p1:Int),0,0,0,0,0,0],s⟩ ⟨[(q0:Int),(q1:Int),0,0,0,0,0,0],u⟩ (7+1) ((1-(0+4294967296-0-0)/4294967296:Nat):Int) (p-q) (by omega) s
 rw [sI]at he
 rw [sI]
 exact he
theorem iT(aa bb:List Int)(s t:Bool)(n:Nat)(i:Nat)(hi:i<8)(e1 e2:Int)(h1:aa[i]? =some e1)(h2:bb[i]? =some e2):
  kE ⟨aa,s⟩ ⟨bb,t⟩ (n+1) (i:Int)=if e1=e2 then kE ⟨aa,s⟩ ⟨bb,t⟩ n ((i:Int)-1)else some (decide (e1<e2)):=by
 conv=>lhs;unfold kE
 rw [bk (by simp),cC,h1,cC,h2]
 simp only [bu]
 by_cases h:e1=e2
 ·rw [aX (by simp [h]),bk h,cL (by omega) (by omega)]
 ·rw [bk (by simpa using h),aX h]
theorem Up(hp:p<18446744073709551616)(hq:q<18446744073709551616)(s t:Bool):qY ⟨j9 p,s⟩ ⟨j9 q,t⟩=some (decide (p<q)):=by
 rw [vN hp,vN hq]
 unfold qY
 obtain⟨f,hf⟩: ∃f,ir=f+9:=⟨ir-9,by have:=mR (n:=9) (by omega);omega⟩
 rw [hf]
 rw [show(7:Int)=((7:Nat):Int)from rfl,iT _ _ s t (f+8) 7 (by omega) 0 0 rfl rfl,bk rfl]
 rw [show((7:Nat):Int)-1=((6:Nat):Int)from rfl,iT _ _ s t (f+7) 6 (by omega) 0 0 rfl rfl,bk rfl]
 rw [show((6:Nat):Int)-1=((5:Nat):Int)from rfl,iT _ _ s t (f+6) 5 (by omega) 0 0 rfl rfl,bk rfl]
 rw [show((5:Nat):Int)-1=((4:Nat):Int)from rfl,iT _ _ s t (f+5) 4 (by omega) 0 0 rfl rfl,bk rfl]
 rw [show((4:Nat):Int)-1=((3:Nat):Int)from rfl,iT _ _ s t (f+4) 3 (by omega) 0 0 rfl rfl,bk rfl]
 rw [show((3:Nat):Int)-1=((2:Nat):Int)from rfl,iT _ _ s t (f+3) 2 (by omega) 0 0 rfl rfl,bk rfl]
 rw [show((2:Nat):Int)-1=((1:Nat):Int)from rfl,iT _ _ s t (f+2) 1 (by omega) _ _ rfl rfl]
 by_cases h1:((p/4294967296:Nat):Int)=((q/4294967296:Nat):Int)
 ·rw [bk h1,show((1:Nat):Int)-1=((0:Nat):Int)from rfl,iT _ _ s t (f+1) 0 (by omega) _ _ rfl rfl]
  by_cases h0:((p%4294967296:Nat):Int)=((q%4294967296:Nat):Int)
  ·rw [bk h0]
   unfold kE
   rw [aX (by decide)]
   congr 1
   symm
   rw [FZ];omega
  ·rw [aX h0]
   congr 1
   apply kg
   simp only [lX];omega
 ·rw [aX h1]
  congr 1
  apply kg
  simp only [lX];omega
variable{y:Int}
theorem Pw(hx:x.natAbs≤9223372036854775808)(hy:y.natAbs≤9223372036854775808):lN (lS x) (lS y)=some (lS (x+y)):=by
 unfold lN lS
 rw [Up (by omega) (by omega)]
 simp only [bu]
 by_cases h:(decide (x<0)==decide (y<0))=true
 ·have hs:decide (y<0)=decide (x<0):=(eq_of_beq h).symm
  have hne:(decide (x<0) !=decide (y<0))=false:=by rw [hs];simp
  rw [hne]
  simp only [gL,eT,bu]
  rw [hs,ZU (by omega) (by omega)]
  congr 2
  ·congr 1
   have:(decide (x<0)=true↔decide (y<0)=true):=by rw [hs]
   simp only [lX]at this
   omega
  ·apply kg
   have:(decide (x<0)=true↔decide (y<0)=true):=by rw [hs]
   simp only [lX]at this
   simp only [mz,lX]
   omega
 ·have hb:(decide (x<0)==decide (y<0))=false:=by simpa using h
  have hne:(decide (x<0) !=decide (y<0))=true:=by simp only [bne,hb];rfl
  rw [hne]
  simp only [fM,bu]
  have hxy: ¬(x<0↔y<0):=by
   intro hi
   have:decide (x<0)=decide (y<0):=by simp only [CO];exact hi
   rw [this]at hb;simp at hb
  by_cases hlt:x.natAbs<y.natAbs
  ·rw [bk (by simpa using hlt)]
   have hb' :(decide (y<0)==decide (x<0))=false:=by
    cases q1:decide (x<0)<;>cases q2:decide (y<0)<;>simp_all
   rw [WO (by omega) (by omega) _ _ hb']
   congr 2
   ·congr 1;omega
   ·apply kg
    simp only [mz,lX]
    omega
  ·rw [aX (by simpa using hlt)]
   rw [WO (by omega) (by omega) _ _ hb]
   congr 2
   ·congr 1;omega
   ·apply kg
    simp only [mz,lX]
    omega
theorem FM(m:Nat)(b:Bool)(e e1 e2 e3:Int):fa ⟨j9 m,b⟩ e e1 e2 e3 (8-4) 4=fa ⟨j9 m,b⟩ e e1 e2 e3 0 8:=by
 have step: ∀k i,(j9 m)[i]? =some 0→fa ⟨j9 m,b⟩ e e1 e2 e3 (k+1) i=fa ⟨j9 m,b⟩ e e1 e2 e3 k (i+1):=by
  intro k i h
  conv=>lhs;unfold fa
  rw [cC]
  simp only [h,bu]
  rw [aX (by decide)]
 show fa _ _ _ _ _ (3+1) 4=_
 rw [step 3 4 rfl]
 show fa _ _ _ _ _ (2+1) 5=_
 rw [step 2 5 rfl]
 show fa _ _ _ _ _ (1+1) 6=_
 rw [step 1 6 rfl]
 show fa _ _ _ _ _ (0+1) 7=_
 rw [step 0 7 rfl]
theorem ZG:(2:Int)^(min (Int.toNat (32:Int)) IntKind.u64.bits)=((4294967296:Nat):Int):=by
 have:(2:Int)^(min (Int.toNat (32:Int)) IntKind.u64.bits)=4294967296:=by decide
 rw [this];rfl
theorem yB(d e:Nat)(hd:d<4294967296)(he:e<4294967296):IntKind.u64.wrap (IntKind.u64.wrap ((d:Int)*2^(min (Int.toNat (32:Int)) IntKind.u64.bits))+(e:Int))=((d*4294967296+e:Nat):Int):=by
 have e0:(2:Int)^(min (Int.toNat (32:Int)) IntKind.u64.bits)=((4294967296:Nat):Int):=ZG
 rw [e0,←xx,qK (by omega),←AL,qK (by omega)]
variable{a:ac}
theorem LC(h:z.natAbs<340282366920938463463374607431768211456): ∃n,ij (lS z)=some (n,decide (r64 z))∧(r64 z→n=z):=by
 unfold ij tN lS
 generalize hm:z.natAbs=m at h ⊢
 have i3:de (j9 m) 3=some ((m/79228162514264337593543950336%4294967296:Nat):Int):=rfl
 have i2:de (j9 m) 2=some ((m/18446744073709551616%4294967296:Nat):Int):=rfl
 have i1:de (j9 m) 1=some ((m/4294967296%4294967296:Nat):Int):=rfl
 have i0:de (j9 m) 0=some ((m%4294967296:Nat):Int):=rfl
 simp only [i3,i2,i1,i0,bu]
 rw [FM]
 unfold fa
 rw [yB _ _ (vj _ (by decide)) (vj _ (by decide)),yB _ _ (vj _ (by decide)) (vj _ (by decide))]
 have hhi:m/79228162514264337593543950336%4294967296*4294967296+m/18446744073709551616%4294967296=m/18446744073709551616:=by omega
 have hlo:m/4294967296%4294967296*4294967296+m%4294967296=m%18446744073709551616:=by
  have:=Nat.mod_mul (x:=m) (a:=4294967296) (b:=4294967296)
  rw [show 4294967296*4294967296=18446744073709551616 from rfl]at this
  rw [this,Nat.mul_comm,Nat.add_comm]
 rw [hhi,hlo]
 have bhi:m/18446744073709551616<18446744073709551616:=by omega
 have blo:m%18446744073709551616<18446744073709551616:=vj _ (by decide)
 have hsplit:m=m/18446744073709551616*18446744073709551616+m%18446744073709551616:=by omega
 generalize m/18446744073709551616=hi at bhi hsplit ⊢
 generalize m%18446744073709551616=lo at blo hsplit ⊢
 by_cases hz:z<0
 ·have hzm:z= -(m:Int):=by omega
  have hm0:0<m:=by omega
  rw [bk (by simpa using hz),yk blo,yk bhi]
  have ew:IntKind.u64.wrap (((18446744073709551615-lo:Nat):Int)+1)=(((18446744073709551616-lo)%18446744073709551616:Nat):Int):=by rw [ur];omega
  have eh:IntKind.u64.wrap (((18446744073709551615-hi:Nat):Int)+1)=(((18446744073709551616-hi)%18446744073709551616:Nat):Int):=by rw [ur];omega
  rw [ew,eh]
  unfold kF
  simp only [hz,CM]
  by_cases hl0:lo=0
  ·subst hl0
   rw [bk (by decide)]
   simp only [bu]
   refine⟨IntKind.i64.wrap (((18446744073709551616-0)%18446744073709551616:Nat):Int),?_,fun hr=>?_⟩
   ·congr 2
    have hnr: ¬r64 z:=by unfold r64;omega
    have e0:IntKind.i64.wrap (((18446744073709551616-0)%18446744073709551616:Nat):Int)=0:=by decide
    rw [e0]
    have hne:(IntKind.i64.wrap (((18446744073709551616-hi)%18446744073709551616:Nat):Int)==0)=false:=by
     simp only [beq_eq_false_iff_ne,pG]
     rw [v6];omega
    rw [hne]
    simp [hnr]
   ·unfold r64 at hr;omega
  ·rw [aX (by simp;omega)]
   simp only [bu]
   have e0:IntKind.i64.wrap (((18446744073709551616-lo)%18446744073709551616:Nat):Int)=if lo≤9223372036854775808 then -(lo:Int)else 18446744073709551616-(lo:Int):=by
    rw [v6];split<;>omega
   refine⟨IntKind.i64.wrap (((18446744073709551616-lo)%18446744073709551616:Nat):Int),?_,fun hr=>?_⟩
   ·congr 2
    apply kg
    rw [e0]
    simp only [mz,qO,tt,lX]
    rw [v6]
    unfold r64
    constructor
    ·rintro⟨h1,h2⟩
     split at h2<;>omega
    ·intro h1
     have:hi=0:=by omega
     subst this
     have:lo≤9223372036854775808:=by omega
     rw [bk this]
     refine⟨by omega,.inr ⟨by omega,by omega⟩⟩
   ·rw [e0]
    unfold r64 at hr
    have:hi=0:=by omega
    subst this
    rw [bk (by omega)];omega
 ·have hzm:z=(m:Int):=by omega
  rw [aX (by simpa using hz)]
  unfold kF
  simp only [hz,decide_false,bu]
  have e0:IntKind.i64.wrap (lo:Int)=if lo≤9223372036854775807 then(lo:Int)else(lo:Int)-18446744073709551616:=by
   rw [v6];split<;>omega
  refine⟨IntKind.i64.wrap (lo:Int),?_,fun hr=>?_⟩
  ·congr 2
   apply kg
   rw [e0]
   simp only [mz,qO,tt,lX,FZ]
   rw [v6]
   unfold r64
   constructor
   ·rintro⟨h1,h2⟩
    split at h2<;>omega
   ·intro h1
    have:hi=0:=by omega
    subst this
    rw [bk (by omega)]
    refine⟨by omega,.inl ⟨by omega,by omega⟩⟩
  ·rw [e0]
   unfold r64 at hr
   rw [bk (by omega)];omega

theorem wi(aa bb ds:List Int)(s t o:Bool)(nx:Nat→cu→Option cu)(i k j:Nat)(hij:i+j<8)(p e3 e4 c:Nat)(h1:ds[i+j]? =some (p:Int))(h2:aa[i]? =some (e3:Int))(h3:bb[j]? =some (e4:Int))(b1:p<4294967296)(b2:e3<4294967296)(b3:e4<4294967296)(b4:c<4294967296):
  iK ⟨aa,s⟩ ⟨bb,t⟩ nx i (k+1) j (c:Int) ⟨ds,o⟩=iK ⟨aa,s⟩ ⟨bb,t⟩ nx i k (j+1) (((p+e3*e4+c)/4294967296:Nat):Int) ⟨ds.set (i+j) (((p+e3*e4+c)%4294967296:Nat):Int),o⟩:=by
 conv=>lhs;unfold iK
 have hm:e3*e4≤4294967295*4294967295:=xe (by omega) (by omega)
 have hw:IntKind.i64.wrap ((i:Int)+(j:Int))=((i+j:Nat):Int):=by rw [cL (by omega) (by omega)];omega
 rw [hw,Ux hij,cC,h1,cC,h2,cC,h3]
 simp only [bu]
 rw [←xx,qK (n:=e3*e4) (by omega),←AL,qK (n:=p+e3*e4) (by omega),←AL,qK (n:=p+e3*e4+c) (by omega),wY,El]
 rfl
theorem PP(aa bb:cu)(ds:List Int)(o:Bool)(nx:Nat→cu→Option cu)(i j:Nat)(hi:i<4)(c:Int):iK aa bb nx i 0 j c ⟨ds,o⟩=nx (i+1) ⟨ds.set (i+4) c,o⟩:=by
 conv=>lhs;unfold iK
 have hw:IntKind.i64.wrap ((i:Int)+(4:Int))=((i+4:Nat):Int):=by rw [cL (by omega) (by omega)];omega
 rw [hw,Ux (by omega)]
 rfl
theorem yx(aa bb ds:List Int)(s t o:Bool)(nx:Nat→cu→Option cu)(i:Nat)(hi:i<4)(x y0 y1 p0 p1 p2 p3:Nat)(ha:aa[i]? =some (x:Int))(h0:bb[0]? =some (y0:Int))(h1:bb[1]? =some (y1:Int))(h2:bb[2]? =some 0)(h3:bb[3]? =some 0)
  (q0:ds[i]? =some (p0:Int))(q1:ds[i+1]? =some (p1:Int))(q2:ds[i+2]? =some (p2:Int))(q3:ds[i+3]? =some (p3:Int))(bx:x<4294967296)(by0:y0<4294967296)(by1:y1<4294967296)(b0:p0<4294967296)(b1:p1<4294967296)(b2:p2<4294967296)(b3:p3<4294967296)
  (c1 c2 c3 c4:Nat)(e1:c1=(p0+x*y0+0)/4294967296)(e2:c2=(p1+x*y1+c1)/4294967296)(e3:c3=(p2+x*0+c2)/4294967296)(e4:c4=(p3+x*0+c3)/4294967296):
  iK ⟨aa,s⟩ ⟨bb,t⟩ nx i 4 0 0 ⟨ds,o⟩=nx (i+1) ⟨((((ds.set i (((p0+x*y0+0)%4294967296:Nat):Int)).set (i+1) (((p1+x*y1+c1)%4294967296:Nat):Int)).set (i+2) (((p2+x*0+c2)%4294967296:Nat):Int)).set (i+3) (((p3+x*0+c3)%4294967296:Nat):Int)).set (i+4) ((c4:Nat):Int),o⟩:=by
 have m0:x*y0≤4294967295*4294967295:=xe (by omega) (by omega)
 have m1:x*y1≤4294967295*4294967295:=xe (by omega) (by omega)
 have k1:c1<4294967296:=by omega
 have k2:c2<4294967296:=by omega
 have k3:c3<4294967296:=by omega
 rw [show(0:Int)=((0:Nat):Int)from rfl,wi aa bb ds s t o nx i 3 0 (by omega) p0 x y0 0 q0 ha h0 b0 bx by0 (by omega),←e1]
 rw [wi aa bb _ s t o nx i 2 1 (by omega) p1 x y1 c1 (by rw [GE (by omega)];exact q1) ha h1 b1 bx by1 k1,←e2]
 rw [wi aa bb _ s t o nx i 1 2 (by omega) p2 x 0 c2 (by rw [GE (by omega),GE (by omega)];exact q2) ha h2 b2 bx (by omega) k2,←e3]
 rw [wi aa bb _ s t o nx i 0 3 (by omega) p3 x 0 c3 (by rw [GE (by omega),GE (by omega),GE (by omega)];exact q3) ha h3 b3 bx (by omega) k3,←e4]
 rw [PP _ _ _ _ _ _ _ hi]
 rfl
theorem aaA(m:Nat):j9 m=[((m%4294967296:Nat):Int),((m/4294967296%4294967296:Nat):Int),((m/4294967296/4294967296%4294967296:Nat):Int),((m/4294967296/4294967296/4294967296%4294967296:Nat):Int),0,0,0,0]:=by
 unfold j9
 rw [Jp,Jp]
theorem Mk{p0 p1 q0 q1:Nat}(hp0:p0<4294967296)(hp1:p1<4294967296)(hq0:q0<4294967296)(hq1:q1<4294967296)(s t:Bool)(m:Nat)(hm:m=(p1*4294967296+p0)*(q1*4294967296+q0))(hlt:m<340282366920938463463374607431768211456):
  eI ⟨[(p0:Int),(p1:Int),0,0,0,0,0,0],s⟩ ⟨[(q0:Int),(q1:Int),0,0,0,0,0,0],t⟩ 4 0 ⟨List.replicate 8 0,false⟩=some ⟨j9 m,(s !=t)&&decide (m≠0)⟩:=by
 have hA:p0*q0≤4294967295*4294967295:=xe (by omega) (by omega)
 have hC:p0*q1≤4294967295*4294967295:=xe (by omega) (by omega)
 have hD:p1*q0≤4294967295*4294967295:=xe (by omega) (by omega)
 have hE:p1*q1≤4294967295*4294967295:=xe (by omega) (by omega)
 have hme:m=4294967296*(4294967296*(p1*q1)+p1*q0+p0*q1)+p0*q0:=by
  rw [hm]
  simp only [uU,Nat.mul_add]
  have h1:p1*4294967296*(q1*4294967296)=4294967296*(4294967296*(p1*q1)):=by
   rw [Nat.mul_mul_mul_comm,Nat.mul_comm (p1*q1),Nat.mul_assoc]
  have h2:p1*4294967296*q0=4294967296*(p1*q0):=by rw [Nat.mul_right_comm,Nat.mul_comm]
  have h3:p0*(q1*4294967296)=4294967296*(p0*q1):=by rw [←Nat.mul_assoc,Nat.mul_comm]
  rw [h1,h2,h3];omega
 obtain⟨c1,e1⟩: ∃c,c=(0+p0*q0+0)/4294967296:=⟨_,rfl⟩
 obtain⟨c2,e2⟩: ∃c,c=(0+p0*q1+c1)/4294967296:=⟨_,rfl⟩
 have k1:c1<4294967296:=by omega
 have k2:c2<4294967296:=by omega
 obtain⟨d1,f1⟩: ∃c,c=(0+p0*q1+c1)%4294967296:=⟨_,rfl⟩
 have l1:d1<4294967296:=by omega
 obtain⟨c3,e3⟩: ∃c,c=(d1+p1*q0+0)/4294967296:=⟨_,rfl⟩
 have k3:c3<4294967296:=by omega
 obtain⟨c4,e4⟩: ∃c,c=(c2+p1*q1+c3)/4294967296:=⟨_,rfl⟩
 have k4:c4<4294967296:=by omega
 obtain⟨d0,f0⟩: ∃c,c=(0+p0*q0+0)%4294967296:=⟨_,rfl⟩
 obtain⟨g1,f2⟩: ∃c,c=(d1+p1*q0+0)%4294967296:=⟨_,rfl⟩
 obtain⟨g2,f3⟩: ∃c,c=(c2+p1*q1+c3)%4294967296:=⟨_,rfl⟩
 have l0:d0<4294967296:=by omega
 have l2:g1<4294967296:=by omega
 have l3:g2<4294967296:=by omega
 have z: ∀x:Nat,0+x*0+0=0:=fun x=>by omega
 -- row 0
 conv=>lhs;unfold eI
 rw [yx _ _ _ s t false _ 0 (by omega) p0 q0 q1 0 0 0 0 rfl rfl rfl rfl rfl rfl rfl rfl rfl hp0 hq0 hq1 (by omega) (by omega) (by omega) (by omega) c1 c2 0 0 e1 e2 (by omega) (by omega)]
 rw [←f0,←f1,show(0+p0*0+c2)%4294967296=c2 from by omega,show(0+p0*0+0)%4294967296=0 from by omega]
 show eI _ _ 3 1 ⟨[(d0:Int),(d1:Int),(c2:Int),0,0,0,0,0],false⟩=_
 -- row 1
 conv=>lhs;unfold eI
 rw [yx _ _ _ s t false _ 1 (by omega) p1 q0 q1 d1 c2 0 0 rfl rfl rfl rfl rfl rfl rfl rfl rfl hp1 hq0 hq1 l1 k2 (by omega) (by omega) c3 c4 0 0 e3 e4 (by omega) (by omega)]
 rw [←f2,←f3,show(0+p1*0+c4)%4294967296=c4 from by omega,show(0+p1*0+0)%4294967296=0 from by omega]
 show eI _ _ 2 2 ⟨[(d0:Int),(g1:Int),(g2:Int),(c4:Int),0,0,0,0],false⟩=_
 -- row 2
 conv=>lhs;unfold eI
 rw [yx _ _ _ s t false _ 2 (by omega) 0 q0 q1 g2 c4 0 0 rfl rfl rfl rfl rfl rfl rfl rfl rfl (by omega) hq0 hq1 l3 k4 (by omega) (by omega) 0 0 0 0 (by omega) (by omega) (by omega) (by omega)]
 rw [show(g2+0*q0+0)%4294967296=g2 from by omega,show(c4+0*q1+0)%4294967296=c4 from by omega]
 show eI _ _ 1 3 ⟨[(d0:Int),(g1:Int),(g2:Int),(c4:Int),0,0,0,0],false⟩=_
 -- row 3
 conv=>lhs;unfold eI
 rw [yx _ _ _ s t false _ 3 (by omega) 0 q0 q1 c4 0 0 0 rfl rfl rfl rfl rfl rfl rfl rfl rfl (by omega) hq0 hq1 k4 (by omega) (by omega) (by omega) 0 0 0 0 (by omega) (by omega) (by omega) (by omega)]
 rw [show(c4+0*q0+0)%4294967296=c4 from by omega,show(0+0*q1+0)%4294967296=0 from by omega]
 show eI _ _ 0 4 ⟨[(d0:Int),(g1:Int),(g2:Int),(c4:Int),0,0,0,0],false⟩=_
 have hd:[(d0:Int),(g1:Int),(g2:Int),(c4:Int),0,0,0,0]=j9 m:=by
  rw [aaA]
  generalize p0*q0=A at*
  generalize p0*q1=C at*
  generalize p1*q0=D at*
  generalize p1*q1=E at*
  have r1:m/4294967296=4294967296*E+D+C+c1:=by omega
  have r2:m/4294967296/4294967296=c2+E+c3:=by rw [r1];omega
  have r3:m/4294967296/4294967296/4294967296=c4:=by rw [r2];omega
  have w0:m%4294967296=d0:=by omega
  have w1:(4294967296*E+D+C+c1)%4294967296=g1:=by omega
  have w2:(c2+E+c3)%4294967296=g2:=f3.symm
  have w3:c4%4294967296=c4:=by omega
  rw [r3,r2,r1,w0,w1,w2,w3]
 rw [hd]
 unfold eI
 cases hst:(s !=t)with
 |false=>rfl
 |true=>
  simp only [fM]
  rw [Ec hlt]
  simp
theorem Tl(hx:x.natAbs≤9223372036854775808)(hy:y.natAbs≤9223372036854775808):rZ (lS x) (lS y)=some (lS (x*y)):=by
 have hpr:=Kj x y
 have hna:(x*y).natAbs=x.natAbs*y.natAbs:=Int.natAbs_mul x y
 have hle:x.natAbs*y.natAbs≤9223372036854775808*9223372036854775808:=xe hx hy
 unfold rZ lS
 rw [vN (m:=x.natAbs) (by omega),vN (m:=y.natAbs) (by omega)]
 rw [Mk (m:=x.natAbs*y.natAbs) (by omega) (by omega) (by omega) (by omega) _ _ (by congr 1<;>omega) (by omega)]
 rw [hna]
 congr 2
 apply kg
 simp only [mz,lX]
 generalize x.natAbs*y.natAbs=m at*
 generalize (decide (x<0) !=decide (y<0))=b at*
 rw [hpr]
 cases b with
 |true=>simp only [fM,true_and];omega
 |false=>simp only [gL,eT,false_and];constructor;exact False.elim;omega

theorem aac(a b:Int):de [a,b,0,0,0,0,0,0] 1=some b:=rfl
theorem aad(a b:Int):de [a,b,0,0,0,0,0,0] 0=some a:=rfl
theorem ZT(a b:Int):((List.replicate 8 (0:Int)).set 0 a).set 1 b=[a,b,0,0,0,0,0,0]:=rfl
theorem PY(p0 p1 q0 q1:Nat)(s t:Bool)(hp0:p0<4294967296)(hp1:p1<4294967296)(hq0:q0<4294967296)(hq1:q1<4294967296)(p q:Nat)(hp:p1*4294967296+p0=p)(hq:q1*4294967296+q0=q)(h0:q≠0):
  mh ⟨[(p0:Int),(p1:Int),0,0,0,0,0,0],s⟩ ⟨[(q0:Int),(q1:Int),0,0,0,0,0,0],t⟩=some ⟨j9 (p/q),(s !=t)&&(((p/q:Nat):Int) !=0)⟩:=by
 unfold mh
 rw [aac,aad,aac,aad]
 rw [bu,bu,bu,bu]
 rw [yB _ _ hp1 hp0,yB _ _ hq1 hq0,hp,hq]
 have hn:nz (q:Int)=some ():=by
  unfold nz
  rw [aX (by omega)]
 have hle:p/q≤p:=Nat.div_le_self _ _
 have ht:((p:Nat):Int).tdiv (q:Int)=((p/q:Nat):Int):=rfl
 rw [hn,bu,ht,qK (by omega),El,wY,ZT,vN (by omega)]
theorem LE(hx:x.natAbs≤9223372036854775808)(hy:y.natAbs≤9223372036854775808)(h0:y≠0):mh (lS x) (lS y)=some (lS (x.tdiv y)):=by
 have hq:=Kh x y
 have hna:(x.tdiv y).natAbs=x.natAbs/y.natAbs:=Int.natAbs_tdiv x y
 unfold lS
 rw [vN (m:=x.natAbs) (by omega),vN (m:=y.natAbs) (by omega)]
 rw [PY _ _ _ _ _ _ (by omega) (by omega) (by omega) (by omega) x.natAbs y.natAbs (by omega) (by omega) (by omega),hna]
 generalize x.natAbs/y.natAbs=m at*
 have hf:((decide (x<0) !=decide (y<0))&&((m:Int) !=0))=decide (x.tdiv y<0):=by
  apply kg
  rw [hq]
  generalize (decide (x<0) !=decide (y<0))=b
  cases b with
  |true=>simp only [vg,rM,pG,lX,fM];omega
  |false=>simp only [CP,gL,eT,lX,false_iff];omega
 rw [hf]
variable{r:cU}{v:ac}
theorem yA(h:z.natAbs<340282366920938463463374607431768211456):((ij (lS z)).bind fun r=>if(!r.2)=true then some (zV,(140:Int))else(jQ r.1).bind fun v=>some (v,(0:Int)))=some (if r64 z then(iV z,0)else(zV,140)):=by
 obtain⟨n,h1,h2⟩:=LC h
 rw [h1]
 simp only [bu]
 by_cases hr:r64 z
 ·rw [bk hr,h2 hr,aX (by simp [hr])];rfl
 ·rw [aX hr,bk (by simp [hr])]
theorem N1(v:ac)(h:fG v=true):n7 v=some ((v.Kind==0)||(v.Kind==2)):=by
 unfold n7
 rw [fI,h];rfl
theorem zP(h:r64 x):x.natAbs≤9223372036854775808:=by unfold r64 at h;omega
variable{tag:Int}
theorem Ps(h: ¬((a.Kind=0∨a.Kind=2)∧(b.Kind=0∨b.Kind=2))):xk tag a b=(zV,2):=aX h
theorem Tg(h:(a.Kind=0∨a.Kind=2)∧(b.Kind=0∨b.Kind=2))(h2:a.Kind=0∨b.Kind=0):xk tag a b=(zV,0):=by
 unfold xk
 rw [bk h,bk h2]
theorem Wu(ht:tag=12∨tag=13∨tag=14∨tag=15)(ha:Pl a)(hb:Pl b)(h:(a.Kind=0∨a.Kind=2)∧(b.Kind=0∨b.Kind=2))(h2: ¬(a.Kind=0∨b.Kind=0)):xk tag a b=Gc tag a.N b.N:=by
 unfold xk
 rw [bk h,aX h2,Ww ht ha.r64 hb.r64]
def ZX(tag:Int):Int:=if tag=12 then 43 else if tag=13 then 45 else if tag=14 then 42 else 47
theorem ac2(hx:r64 x)(hy:r64 y):((fN x).bind fun r4=>(fN y).bind fun r5=>(lN r4 r5).bind fun r6=>(ij r6).bind fun r7=>if(!r7.2)=true then some (zV,(140:Int))else(jQ r7.1).bind fun r8=>some (r8,(0:Int)))=some (Gc 12 x y):=by
 rw [jA hx,jA hy,bu,bu,Pw (zP hx) (zP hy),bu,pO (Xd _ _)]
 have:=zP hx
 have:=zP hy
 exact yA (by omega)
theorem ac1(hx:r64 x)(hy:r64 y):((fN x).bind fun r9=>(fN y).bind fun r10=>(ql r10).bind fun r11=>(lN r9 r11).bind fun r12=>(ij r12).bind fun r13=>if(!r13.2)=true then some (zV,(140:Int))else(jQ r13.1).bind fun r14=>some (r14,(0:Int)))=some (Gc 13 x y):=by
 have h1:=zP hx
 have h2:=zP hy
 rw [jA hx,jA hy,bu,bu,QG (by omega),bu,Pw h1 (by rw [Int.natAbs_neg];exact h2),bu,pO (Xc _ _),←Int.sub_eq_add_neg]
 exact yA (by omega)
theorem ac0(hx:r64 x)(hy:r64 y):((fN x).bind fun r15=>(fN y).bind fun r16=>(rZ r15 r16).bind fun r17=>(ij r17).bind fun r18=>if(!r18.2)=true then some (zV,(140:Int))else(jQ r18.1).bind fun r19=>some (r19,(0:Int)))=some (Gc 14 x y):=by
 have h1:=zP hx
 have h2:=zP hy
 rw [jA hx,jA hy,bu,bu,Tl h1 h2,bu,pO (Xb _ _)]
 have h3:x.natAbs*y.natAbs≤85070591730234615865843651857942052864:=xe h1 h2
 exact yA (by rw [Int.natAbs_mul];omega)
theorem acZ(hx:r64 x)(hy:r64 y)(h0:y≠0):((fN x).bind fun r20=>(fN y).bind fun r21=>(mh r20 r21).bind fun r22=>(ij r22).bind fun r23=>if(!r23.2)=true then some (zV,(140:Int))else(jQ r23.1).bind fun r24=>some (r24,(0:Int)))=some (Gc 15 x y):=by
 have h1:=zP hx
 have h2:=zP hy
 rw [jA hx,jA hy,bu,bu,LE h1 h2 h0,bu,pO (z:=x.tdiv y) (by rw [O8,aX h0])]
 have h3:(x.tdiv y).natAbs=x.natAbs/y.natAbs:=Int.natAbs_tdiv _ _
 have h4:x.natAbs/y.natAbs≤x.natAbs:=Nat.div_le_self _ _
 exact yA (by omega)
theorem XM(ht:tag=12∨tag=13∨tag=14∨tag=15)(ha:Pl a)(hb:Pl b):iL (ZX tag) a b=some (xk tag a b):=by
 have hra:=ha.r64
 have hrb:=hb.r64
 unfold iL
 rw [fI,fI,ha.right,hb.right,N1 a ha.right,N1 b hb.right]
 rw [bu,bk (by decide),bu,bu,aX (by decide),bu,bu]
 by_cases h1:a.Kind=0∨a.Kind=2
 ·have e1:((a.Kind==0)||(a.Kind==2))=true:=by simpa using h1
  rw [e1,bk (by decide)]
  by_cases h2:b.Kind=0∨b.Kind=2
  ·have e2:((b.Kind==0)||(b.Kind==2))=true:=by simpa using h2
   rw [e2,bu,aX (by decide)]
   by_cases h3:a.Kind=0∨b.Kind=0
   ·rw [Tg ⟨h1,h2⟩ h3,bk (by simpa using h3)];rfl
   ·rw [Wu ht ha hb ⟨h1,h2⟩ h3,aX (by simpa using h3)]
    rcases ht with rfl|rfl|rfl|rfl
    ·rw [bk (by decide)]
     exact ac2 hra hrb
    ·rw [aX (by decide),bk (by decide)]
     exact ac1 hra hrb
    ·rw [aX (by decide),aX (by decide),bk (by decide)]
     exact ac0 hra hrb
    ·rw [aX (by decide),aX (by decide),aX (by decide)]
     by_cases h0:b.N=0
     ·rw [bk (by simpa using h0),GW (by rw [O8,bk h0])];rfl
     ·rw [aX (by simpa using h0)]
      exact acZ hra hrb h0
  ·have e2:((b.Kind==0)||(b.Kind==2))=false:=by simpa using h2
   rw [e2,bu,bk (by decide),Ps (fun h=>h2 h.2)];rfl
 ·have e1:((a.Kind==0)||(a.Kind==2))=false:=by simpa using h1
  rw [e1,aX (by decide),bu,bk (by decide),Ps (fun h=>h1 h.1)];rfl

variable{α:Type}{xs:List α}
theorem G7{s:xc}{x:UInt8}{xs:List UInt8}(h:s.drop i=x::xs):KS s (i:Int)=some (x.toNat:Int):=by
 unfold KS
 rw [cC]
 have:s[i]? =some x:=by
  have h2:(s.drop i)[0]? =some x:=by rw [h];rfl
  rw [xr]at h2
  exact h2
 rw [this];rfl
theorem Hi{s:List α}{x:α}(h:s.drop i=x::xs):s.drop (i+1)=xs:=by
 rw [←oO,h];rfl
theorem Zl(a b:ac): ∀(xs ys:List UInt8) (i n:Nat),a.S.drop i=xs→b.S.drop i=ys→a.S.length=i+xs.length→b.S.length=i+ys.length→xs.length<n→a.S.length≤100000→kI a b n (i:Int)=some (Lib.compareBytes xs ys):=by
 intro xs
 induction xs with
 |nil=>
  intro ys i n h1 h2 l1 l2 hn _
  obtain⟨m,rfl⟩: ∃m,n=m+1:=⟨n-1,by simp at hn;omega⟩
  simp only [pZ,y9]at l1
  unfold kI
  have e1:decide ((i:Int)<(a.S.length:Int))=false:=by simp;omega
  rw [e1,CP,aX (by decide)]
  cases ys with
  |nil=>
   simp only [pZ,y9]at l2
   rw [aX (by simp;omega)];rfl
  |cons y ys=>
   simp only [jf]at l2
   rw [bk (by simp;omega),bk (by simp;omega)];rfl
 |cons x xs ih=>
  intro ys i n h1 h2 l1 l2 hn hl
  obtain⟨m,rfl⟩: ∃m,n=m+1:=⟨n-1,by simp at hn;omega⟩
  simp only [jf]at l1 hn
  unfold kI
  have e1:decide ((i:Int)<(a.S.length:Int))=true:=by simp;omega
  rw [e1,vg]
  cases ys with
  |nil=>
   simp only [pZ,y9]at l2
   rw [aX (by simp;omega),bk (by simp;omega),aX (by simp;omega)];rfl
  |cons y ys=>
   simp only [jf]at l2
   rw [bk (by simp;omega),G7 h1,G7 h2]
   simp only [bu]
   unfold Lib.compareBytes
   by_cases h:x=y
   ·subst h
    have hlt: ¬x<x:=by rw [NR];omega
    rw [aX (by simp),aX hlt,aX hlt,cL (by omega) (by omega)]
    exact ih ys (i+1) m (Hi h1) (Hi h2) (by omega) (by omega) (by omega) hl
   ·have hne:x.toNat≠y.toNat:=fun hh=>h (UInt8.toNat_inj.1 hh)
    rw [bk (by simp;omega)]
    by_cases hlt:x<y
    ·have:=NR.1 hlt
     rw [bk hlt,bk (by simp;omega)]
    ·have h3: ¬x.toNat<y.toNat:=fun hh=>hlt (NR.2 hh)
     have h4:y<x:=NR.2 (by omega)
     rw [aX hlt,bk h4,aX (by simp;omega)]
theorem Pl.short(h:Pl v):v.S.length≤40:=by
 cases h with
 |z=>simp [zV]
 |b b=>simp [bV]
 |i n h=>simp [iV]
 |s s h=>exact h
def sg(x y:Int):Int:=if x<y then -1 else if y<x then 1 else 0
theorem Nv(x y:Int):ja x y=some (sg x y):=by
 unfold ja nJ sg
 simp only [zr,bu,gL,eT,lX]
 by_cases h1:x<y
 ·rw [bk h1,bk h1]
 ·rw [aX h1,aX h1]
  by_cases h2:y<x
  ·rw [bk h2,bk h2]
  ·rw [aX h2,aX h2]
theorem Ja(x y:Int):gU x y=some (sg x y):=by
 unfold gU lh sg
 simp only [zr,bu,gL,eT,lX]
 by_cases h1:x<y
 ·rw [bk h1,bk h1]
 ·rw [aX h1,aX h1]
  by_cases h2:y<x
  ·rw [bk h2,bk h2]
  ·rw [aX h2,aX h2]
theorem Wi(x y z:Int):m6 [x,y,z]=some (if x≠0 then x else if y≠0 then y else z):=by
 unfold m6 gx gx gx gx
 by_cases h1:x=0<;>by_cases h2:y=0<;>by_cases h3:z=0<;>simp [h1,h2,h3]
theorem Jb(ha:Pl a)(hb:Pl b):Fs a b=if sg a.Kind b.Kind≠0 then sg a.Kind b.Kind else if sg a.N b.N≠0 then sg a.N b.N else Lib.compareBytes a.S b.S:=by
 unfold Fs lG
 rw [ha.plain_eq,hb.plain_eq,bu,bk (by decide),bu,bu,aX (by decide),Nv,Ja,bu,bu]
 have:o9 a.S b.S=some (Lib.compareBytes a.S b.S):=rfl
 rw [this,bu,Wi];rfl
theorem Rl(x:Int):sg x x=0:=by unfold sg;rw [aX (by omega),aX (by omega)]
theorem N6(h:x≠y):sg x y=(if x<y then -1 else 1)∧sg x y≠0:=by
 unfold sg
 by_cases h1:x<y
 ·rw [bk h1,bk h1];exact⟨rfl,by decide⟩
 ·rw [aX h1,aX h1,bk (by omega)];exact⟨rfl,by decide⟩
theorem Zo(ha:Pl a)(hb:Pl b)(h:a.Kind≠b.Kind):Fs a b=if a.Kind<b.Kind then -1 else 1:=by
 rw [Jb ha hb,bk (N6 h).2,(N6 h).1]
theorem Zn(ha:Pl a)(hb:Pl b)(h:a.Kind=b.Kind)(h2:a.N≠b.N):Fs a b=if a.N<b.N then -1 else 1:=by
 rw [Jb ha hb,h,Rl,aX (by decide),bk (N6 h2).2,(N6 h2).1]
theorem Zm(ha:Pl a)(hb:Pl b)(h:a.Kind=b.Kind)(h2:a.N=b.N):Fs a b=Lib.compareBytes a.S b.S:=by
 rw [Jb ha hb,h,Rl,aX (by decide),h2,Rl,aX (by decide)]
theorem Cc(ha:Pl a)(hb:Pl b):nD a b=some (Fs a b):=by
 unfold nD
 rw [jD,jD,ha.plain,hb.plain,bu,bk (by decide),bu,bu,aX (by decide)]
 by_cases h1:a.Kind=b.Kind
 ·rw [aX (by simpa using h1)]
  by_cases h2:a.N=b.N
  ·rw [aX (by simpa using h2),Zm ha hb h1 h2]
   have h4:=ha.short
   have h5:=mR (n:=41) (by omega)
   exact Zl a b a.S b.S 0 ir rfl rfl (by omega) (by omega) (by omega) (by omega)
  ·rw [bk (by simpa using h2),Zn ha hb h1 h2]
   by_cases h3:a.N<b.N
   ·rw [bk h3,bk (by simpa using h3)]
   ·rw [aX h3,aX (by simpa using h3)]
 ·rw [bk (by simpa using h1),Zo ha hb h1]
  by_cases h3:a.Kind<b.Kind
  ·rw [bk h3,bk (by simpa using h3)]
  ·rw [aX h3,aX (by simpa using h3)]
theorem u7(b:Bool):jY b=some (bV b):=by cases b<;>rfl
theorem Wo(ha:Pl a)(hb:Pl b):q5 a b=some (if a.Kind≠0∧b.Kind≠0∧a.Kind≠b.Kind then 2 else 0):=by
 unfold q5
 rw [fI,fI,ha.right,hb.right,bu,bk (by decide),bu,bu,aX (by decide)]
 rw [jD,jD,ha.plain,hb.plain,bu,bk (by decide),bu,bu]
 by_cases h:a.Kind≠0∧b.Kind≠0∧a.Kind≠b.Kind
 ·rw [bk h,bk (by simp [h])]
 ·rw [aX h,aX (by simp;intro h1 h2;exact Classical.byContradiction fun h3=>h ⟨h1,h2,h3⟩)]
theorem Kc(ha:Pl a)(hb:Pl b)(f:Int→Bool):((q5 a b).bind fun r=>if(((r !=(0:Int))||(a.Kind==(0:Int)))||(b.Kind==(0:Int)))=true then some ((⟨(0:Int),(0:Int),(0:Int),[]⟩:ac),r)else(nD a b).bind fun r1=>(jY (f r1)).bind fun r2=>some (r2,(0:Int)))=some (fb f a b):=by
 rw [Wo ha hb,bu]
 by_cases h0:a.Kind=0∨b.Kind=0
 ·have hne: ¬(a.Kind≠0∧b.Kind≠0∧a.Kind≠b.Kind):=fun h=>h0.elim h.1 h.2.1
  have e:fb f a b=(zV,0):=bk h0
  rw [aX hne,e,bk (by rcases h0 with h|h<;>simp [h])];rfl
 ·have h1:a.Kind≠0:=fun h=>h0 (.inl h)
  have h2:b.Kind≠0:=fun h=>h0 (.inr h)
  by_cases h3:a.Kind=b.Kind
  ·have hne: ¬(a.Kind≠0∧b.Kind≠0∧a.Kind≠b.Kind):=fun h=>h.2.2 h3
   have e:fb f a b=(bV (f (Fs a b)),0):=by unfold fb;rw [aX h0,bk h3]
   rw [aX hne,e,aX (by simp [h1,h2]),Cc ha hb,bu,u7];rfl
  ·have hp:a.Kind≠0∧b.Kind≠0∧a.Kind≠b.Kind:=⟨h1,h2,h3⟩
   have e:fb f a b=(zV,2):=by unfold fb;rw [aX h0,aX h3]
   rw [bk hp,e,bk (by simp)];rfl
theorem xQ(ha:Pl a)(hb:Pl b):pQ a b=some (fb (fun c=>c==0) a b):=Kc ha hb _
theorem rC(ha:Pl a)(hb:Pl b):lO a b=some (fb (fun c=>decide (c<0)) a b):=Kc ha hb _
theorem B4(ha:Pl a)(hb:Pl b):oB a b=some (if a.Kind≤1∧b.Kind≤1 then 0 else 2):=by
 unfold oB
 rw [fI,fI,ha.right,hb.right,bu,bk (by decide),bu,bu,aX (by decide)]
 by_cases h:a.Kind≤1∧b.Kind≤1
 ·rw [bk h,aX (by simp;omega)]
 ·rw [aX h,bk (by simp;omega)]
theorem A6(h:Tu a):iQ a=some (Gl a,0):=by
 cases h with
 |z=>rfl
 |b b=>cases b<;>rfl
theorem Id(ha:Tu a)(hb:Tu b):q6 a b=some (Fz a b,0):=by
 cases ha with
 |z=>cases hb with
  |z=>rfl
  |b b=>cases b<;>rfl
 |b x=>cases hb with
  |z=>cases x<;>rfl
  |b b=>cases x<;>cases b<;>rfl
theorem Ke(ha:Tu a)(hb:Tu b):vz a b=some (TF a b,0):=by
 cases ha with
 |z=>cases hb with
  |z=>rfl
  |b b=>cases b<;>rfl
 |b x=>cases hb with
  |z=>cases x<;>rfl
  |b b=>cases x<;>cases b<;>rfl
theorem Ic(ha:Pl a):iQ a=some (if a.Kind≤1 then(Gl a,0)else(zV,2)):=by
 by_cases h:a.Kind≤1
 ·rw [bk h];exact A6 ((ji ha).2 h)
 ·rw [aX h]
  unfold iQ
  rw [B4 ha ha,aX (fun k=>h k.1)];rfl
theorem Ie(ha:Pl a)(hb:Pl b):q6 a b=some (if a.Kind≤1∧b.Kind≤1 then(Fz a b,0)else(zV,2)):=by
 by_cases h:a.Kind≤1∧b.Kind≤1
 ·rw [bk h];exact Id ((ji ha).2 h.1) ((ji hb).2 h.2)
 ·rw [aX h]
  unfold q6
  rw [B4 ha hb,aX h];rfl
theorem Kf(ha:Pl a)(hb:Pl b):vz a b=some (if a.Kind≤1∧b.Kind≤1 then(TF a b,0)else(zV,2)):=by
 by_cases h:a.Kind≤1∧b.Kind≤1
 ·rw [bk h];exact Ke ((ji ha).2 h.1) ((ji hb).2 h.2)
 ·rw [aX h]
  unfold vz
  rw [B4 ha hb,aX h];rfl
theorem EW{f:Int→Bool}{x y:ac}:((iQ (fb f x y).1).bind fun r=>some (r.1,(fb f x y).2))=some (EX (fb f x y)):=by
 unfold EX
 by_cases h0:(fb f x y).2=0
 ·rw [bk h0,A6 (sj f x y h0),bu,h0]
 ·rw [aX h0,Cl f x y h0];rfl
theorem Ge{k:Nat}(h:pk tag=some k)(hk:k≠0)(ha:Pl a)(hb:Pl b):Ak tag a b=some (Ce tag a b):=by
 have op: ∀t,t=12∨t=13∨t=14∨t=15→iL (ZX t) a b=some (xk t a b):=fun t ht=>XM ht ha hb
 rcases Rx h hk with rfl|rfl|rfl|rfl|rfl|rfl|rfl|rfl|rfl|rfl|rfl|rfl|rfl|rfl|rfl|rfl
 ·have h2:iL 45 (iV 0) a=some (xk 13 (iV 0) a):=XM (tag:=13) (.inr (.inl rfl)) (.i 0 ⟨by decide,by decide⟩) ha
  show(iL 45 (iV 0) a).bind _=_
  rw [h2];rfl
 ·show(iQ a).bind _=some (if a.Kind≤1 then(Gl a,0)else(zV,2))
  rw [Ic ha];rfl
 ·show(jY (a.Kind==0)).bind _=some (bV (a.Kind==0),0)
  rw [u7];rfl
 ·show(jY (a.Kind !=0)).bind _=some (bV (a.Kind !=0),0)
  rw [u7];rfl
 ·show(iL 43 a b).bind _=some (xk 12 a b)
  rw [show iL 43 a b=some (xk 12 a b)from op 12 (.inl rfl)];rfl
 ·show(iL 45 a b).bind _=some (xk 13 a b)
  rw [show iL 45 a b=some (xk 13 a b)from op 13 (.inr (.inl rfl))];rfl
 ·show(iL 42 a b).bind _=some (xk 14 a b)
  rw [show iL 42 a b=some (xk 14 a b)from op 14 (.inr (.inr (.inl rfl)))];rfl
 ·show(iL 47 a b).bind _=some (xk 15 a b)
  rw [show iL 47 a b=some (xk 15 a b)from op 15 (.inr (.inr (.inr rfl)))];rfl
 ·show((pQ a b).bind fun r=>some (r.1,r.2)).bind _=some (fb (fun c=>c==0) a b)
  rw [xQ ha hb];rfl
 ·show((pQ a b).bind fun r=>(iQ r.1).bind fun r4=>some (r4.1,r.2)).bind _=some (EX (fb (fun c=>c==0) a b))
  rw [xQ ha hb,bu,EW];rfl
 ·show((lO a b).bind fun r=>some (r.1,r.2)).bind _=some (fb (fun c=>decide (c<0)) a b)
  rw [rC ha hb];rfl
 ·show((lO b a).bind fun r=>(iQ r.1).bind fun r4=>some (r4.1,r.2)).bind _=some (EX (fb (fun c=>decide (c<0)) b a))
  rw [rC hb ha,bu,EW];rfl
 ·show((lO b a).bind fun r=>some (r.1,r.2)).bind _=some (fb (fun c=>decide (c<0)) b a)
  rw [rC hb ha];rfl
 ·show((lO a b).bind fun r=>(iQ r.1).bind fun r4=>some (r4.1,r.2)).bind _=some (EX (fb (fun c=>decide (c<0)) a b))
  rw [rC ha hb,bu,EW];rfl
 ·show(q6 a b).bind _=some (if a.Kind≤1∧b.Kind≤1 then(Fz a b,0)else(zV,2))
  rw [Ie ha hb];rfl
 ·show(vz a b).bind _=some (if a.Kind≤1∧b.Kind≤1 then(TF a b,0)else(zV,2))
  rw [Kf ha hb];rfl

theorem Yh(h:pk tag=some 1)(a b c:ac):Ce tag a b=Ce tag a c:=by
 have h4:tag=4∨tag=5∨tag=6∨tag=7:=by
  unfold pk at h
  repeat' split at h
  all_goals simp at h
  omega
 rcases h4 with rfl|rfl|rfl|rfl<;>rfl
theorem aaz(h:pk tag=some 1)(a b c:ac):dz tag a b=dz tag a c:=by
 unfold dz
 rw [Yh h a b c]
theorem FP(nx:List ac→ac→Option (ac×Int))(m:bC)(own:List ac)(x a b:ac){k:Nat}(h:pk m.Tag=some k)(hk:k≠0)(ha:Pl a)(hb:Pl b)(hl:own.length≤60000):oZ nx m own x a b=if(dz m.Tag a b).2=0 then nx (own++[(dz m.Tag a b).1]) x else some (dz m.Tag a b):=by
 unfold oZ
 rw [Ge h hk ha hb,bu]
 rcases vM h hk ha hb with⟨h1,_,h3⟩|⟨h1,h2⟩|⟨h1,h2,_⟩
 ·rw [h3]at h1 ⊢
  rw [bk h1,aX (by simp [h1]),aX (by simp [h1]),cJ (by simp;omega)];rfl
 ·rw [h1,h2];rfl
 ·rw [h1,h2];rfl
theorem PW(r:List ac)(x:ac)(t:Tr):t.wf→TE t→yl r t→ ∀(rest:List bC) (own:List ac),own.length+t.size≤50000→
  ((ev r t).2≠0∧c0 r (t.flat own.length++rest) own x=some (ev r t))∨
  ((ev r t).2=0∧ ∃w:List ac,w.length+1=t.size∧c0 r (t.flat own.length++rest) own x=c0 r rest (own++w++[(ev r t).1]) x):=by
 induction t with
 |lf n=>
  intro⟨h1,h2,h3,h4⟩ hr hc rest own hl
  simp only [Tr.flat,Tr.size,xo,k7]at hl ⊢
  refine .inr ?_
  have e1:(il n (-1) (-1)).Tag=n.Tag:=rfl
  have ev0:(ev r (.lf n))=if n.Tag=1 then(n.Value,0)else((r[n.Col.toNat]?).getD zV,0):=rfl
  rcases Zz h1 with ht|ht
  ·rw [ev0,bk ht]
   refine⟨rfl,[],rfl,?_⟩
   rw [c0]
   rw [e1,bk (by simp [ht]),cJ (by simp;omega)]
   simp only [bu,tu]
   rfl
  ·rw [ev0,aX (by simp [ht])]
   refine⟨rfl,[],rfl,?_⟩
   have hb:=Nu h2 ht
   obtain⟨_,v,hv,_⟩:=hc ht
   have e2:(il n (-1) (-1)).Col=n.Col:=rfl
   rw [c0]
   rw [e1,aX (by simp [ht]),bk (by simp [ht]),e2,iA n.Col.toNat (by omega),hv]
   simp only [bu,tu,GA]
   rw [cJ (by simp;omega)]
   rfl
 |un n a ih=>
  intro⟨⟨h1,h2,h3,h4⟩,ha⟩ hr hc rest own hl
  have hap:=a.size_pos
  simp only [Tr.flat,Tr.size,jO]at hl ⊢
  obtain⟨m,hm⟩: ∃m,m=il n (((own.length+a.size:Nat):Int)-1) (-1):=⟨_,rfl⟩
  rw [←hm]
  rw [Pa]
  rcases ih ha hr hc ([m]++rest) own (by omega)with⟨hx,he⟩|⟨hx,w,hw,he⟩
  ·rw [ju hx]
   exact .inl ⟨hx,he⟩
  ·rw [he,nu hx]
   have hpl:Pl (ev r a).1:=by
    rcases nr r a ha hr hc with⟨_,h⟩|h|h
    ·exact h
    ·rw [h]at hx;cases hx
    ·rw [h]at hx;cases hx
   generalize (ev r a).1=v at hpl ⊢
   simp only [xo,k7]
   have e1:m.Tag=n.Tag:=by rw [hm];rfl
   have eL:m.L=((own.length+a.size:Nat):Int)-1:=by rw [hm];rfl
   have eR:m.R= -1:=by rw [hm];rfl
   have n1:n.Tag≠1:=fun h=>by rw [h]at h1;simp [pk]at h1
   have n2:n.Tag≠2:=fun h=>by rw [h]at h1;simp [pk]at h1
   have hstep:c0 r (m::rest) (own++w++[v]) x=if(dz n.Tag v v).2=0 then c0 r rest (own++w++[v]++[(dz n.Tag v v).1]) x else some (dz n.Tag v v):=by
    rw [c0]
    rw [e1,aX (by simpa using n1),aX (by simpa using n2)]
    rw [eL,eR,iA (own++w).length (by simp;omega),uX (dY _),zT]
    simp only [F0,bu]
    rw [aX (by decide),show(⟨0,0,0,[]⟩:ac)=zV from rfl,FP _ m _ x v zV (by rw [e1];exact h1) (by decide) hpl .z (by simp;omega),e1,aaz h1 v _ v]
   rw [hstep]
   by_cases hb:(dz n.Tag v v).2=0
   ·rw [bk hb]
    exact .inr ⟨hb,w++[v],by simp;omega,by simp⟩
   ·rw [aX hb]
    exact .inl ⟨hb,rfl⟩
 |bi n a b iha ihb=>
  intro⟨⟨h1,h2,h3,h4⟩,ha,hb⟩ ⟨hra,hrb⟩ ⟨hca,hcb⟩ rest own hl
  have hap:=a.size_pos
  have hbp:=b.size_pos
  simp only [Tr.flat,Tr.size,jO]at hl ⊢
  obtain⟨m,hm⟩: ∃m,m=il n (((own.length+a.size:Nat):Int)-1) (((own.length+a.size+b.size:Nat):Int)-1):=⟨_,rfl⟩
  rw [←hm]
  rw [Pb]
  rcases iha ha hra hca (b.flat (own.length+a.size)++([m]++rest)) own (by omega)with⟨hx,he⟩|⟨hx,w,hw,he⟩
  ·rw [ju hx]
   exact .inl ⟨hx,he⟩
  ·rw [he,nu hx]
   have hpl:Pl (ev r a).1:=by
    rcases nr r a ha hra hca with⟨_,h⟩|h|h
    ·exact h
    ·rw [h]at hx;cases hx
    ·rw [h]at hx;cases hx
   generalize (ev r a).1=v at hpl ⊢
   have hl2:(own++w++[v]).length=own.length+a.size:=by simp;omega
   rw [←hl2]
   rcases ihb hb hrb hcb ([m]++rest) (own++w++[v]) (by rw [hl2];omega)with⟨hy,he2⟩|⟨hy,w2,hw2,he2⟩
   ·rw [ju hy]
    exact .inl ⟨hy,he2⟩
   ·rw [he2,nu hy]
    have hpl2:Pl (ev r b).1:=by
     rcases nr r b hb hrb hcb with⟨_,h⟩|h|h
     ·exact h
     ·rw [h]at hy;cases hy
     ·rw [h]at hy;cases hy
    generalize (ev r b).1=u at hpl2 ⊢
    simp only [xo,k7]
    have e1:m.Tag=n.Tag:=by rw [hm];rfl
    have eL:m.L=((own.length+a.size:Nat):Int)-1:=by rw [hm];rfl
    have eR:m.R=((own.length+a.size+b.size:Nat):Int)-1:=by rw [hm];rfl
    have n1:n.Tag≠1:=fun h=>by rw [h]at h1;simp [pk]at h1
    have n2:n.Tag≠2:=fun h=>by rw [h]at h1;simp [pk]at h1
    have hstep:c0 r (m::rest) (own++w++[v]++w2++[u]) x=if(dz n.Tag v u).2=0 then c0 r rest (own++w++[v]++w2++[u]++[(dz n.Tag v u).1]) x else some (dz n.Tag v u):=by
     rw [c0]
     rw [e1,aX (by simpa using n1),aX (by simpa using n2)]
     rw [eL,eR,iA (own++w).length (by simp;omega)]
     have g1:(own++w++[v]++w2++[u])[(own++w).length]? =some v:=by
      rw [jO,jO,uX (dY _),zT];rfl
     rw [g1]
     simp only [bu]
     rw [bk (by rw [lX];omega),iA (own++w++[v]++w2).length (by simp;omega)]
     have g2:(own++w++[v]++w2++[u])[(own++w++[v]++w2).length]? =some u:=by
      rw [uX (dY _),zT];rfl
     rw [g2]
     simp only [bu]
     rw [FP _ m _ x v u (by rw [e1];exact h1) (by decide) hpl hpl2 (by simp;omega),e1]
    rw [hstep]
    by_cases hb:(dz n.Tag v u).2=0
    ·rw [bk hb]
     exact .inr ⟨hb,w++[v]++w2++[u],by simp;omega,by simp⟩
    ·rw [aX hb]
     exact .inl ⟨hb,rfl⟩
theorem zQ(e:bS)(r:List ac)(x:ac): ∀ns:List bC,(∀n∈ns,n.Tag=2→0≤n.Col)→oY e r ns x=if ue r ns then c0 r e.Nodes [] x else some (zV,2)
 |[],_=>rfl
 |n::ns,hc=>by
  unfold oY
  rw [zQ e r x ns fun m hm=>hc m (lc _ hm)]
  have hcons:ue r (n::ns)=((!(n.Tag==2)||zm r n.Col)&&ue r ns):=rfl
  rw [hcons]
  by_cases ht:n.Tag=2
  ·have h0:=hc n (lb ..) ht
   have e0:(n.Tag==2)=true:=by simp [ht]
   rw [e0,bk rfl]
   by_cases h:(r.length:Int)≤n.Col
   ·have hb:zm r n.Col=false:=by unfold zm;rw [Bool.and_eq_false_iff];left;simp;omega
    simp [h,hb,zV]
   ·have hlt:n.Col.toNat<r.length:=by omega
    have e1:de r n.Col=some r[n.Col.toNat]:=by rw [iA n.Col.toNat (by omega),ph hlt]
    have hb:zm r n.Col=mP r[n.Col.toNat]:=by
     unfold zm
     rw [ph hlt]
     have:decide (n.Col<(r.length:Int))=true:=by simp;omega
     rw [this];rfl
    rw [bk (by simpa using h),e1,hb]
    simp only [bu,jD]
    cases mP r[n.Col.toNat]<;>simp [zV]
  ·have e0:(n.Tag==2)=false:=by simp [ht]
   rw [e0]
   simp
theorem Gg(e:bS)(r:List ac)(he:Jm e.Nodes)(hr:T8 r):wv e r=some (oU r e.Nodes):=by
 unfold wv oU
 rw [tL e,bu]
 cases ht:mJ e.Nodes with
 |none=>
  have:jd e.Nodes=false:=by unfold jd;rw [ht];rfl
  rw [this,bk (by decide)];rfl
 |some t=>
  have:jd e.Nodes=true:=by unfold jd;rw [ht];rfl
  rw [this,aX (by decide)]
  obtain⟨hw,hN,hs⟩:=kz ht
  rw [zQ e r _ e.Nodes (fun n hn h2=>(Ej hw 0 (by rw [←hN];exact hn) h2).1)]
  cases hc:ue r e.Nodes with
  |false=>rfl
  |true=>
   simp only [fM]
   have hct:=wN hr t hw 0 (by rw [←hN];exact hc)
   have hrt:=A5 t 0 (by rw [←hN];exact he)
   have h:=PW r zV t hw hrt hct [] [] (by simp;omega)
   rw [tu,pZ,←hN]at h
   rcases h with⟨_,h2⟩|⟨h1,w,h2,h3⟩
   ·exact h2
   ·have h4:c0 r e.Nodes [] zV=some (ev r t):=by
     rw [h3]
     unfold c0
     rw [k7,iA w.length (by rw [cL (by simp<;>omega) (by simp<;>omega)];simp),uX (dY _),zT]
     show some ((ev r t).1,(0:Int))=_
     rw [←h1]
    exact h4

theorem BE(h:m<79228162514264337593543950336):j9 m=[((m%4294967296:Nat):Int),((m/4294967296%4294967296:Nat):Int),((m/18446744073709551616:Nat):Int),0,0,0,0,0]:=by
 unfold j9
 rw [CS (show m/18446744073709551616<4294967296 by omega),Nat.div_eq_of_lt h]
 rfl
theorem Td(P Q c:Nat)(h:c≤1):(P+Q+c)/4294967296=P/4294967296+Q/4294967296+(P%4294967296+Q%4294967296+c)/4294967296∧(P+Q+c)%4294967296=(P%4294967296+Q%4294967296+c)%4294967296:=by omega
theorem Pr(P Q c:Nat)(h:Q+c≤P)(hc:c≤1):(P-Q-c)/4294967296=P/4294967296-Q/4294967296-(1-(P%4294967296+4294967296-Q%4294967296-c)/4294967296)∧(P-Q-c)%4294967296=(P%4294967296+4294967296-Q%4294967296-c)%4294967296∧Q/4294967296+(1-(P%4294967296+4294967296-Q%4294967296-c)/4294967296)≤P/4294967296∧1-(P%4294967296+4294967296-Q%4294967296-c)/4294967296≤1:=by omega
theorem acG(P Q c:Nat)(h:Q+c≤P)(hc:c≤1)(hP:P<2147483648):(P+4294967296-Q-c)%4294967296=P-Q-c:=by omega
variable{l:List cU}
theorem Yi(hp:p<39614081257132168796771975168)(hq:q<39614081257132168796771975168)(s:Bool):gZ ⟨j9 p,s⟩ ⟨j9 q,s⟩=some ⟨j9 (p+q),s&&decide (p+q≠0)⟩:=by
 have dp:p/4294967296/4294967296=p/18446744073709551616:=by rw [Jp]
 have dq:q/4294967296/4294967296=q/18446744073709551616:=by rw [Jp]
 have ds:(p+q)/4294967296/4294967296=(p+q)/18446744073709551616:=by rw [Jp]
 have hd:j9 (p+q)=[(((p%4294967296+q%4294967296+0)%4294967296:Nat):Int),(((p/4294967296%4294967296+q/4294967296%4294967296+(p%4294967296+q%4294967296+0)/4294967296)%4294967296:Nat):Int),(((p/18446744073709551616+q/18446744073709551616+(p/4294967296%4294967296+q/4294967296%4294967296+(p%4294967296+q%4294967296+0)/4294967296)/4294967296)%4294967296:Nat):Int),0,0,0,0,0]:=by
  rw [BE (by omega)]
  have b1:p/18446744073709551616<2147483648:=by omega
  have b2:q/18446744073709551616<2147483648:=by omega
  obtain⟨e1,e0⟩:=Td p q 0 (by decide)
  rw [y9]at e1 e0
  rw [←ds,e1,e0,←dp,←dq]
  rw [←dp]at b1
  rw [←dq]at b2
  obtain⟨e2,e3⟩:=Td (p/4294967296) (q/4294967296) ((p%4294967296+q%4294967296+0)/4294967296) (by clear ds dp dq e1 e0;omega)
  rw [e2,e3]
  have l:=Nat.div_le_div_right (c:=4294967296) (show p/4294967296%4294967296+q/4294967296%4294967296+(p%4294967296+q%4294967296+0)/4294967296≤8589934591 by omega)
  rw [show 8589934591/4294967296=1 from rfl]at l
  have ll:=Nat.add_le_add (Nat.add_le_add (Nat.le_of_lt_succ b1) (Nat.le_of_lt_succ b2)) l
  rw [CS (Nat.lt_of_le_of_lt ll (by decide))]
 have sI:=hd
 rw [BE (m:=p) (by omega),BE (m:=q) (by omega)]
 unfold gZ
 generalize hp0:p%4294967296=p0 at sI ⊢
 generalize hp1:p/4294967296%4294967296=p1 at sI ⊢
 generalize hp2:p/18446744073709551616=p2 at sI ⊢
 generalize hq0:q%4294967296=q0 at sI ⊢
 generalize hq1:q/4294967296%4294967296=q1 at sI ⊢
 generalize hq2:q/18446744073709551616=q2 at sI ⊢
 have c1:(p0+q0+0)/4294967296≤1:=by omega
 generalize hc:(p0+q0+0)/4294967296=c at sI c1 ⊢
 have c2:(p1+q1+c)/4294967296≤1:=by omega
 generalize hcc:(p1+q1+c)/4294967296=cc at sI c2 ⊢
 have c3:(p2+q2+cc)/4294967296=0:=by omega
 rw [show((0:Int))=((0:Nat):Int)from rfl]
 rw [iR _ _ _ s s 7 0 (by omega) p0 q0 0 rfl rfl (by omega) (by omega) (by omega),hc]
 rw [iR _ _ _ s s 6 1 (by omega) p1 q1 c rfl rfl (by omega) (by omega) (by omega),hcc]
 rw [iR _ _ _ s s 5 2 (by omega) p2 q2 cc rfl rfl (by omega) (by omega) (by omega),c3]
 rw [iR _ _ _ s s 4 3 (by omega) 0 0 0 rfl rfl (by omega) (by omega) (by omega)]
 rw [show(0+0+0)/4294967296=0 from rfl]
 rw [iR _ _ _ s s 3 4 (by omega) 0 0 0 rfl rfl (by omega) (by omega) (by omega)]
 rw [show(0+0+0)/4294967296=0 from rfl]
 rw [iR _ _ _ s s 2 5 (by omega) 0 0 0 rfl rfl (by omega) (by omega) (by omega)]
 rw [show(0+0+0)/4294967296=0 from rfl]
 rw [iR _ _ _ s s 1 6 (by omega) 0 0 0 rfl rfl (by omega) (by omega) (by omega)]
 rw [show(0+0+0)/4294967296=0 from rfl]
 rw [iR _ _ _ s s 0 7 (by omega) 0 0 0 rfl rfl (by omega) (by omega) (by omega)]
 have he:=A9 ⟨[(p0:Int),(p1:Int),(p2:Int),0,0,0,0,0],s⟩ ⟨[(q0:Int),(q1:Int),(q2:Int),0,0,0,0,0],s⟩ (7+1) (((0+0+0)/4294967296:Nat):Int) (p+q) (by omega) s
 rw [sI]at he
 rw [sI]
 exact he
theorem Rw(hp:p<39614081257132168796771975168)(hq:q≤p)(s u:Bool)(hsu:(s==u)=false):gZ ⟨j9 p,s⟩ ⟨j9 q,u⟩=some ⟨j9 (p-q),s&&decide (p-q≠0)⟩:=by
 have dp:p/4294967296/4294967296=p/18446744073709551616:=by rw [Jp]
 have dq:q/4294967296/4294967296=q/18446744073709551616:=by rw [Jp]
 have ds:(p-q)/4294967296/4294967296=(p-q)/18446744073709551616:=by rw [Jp]
 have hd:j9 (p-q)=[(((p%4294967296+4294967296-q%4294967296-0)%4294967296:Nat):Int),(((p/4294967296%4294967296+4294967296-q/4294967296%4294967296-(1-(p%4294967296+4294967296-q%4294967296-0)/4294967296))%4294967296:Nat):Int),(((p/18446744073709551616+4294967296-q/18446744073709551616-(1-(p/4294967296%4294967296+4294967296-q/4294967296%4294967296-(1-(p%4294967296+4294967296-q%4294967296-0)/4294967296))/4294967296))%4294967296:Nat):Int),0,0,0,0,0]:=by
  rw [BE (by omega)]
  have b1:p/18446744073709551616<2147483648:=by omega
  obtain⟨e1,e0,le,l1⟩:=Pr p q 0 hq (by decide)
  rw [Nat.sub_zero]at e1 e0
  rw [←ds,e1,e0,←dp,←dq]
  rw [←dp]at b1
  obtain⟨e2,e3,le2,l2⟩:=Pr (p/4294967296) (q/4294967296) (1-(p%4294967296+4294967296-q%4294967296-0)/4294967296) le l1
  rw [e2,e3]
  rw [acG _ _ _ le2 l2 b1]
 have sI:=hd
 rw [BE (m:=p) (by omega),BE (m:=q) (by omega)]
 unfold gZ
 have hge:(p/18446744073709551616+4294967296-q/18446744073709551616-(1-(p/4294967296%4294967296+4294967296-q/4294967296%4294967296-(1-(p%4294967296+4294967296-q%4294967296-0)/4294967296))/4294967296))/4294967296=1:=by omega
 generalize hp0:p%4294967296=p0 at sI hge ⊢
 generalize hp1:p/4294967296%4294967296=p1 at sI hge ⊢
 generalize hp2:p/18446744073709551616=p2 at sI hge ⊢
 generalize hq0:q%4294967296=q0 at sI hge ⊢
 generalize hq1:q/4294967296%4294967296=q1 at sI hge ⊢
 generalize hq2:q/18446744073709551616=q2 at sI hge ⊢
 have c1:1-(p0+4294967296-q0-0)/4294967296≤1:=by omega
 generalize hc:1-(p0+4294967296-q0-0)/4294967296=c at sI hge c1 ⊢
 have c2:1-(p1+4294967296-q1-c)/4294967296≤1:=by omega
 generalize hcc:1-(p1+4294967296-q1-c)/4294967296=cc at sI hge c2 ⊢
 rw [show((0:Int))=((0:Nat):Int)from rfl]
 rw [iS _ _ _ s u s hsu 7 0 (by omega) p0 q0 0 rfl rfl (by omega) (by omega) (by omega),hc]
 rw [iS _ _ _ s u s hsu 6 1 (by omega) p1 q1 c rfl rfl (by omega) (by omega) (by omega),hcc]
 rw [iS _ _ _ s u s hsu 5 2 (by omega) p2 q2 cc rfl rfl (by omega) (by omega) (by omega),hge]
 rw [show 1-1=0 from rfl]
 rw [iS _ _ _ s u s hsu 4 3 (by omega) 0 0 0 rfl rfl (by omega) (by omega) (by omega)]
 rw [show 1-(0+4294967296-0-0)/4294967296=0 from rfl]
 rw [iS _ _ _ s u s hsu 3 4 (by omega) 0 0 0 rfl rfl (by omega) (by omega) (by omega)]
 rw [show 1-(0+4294967296-0-0)/4294967296=0 from rfl]
 rw [iS _ _ _ s u s hsu 2 5 (by omega) 0 0 0 rfl rfl (by omega) (by omega) (by omega)]
 rw [show 1-(0+4294967296-0-0)/4294967296=0 from rfl]
 rw [iS _ _ _ s u s hsu 1 6 (by omega) 0 0 0 rfl rfl (by omega) (by omega) (by omega)]
 rw [show 1-(0+4294967296-0-0)/4294967296=0 from rfl]
 rw [iS _ _ _ s u s hsu 0 7 (by omega) 0 0 0 rfl rfl (by omega) (by omega) (by omega)]
 have he:=A9 ⟨[(p0:Int),(p1:Int),(p2:Int),0,0,0,0,0],s⟩ ⟨[(q0:Int),(q1:Int),(q2:Int),0,0,0,0,0],u⟩ (7+1) ((1-(0+4294967296-0-0)/4294967296:Nat):Int) (p-q) (by omega) s
 rw [sI]at he
 rw [sI]
 exact he
theorem Z3(hp:p<39614081257132168796771975168)(hq:q<39614081257132168796771975168)(s t:Bool):qY ⟨j9 p,s⟩ ⟨j9 q,t⟩=some (decide (p<q)):=by
 rw [BE (m:=p) (by omega),BE (m:=q) (by omega)]
 unfold qY
 obtain⟨f,hf⟩: ∃f,ir=f+9:=⟨ir-9,by have:=mR (n:=9) (by omega);omega⟩
 rw [hf]
 rw [show(7:Int)=((7:Nat):Int)from rfl,iT _ _ s t (f+8) 7 (by omega) 0 0 rfl rfl,bk rfl]
 rw [show((7:Nat):Int)-1=((6:Nat):Int)from rfl,iT _ _ s t (f+7) 6 (by omega) 0 0 rfl rfl,bk rfl]
 rw [show((6:Nat):Int)-1=((5:Nat):Int)from rfl,iT _ _ s t (f+6) 5 (by omega) 0 0 rfl rfl,bk rfl]
 rw [show((5:Nat):Int)-1=((4:Nat):Int)from rfl,iT _ _ s t (f+5) 4 (by omega) 0 0 rfl rfl,bk rfl]
 rw [show((4:Nat):Int)-1=((3:Nat):Int)from rfl,iT _ _ s t (f+4) 3 (by omega) 0 0 rfl rfl,bk rfl]
 rw [show((3:Nat):Int)-1=((2:Nat):Int)from rfl,iT _ _ s t (f+3) 2 (by omega) _ _ rfl rfl]
 by_cases h2:((p/18446744073709551616:Nat):Int)=((q/18446744073709551616:Nat):Int)
 ·rw [bk h2,show((2:Nat):Int)-1=((1:Nat):Int)from rfl,iT _ _ s t (f+2) 1 (by omega) _ _ rfl rfl]
  by_cases h1:((p/4294967296%4294967296:Nat):Int)=((q/4294967296%4294967296:Nat):Int)
  ·rw [bk h1,show((1:Nat):Int)-1=((0:Nat):Int)from rfl,iT _ _ s t (f+1) 0 (by omega) _ _ rfl rfl]
   by_cases h0:((p%4294967296:Nat):Int)=((q%4294967296:Nat):Int)
   ·rw [bk h0]
    unfold kE
    rw [aX (by decide)]
    congr 1
    symm
    rw [FZ];omega
   ·rw [aX h0]
    congr 1
    apply kg
    simp only [lX];omega
  ·rw [aX h1]
   congr 1
   apply kg
   simp only [lX];omega
 ·rw [aX h2]
  congr 1
  apply kg
  simp only [lX];omega
theorem To(hx:x.natAbs<39614081257132168796771975168)(hy:y.natAbs<39614081257132168796771975168):lN (lS x) (lS y)=some (lS (x+y)):=by
 unfold lN lS
 rw [Z3 hx hy]
 simp only [bu]
 by_cases h:(decide (x<0)==decide (y<0))=true
 ·have hs:decide (y<0)=decide (x<0):=(eq_of_beq h).symm
  have hne:(decide (x<0) !=decide (y<0))=false:=by rw [hs];simp
  rw [hne]
  simp only [gL,eT,bu]
  rw [hs,Yi hx hy]
  congr 2
  ·congr 1
   have:(decide (x<0)=true↔decide (y<0)=true):=by rw [hs]
   simp only [lX]at this
   omega
  ·apply kg
   have:(decide (x<0)=true↔decide (y<0)=true):=by rw [hs]
   simp only [lX]at this
   simp only [mz,lX]
   omega
 ·have hb:(decide (x<0)==decide (y<0))=false:=by simpa using h
  have hne:(decide (x<0) !=decide (y<0))=true:=by simp only [bne,hb];rfl
  rw [hne]
  simp only [fM,bu]
  have hxy: ¬(x<0↔y<0):=by
   intro hi
   have:decide (x<0)=decide (y<0):=by simp only [CO];exact hi
   rw [this]at hb;simp at hb
  by_cases hlt:x.natAbs<y.natAbs
  ·rw [bk (by simpa using hlt)]
   have hb' :(decide (y<0)==decide (x<0))=false:=by
    cases q1:decide (x<0)<;>cases q2:decide (y<0)<;>simp_all
   rw [Rw hy (by omega) _ _ hb']
   congr 2
   ·congr 1;omega
   ·apply kg
    simp only [mz,lX]
    omega
  ·rw [aX (by simpa using hlt)]
   rw [Rw hx (by omega) _ _ hb]
   congr 2
   ·congr 1;omega
   ·apply kg
    simp only [mz,lX]
    omega
def pr(z:Int):ac:=⟨4,z/18446744073709551616,z%18446744073709551616,[]⟩
def Bd(z:Int):Prop:=z.natAbs<1208925819614629174706176
theorem Hx(m:Nat)(h:m<79228162514264337593543950336)(b:Bool):mE ((m/18446744073709551616:Nat):Int) ((m%18446744073709551616:Nat):Int) ⟨List.replicate 8 0,b⟩=some ⟨j9 m,b⟩:=by
 rw [BE h]
 unfold mE
 rw [El,wY,El,wY]
 have e1:m%18446744073709551616%4294967296=m%4294967296:=by omega
 have e2:m%18446744073709551616/4294967296=m/4294967296%4294967296:=by omega
 have e3:m/18446744073709551616%4294967296=m/18446744073709551616:=by omega
 have e4:m/18446744073709551616/4294967296=0:=by omega
 rw [e1,e2,e3,e4]
 rfl
theorem Tp(h:Bd z):qm (pr z).N (pr z).U=some (lS z):=by
 unfold Bd at h
 unfold qm pr lS
 simp only []
 by_cases hz:z<0
 ·rw [bk (by rw [lX];omega),zb hz]
  obtain⟨u,hu⟩:=Ea (show 0≤z%18446744073709551616 by omega)
  have hul:u<18446744073709551616:=by omega
  have hn:IntKind.u64.wrap (z/18446744073709551616)=((18446744073709551616-(-(z/18446744073709551616)).toNat:Nat):Int):=by rw [ur];omega
  rw [hu,yk hul,hn,yk (by omega)]
  have elow:IntKind.u64.wrap (((18446744073709551615-u:Nat):Int)+1)=((z.natAbs%18446744073709551616:Nat):Int):=by rw [ur];omega
  rw [elow]
  have:=Hx z.natAbs (by omega) true
  by_cases hl:z.natAbs%18446744073709551616=0
  ·rw [bk (by rw [hl];rfl)]
   have ehigh:IntKind.u64.wrap (((18446744073709551615-(18446744073709551616-(-(z/18446744073709551616)).toNat):Nat):Int)+1)=((z.natAbs/18446744073709551616:Nat):Int):=by rw [ur];omega
   rw [ehigh]
   exact this
  ·rw [aX (by rw [tt];omega)]
   have ehigh:((18446744073709551615-(18446744073709551616-(-(z/18446744073709551616)).toNat):Nat):Int)=((z.natAbs/18446744073709551616:Nat):Int):=by omega
   rw [ehigh]
   exact this
 ·rw [aX (by rw [lX];omega),zc hz]
  have e1:z%18446744073709551616=((z.natAbs%18446744073709551616:Nat):Int):=by omega
  have e2:IntKind.u64.wrap (z/18446744073709551616)=((z.natAbs/18446744073709551616:Nat):Int):=by rw [ur];omega
  rw [e1,e2]
  exact Hx z.natAbs (by omega) false
theorem N4(h:Bd z):vy (lS z)=some (pr z,0):=by
 unfold Bd at h
 unfold vy tN lS pr
 generalize hm:z.natAbs=m at h ⊢
 have i3:de (j9 m) 3=some ((m/79228162514264337593543950336%4294967296:Nat):Int):=rfl
 have i2:de (j9 m) 2=some ((m/18446744073709551616%4294967296:Nat):Int):=rfl
 have i1:de (j9 m) 1=some ((m/4294967296%4294967296:Nat):Int):=rfl
 have i0:de (j9 m) 0=some ((m%4294967296:Nat):Int):=rfl
 simp only [i3,i2,i1,i0,bu]
 rw [FM]
 unfold fa
 rw [yB _ _ (vj _ (by decide)) (vj _ (by decide)),yB _ _ (vj _ (by decide)) (vj _ (by decide))]
 have hhi:m/79228162514264337593543950336%4294967296*4294967296+m/18446744073709551616%4294967296=m/18446744073709551616:=by omega
 have hlo:m/4294967296%4294967296*4294967296+m%4294967296=m%18446744073709551616:=by
  have:=Nat.mod_mul (x:=m) (a:=4294967296) (b:=4294967296)
  rw [show 4294967296*4294967296=18446744073709551616 from rfl]at this
  rw [this,Nat.mul_comm,Nat.add_comm]
 rw [hhi,hlo]
 have bhi:m/18446744073709551616<18446744073709551616:=by omega
 have blo:m%18446744073709551616<18446744073709551616:=vj _ (by decide)
 by_cases hz:z<0
 ·rw [bk (by simpa using hz),yk blo,yk bhi]
  have ew:IntKind.u64.wrap (((18446744073709551615-m%18446744073709551616:Nat):Int)+1)=z%18446744073709551616:=by rw [ur];omega
  rw [ew]
  unfold kF
  simp only [hz,CM]
  by_cases hl0:z%18446744073709551616=0
  ·rw [bk (by rw [hl0];rfl)]
   have eh:IntKind.i64.wrap (IntKind.u64.wrap (((18446744073709551615-m/18446744073709551616:Nat):Int)+1))=z/18446744073709551616:=by rw [v6,ur];omega
   rw [eh,zb (show z/18446744073709551616<0 by omega)]
   rfl
  ·rw [aX (by simpa using hl0)]
   have eh:IntKind.i64.wrap ((18446744073709551615-m/18446744073709551616:Nat):Int)=z/18446744073709551616:=by rw [v6];omega
   rw [eh,zb (show z/18446744073709551616<0 by omega)]
   rfl
 ·rw [aX (by simpa using hz)]
  unfold kF
  simp only [hz,decide_false]
  have eh:IntKind.i64.wrap ((m/18446744073709551616:Nat):Int)=z/18446744073709551616:=by rw [v6];omega
  have el:((m%18446744073709551616:Nat):Int)=z%18446744073709551616:=by omega
  rw [eh,el,zc (show¬z/18446744073709551616<0 by omega)]
  rfl
theorem yH(z:Int):fG (pr z)=true:=by unfold fG dw pr;rfl
theorem Gd(h:fG v=true)(hk:v.Kind=2)(hr:r64 v.N):qZ zV v=some (pr v.N,0):=by
 unfold qZ pP n7
 have hz:fG zV=true:=rfl
 simp only [fI,h,hz,bu,nh,xw,fM,gL,eT,vg]
 have e1:(zV.Kind==0)=true:=rfl
 have e2:(v.Kind==0)=false:=by rw [hk];rfl
 have e3:(v.Kind==2)=true:=by rw [hk];rfl
 simp only [e1,e2,e3,Bool.true_or,Bool.or_true,nh,gL,eT,fM]
 have hs:Bd v.N:=by unfold r64 at hr;unfold Bd;omega
 rw [jA hr,bu,N4 hs]
 rfl
theorem Ia(h:fG v=true)(hk:v.Kind=2)(hr:r64 v.N)(hz:Bd z)(hz2:Bd (z+v.N)):qZ (pr z) v=some (pr (z+v.N),0):=by
 unfold qZ pP n7
 simp only [fI,h,yH,bu,nh,xw,fM,gL,eT,vg]
 have e1:((pr z).Kind==0)=false:=rfl
 have e4:((pr z).Kind==4)=true:=rfl
 have e2:(v.Kind==0)=false:=by rw [hk];rfl
 have e3:(v.Kind==2)=true:=by rw [hk];rfl
 simp only [e1,e2,e3,e4,Bool.or_true,nh,gL,eT,fM]
 have hx:z.natAbs<39614081257132168796771975168:=by unfold Bd at hz;omega
 have hy:v.N.natAbs<39614081257132168796771975168:=by unfold r64 at hr;omega
 rw [jA hr,Tp hz,bu,bu,To hx hy,bu,N4 hz2]
 rfl
theorem Kd(h:Bd z):td (pr z)=some (if r64 z then(iV z,0)else(zV,140)):=by
 unfold td pP
 simp only [fI,yH,bu,nh,gL,eT,vg]
 have e1:((pr z).Kind==0)=false:=rfl
 have e4:((pr z).Kind==4)=true:=rfl
 simp only [e1,e4,Bool.or_true,nh,gL,eT]
 obtain⟨n,h1,h2⟩:=LC (z:=z) (by unfold Bd at h;omega)
 rw [Tp h,bu,h1,bu]
 by_cases hr:r64 z
 ·rw [bk hr,zb hr,aX (by simp),h2 hr]
  rfl
 ·rw [aX hr,zc hr]
  rfl
theorem Ib:td zV=some (zV,0):=rfl
theorem Fx{kind:Int}(h:fG v=true)(hk:v.Kind=0∨v.Kind=kind):pV kind [v]=some 0:=by
 unfold pV kw kw
 rw [nU,h]
 simp only [fM,bu]
 rw [aX (by decide),aX]
 simp
 omega
theorem HS(hr:r64 v.N):rq v=some (pr v.N):=by
 unfold r64 at hr
 unfold rq pr
 have e:(2:Int)^(min (Int.toNat (63:Int)) IntKind.i64.bits)=9223372036854775808:=by decide
 rw [e,ur]
 congr 2
 rw [Int.fdiv_eq_ediv_of_nonneg _ (by decide)]
 omega
theorem Rv(hx:Bd x)(hy:Bd y)(hs:Bd (x+y)):wP (pr x) (pr y)=some (pr (x+y),0):=by
 unfold Bd at hx hy hs
 unfold wP pr LA
 simp only []
 rw [bk (by omega),bu]
 simp only []
 rw [bk (by rw [ur,ur];omega),bu]
 simp only []
 have eh:IntKind.i64.wrap ((IntKind.u64.wrap (x/18446744073709551616)+IntKind.u64.wrap (y/18446744073709551616)+(x%18446744073709551616+y%18446744073709551616+0)/18446744073709551616)%18446744073709551616)=(x+y)/18446744073709551616:=by
  rw [v6,ur,ur]
  omega
 rw [eh]
 have rx:r64 (x/18446744073709551616):=by unfold r64;omega
 have ry:r64 (y/18446744073709551616):=by unfold r64;omega
 have rs:r64 ((x+y)/18446744073709551616):=by unfold r64;omega
 obtain⟨a1,a2⟩:=yr rx rs
 obtain⟨b1,b2⟩:=yr ry rs
 rw [Jf a2 b2,a1,b1]
 have hno:((decide (x/18446744073709551616<0) !=decide ((x+y)/18446744073709551616<0))&&(decide (y/18446744073709551616<0) !=decide ((x+y)/18446744073709551616<0)))=false:=by
  rw [sL]
  intro h
  simp only [mz,rM,pG,CO]at h
  omega
 have el:(x%18446744073709551616+y%18446744073709551616+0)%18446744073709551616=(x+y)%18446744073709551616:=by omega
 rw [hno,aX (by simp),el]
theorem QH(h:fG v=true)(hk:v.Kind=2)(hr:r64 v.N):tp zV v=some (pr v.N,0):=by
 unfold tp
 rw [Fx (v:=zV) rfl (.inl rfl),Fx h (.inr hk),bu,bu,aX (by decide),aX (by decide),aX (by rw [hk];decide),bk (by rfl),HS hr]
 rfl
theorem Tm(h:fG v=true)(hk:v.Kind=2)(hr:r64 v.N)(hz:Bd z)(hz2:Bd (z+v.N)):tp (pr z) v=some (pr (z+v.N),0):=by
 unfold tp
 have hs:Bd v.N:=by unfold r64 at hr;unfold Bd;omega
 rw [Fx (kind:=4) (yH z) (.inr rfl),Fx h (.inr hk),bu,bu,aX (by decide),aX (by decide),aX (by rw [hk];decide),aX (by show¬((4:Int)==0)=true;decide),HS hr,bu,Rv hz hs hz2]
 rfl
theorem WG(h:Bd z):yZ (pr z)=some (if r64 z then(iV z,0)else(zV,140)):=by
 unfold Bd at h
 unfold yZ
 rw [Fx (kind:=4) (yH z) (.inr rfl),bu,aX (by decide),aX (by show¬((4:Int)==0)=true;decide)]
 have e:oA (IntKind.i64.wrap (pr z).U)=some (iV (IntKind.i64.wrap (z%18446744073709551616))):=rfl
 have hw:r64 (IntKind.i64.wrap (z%18446744073709551616)):=o0 _
 rw [e,bu,HS (v:=iV (IntKind.i64.wrap (z%18446744073709551616))) hw,bu]
 by_cases hr:r64 z
 ·have:IntKind.i64.wrap (z%18446744073709551616)=z:=by unfold r64 at hr;rw [v6];omega
  rw [bk hr,this,bk (by simp [iV])]
 ·rw [aX hr,aX]
  ·rfl
  ·intro hh
   have hh:=Jv hh
   unfold pr iV at hh
   simp only [ac.mk.injEq,true_and,and_true]at hh
   refine hr ?_
   have h1:=hh.1
   unfold r64 at hw ⊢
   generalize IntKind.i64.wrap (z%18446744073709551616)=w at hh hw h1
   omega

theorem zS{a b:cU}(ha:hU a=true)(hb:hU b=true):pN a b=some (fe a b):=by rw [EI,ha,hb];rfl

theorem yV{r:List ac}{ns:List bC}(he:Jm ns)(hr:T8 r):((oU r ns).2=0∧Pl (oU r ns).1)∨((oU r ns).2≠0∧(oU r ns).2≠140∧(oU r ns).1=zV)∨oU r ns=(zV,140):=by
 unfold oU
 cases ht:mJ ns with
 |none=>right;left;exact⟨show(200:Int)≠0 by decide,show(200:Int)≠140 by decide,rfl⟩
 |some t=>
  obtain⟨hw,hN,hs⟩:=kz ht
  simp only []
  by_cases hc:ue r ns=true
  ·rw [bk hc]
   have hrt:TE t:=A5 t 0 (by rw [←hN];exact he)
   have hcv:yl r t:=wN hr t hw 0 (by rw [←hN];exact hc)
   rcases nr r t hw hrt hcv with h|h|h
   ·exact .inl h
   ·rw [h];right;left;decide
   ·exact .inr (.inr h)
  ·rw [aX hc];right;left;decide
def Bx(ns:List bC)(rows:List cU):List ac:=rows.filterMap fun r=>if(oU r ns).2=0∧(oU r ns).1.Kind≠0 then some (oU r ns).1 else none
def DC(ns:List bC)(rows:List cU):Bool:=rows.any fun r=>(oU r ns).2 !=0&&(oU r ns).2 !=140
def Dy(ns:List bC)(rows:List cU):Bool:=rows.any fun r=>(oU r ns).2==140
def sF(tag:Int)(vs:List ac):Bool:=tag==3&&vs.any fun v=>v.Kind !=2
def Dw(rows:List cU):Prop:= ∀r∈rows,T8 r
theorem Fn(ns:List bC)(r:cU)(t:List cU):Bx ns (r::t)=if(oU r ns).2=0∧(oU r ns).1.Kind≠0 then(oU r ns).1::Bx ns t else Bx ns t:=by
 unfold Bx
 rw [List.filterMap_cons]
 split
 ·split
  ·rename_i h;rw [bk (by simpa using h)]at*;simp_all
  ·rfl
 ·rename_i h;split
  ·rename_i h2;rw [bk h2]at h;simp at h;rw [h]
  ·rename_i h2;rw [aX h2]at h;simp at h
variable{rows:List cU}
theorem I8{ns:List bC}(he:Jm ns): ∀{rows:List cU},Dw rows→ ∀v∈Bx ns rows,Pl v
 |[],_,v,hv=>by simp [Bx]at hv
 |r::t,hr,v,hv=>by
  rw [Fn]at hv
  have ht:Dw t:=fun x hx=>hr x (lc _ hx)
  split at hv
  ·rename_i h
   rcases gk.1 hv with hv|hv
   ·subst hv
    rcases yV he (hr r (lb ..))with q|q|q
    ·exact q.2
    ·exact absurd h.1 q.1
    ·rw [q]at h;exact absurd h.1 (by decide)
   ·exact I8 he ht v hv
  ·exact I8 he ht v hv
theorem O9(ns:List bC)(rows:List cU):(Bx ns rows).length≤rows.length:=List.length_filterMap_le ..
theorem D2(a:gv)(hl:a.Arg.Nodes.length≤50000)(he:Jm a.Arg.Nodes): ∀(rows:List cU) (out:List ac) (fault:Int),Dw rows→out.length+rows.length≤1000000→jJ a rows out fault=some (if DC a.Arg.Nodes rows then([],2)else(out++Bx a.Arg.Nodes rows,if Dy a.Arg.Nodes rows then 140 else fault))
 |[],out,fault,_,_=>by
  unfold jJ DC Dy Bx
  simp
 |r::t,out,fault,hr,hk=>by
  have ht:Dw t:=fun x hx=>hr x (lc _ hx)
  rw [jf]at hk
  unfold jJ
  rw [wI a.Arg r hl he (hr r (lb ..)),bu,Fn]
  have eb:DC a.Arg.Nodes (r::t)=(((oU r a.Arg.Nodes).2 !=0&&(oU r a.Arg.Nodes).2 !=140)||DC a.Arg.Nodes t):=rfl
  have ef:Dy a.Arg.Nodes (r::t)=(((oU r a.Arg.Nodes).2==140)||Dy a.Arg.Nodes t):=rfl
  rw [eb,ef]
  rcases yV he (hr r (lb ..))with q|q|q
  ·rw [q.1]
   simp only [Int.reduceBEq,gL,eT,Int.reduceBNe,CP,sy,true_and]
   by_cases hk0:(oU r a.Arg.Nodes).1.Kind=0
   ·rw [aX (by simp [hk0]),D2 a hl he t out fault ht (by omega)]
    simp only [hk0,pG,Jr,eT]
   ·rw [bk (by simpa using hk0),bk hk0,cJ (by simp only [zX];omega),bu,D2 a hl he t _ fault ht (by simp only [jx,zX];omega)]
    simp only [jO,GG]
  ·rw [aX (by simpa using q.2.1),bk (by simpa using q.1)]
   have:((oU r a.Arg.Nodes).2 !=0&&(oU r a.Arg.Nodes).2 !=140)=true:=by simp [q.1,q.2.1]
   rw [this];simp
  ·rw [q]
   simp only [GB,fM,D2 a hl he t out 140 ht (by omega),Int.reduceBNe,Bool.and_false,sy,Bool.true_or]
   rw [aX (by decide: ¬((140:Int)=0∧_))]
   simp
def qV:List ac→Int
 |[]=>0
 |v::t=>v.N+qV t
def pick(tag:Int)(b v:ac):ac:=if tag=4∧val v b<0∨tag=5∧0<val v b then v else b
def vQ(tag:Int):List ac→ac
 |[]=>zV
 |v::t=>t.foldl (pick tag) v
def Rh(vs:List ac):ac×Int:=if vs=[]then(zV,0)else if r64 (qV vs)then(iV (qV vs),0)else(zV,140)
def Sf(tag:Int)(vs:List ac)(fault:Int):ac×Int:=
 if fault≠0 then(zV,fault)else if tag=2 then(iV (vs.length:Int),0)else if tag=3 then Rh vs else(vQ tag vs,0)
def wR(a:gv)(rows:List cU):ac×Int:=
 if a.Tag=1 then(iV (rows.length:Int),0)else if DC a.Arg.Nodes rows||sF a.Tag (Bx a.Arg.Nodes rows)then(zV,2)else Sf a.Tag (Bx a.Arg.Nodes rows) (if Dy a.Arg.Nodes rows then 140 else 0)
theorem JQ(p q:List ac):qV (p++q)=qV p+qV q:=by
 induction p with
 |nil=>simp [qV]
 |cons v t ih=>simp only [xo,qV,ih];omega
theorem N5: ∀(p:List ac),(∀v∈p,r64 v.N)→(qV p).natAbs≤p.length*9223372036854775808
 |[],_=>by simp [qV]
 |v::t,h=>by
  have h1:=N5 t fun x hx=>h x (lc _ hx)
  have h2:=h v (lb ..)
  unfold r64 at h2
  simp only [qV,jf]
  omega
theorem HY{p:List ac}(h: ∀v∈p,r64 v.N)(hl:p.length≤100000):Bd (qV p):=by
 have:=N5 p h
 unfold Bd
 omega
theorem Tf(tag:Int)(p:List ac)(v:ac):vQ tag (p++[v])=if p=[]then v else pick tag (vQ tag p) v:=by
 cases p with
 |nil=>rfl
 |cons x t=>simp [vQ]
theorem Te(tag:Int): ∀(p:List ac),p≠[]→vQ tag p∈p
 |[],h=>absurd rfl h
 |v::t,_=>by
  unfold vQ
  have: ∀(t:List ac) (b:ac),t.foldl (pick tag) b∈b::t:=by
   intro t
   induction t with
   |nil=>intro b;simp
   |cons x t ih=>
    intro b
    simp only [List.foldl_cons]
    have:=ih (pick tag b x)
    have hp:pick tag b x=b∨pick tag b x=x:=by unfold pick;split<;>simp
    rcases hp with hp|hp<;>rw [hp]at this ⊢
    ·rcases gk.1 this with h|h
     ·rw [h];simp
     ·exact lc _ (lc _ h)
    ·exact lc _ this
  exact this t v
theorem Fb(l:List ac)(h: ¬sF 3 l=true): ∀v∈l,v.Kind=2:=by
 intro v hv
 unfold sF at h
 simp only [GB,vg,zW,Js]at h
 simpa using h v hv
theorem CI{f:ac→Option Bool}{g:ac→Bool}(hf: ∀v,f v=some (g v))(l:List ac):eC l f=some (l.any g):=by
 have key: ∀(l:List ac) (i:Nat),∃j:Int,dj f l i=some j∧decide (0≤j)=l.any g:=by
  intro l
  induction l with
  |nil=>intro i;exact⟨-1,rfl,rfl⟩
  |cons v t ih=>
   intro i
   unfold dj
   rw [hf,bu,wW]
   by_cases hg:g v=true
   ·rw [bk hg,hg]
    exact⟨(i:Int),rfl,by simp⟩
   ·rw [aX hg,sL.2 hg,sy]
    exact ih (i+1)
 obtain⟨j,h1,h2⟩:=key l 0
 unfold eC gN
 rw [h1]
 simp only [bu]
 rw [←h2]
theorem rn{x y:ac}(hx:fG x=true)(hy:fG y=true):iC x y=some (val x y):=by
 unfold iC
 have h1:hU [x]=true:=by unfold hU;simp [hx]
 have h2:hU [y]=true:=by unfold hU;simp [hy]
 rw [zS h1 h2,bu]
 have:=ZW 0 0 0 0
 unfold fe
 simp only [fe]
 split<;>simp_all
theorem MY: ∀(l:List ac) (m:ac),(∀v∈l,fG v=true)→fG m=true→cQ iC l m=some (l.foldl (pick 4) m)
 |[],m,_,_=>rfl
 |v::t,m,h,hm=>by
  have hv:=h v (lb ..)
  have ht:=fun x hx=>h x (lc v hx)
  unfold cQ
  rw [rn hv hm,bu,List.foldl_cons]
  by_cases hc:val v m<0
  ·rw [bk (by simpa using hc),MY t v ht hv]
   simp [pick,hc]
  ·rw [aX (by simpa using hc),MY t m ht hm]
   simp [pick,hc]
theorem MZ: ∀(l:List ac) (m:ac),(∀v∈l,fG v=true)→fG m=true→cR iC l m=some (l.foldl (pick 5) m)
 |[],m,_,_=>rfl
 |v::t,m,h,hm=>by
  have hv:=h v (lb ..)
  have ht:=fun x hx=>h x (lc v hx)
  unfold cR
  rw [rn hv hm,bu,List.foldl_cons]
  by_cases hc:0<val v m
  ·rw [bk (by simpa using hc),MZ t v ht hv]
   simp [pick,hc]
  ·rw [aX (by simpa using hc),MZ t m ht hm]
   simp [pick,hc]
theorem aab(v:α)(t:List α):de (v::t) (0:Int)=some v:=rfl
theorem Yp{l:List ac}(h: ∀v∈l,fG v=true)(hne:l≠[]):fi l iC=some (vQ 4 l):=by
 cases l with
 |nil=>exact absurd rfl hne
 |cons v t=>
  unfold fi gB
  rw [aX (by rw [jf,lX];omega),aab,bu]
  exact MY t v (fun x hx=>h x (lc v hx)) (h v (lb ..))
theorem Yq{l:List ac}(h: ∀v∈l,fG v=true)(hne:l≠[]):fj l iC=some (vQ 5 l):=by
 cases l with
 |nil=>exact absurd rfl hne
 |cons v t=>
  unfold fj gC
  rw [aX (by rw [jf,lX];omega),aab,bu]
  exact MZ t v (fun x hx=>h x (lc v hx)) (h v (lb ..))
theorem Ti(x:ac): ∀(l:List ac) (z:Int) (n:Nat),(∀v∈l,Pl v∧v.Kind=2)→z.natAbs≤n*9223372036854775808→n+l.length≤100000→na l x (pr z)=some (if r64 (z+qV l)then(iV (z+qV l),0)else(zV,140))
 |[],z,n,_,hz,hn=>by
  have hz2:Bd z:=by unfold Bd;omega
  unfold na
  rw [WG hz2,bu]
  simp only [qV,Int.add_zero]
 |v::t,z,n,h,hz,hn=>by
  rw [jf]at hn
  obtain⟨hv,hk⟩:=h v (lb ..)
  have hr:=hv.r64
  have hb:(z+v.N).natAbs≤(n+1)*9223372036854775808:=by unfold r64 at hr;omega
  unfold na
  rw [Tm hv.right hk hr (z:=z) (by unfold Bd;omega) (by unfold Bd;omega),bu,aX (by show¬((0:Int) !=0)=true;decide)]
  have e:z+qV (v::t)=z+v.N+qV t:=by simp only [qV];omega
  rw [Ti x t (z+v.N) (n+1) (fun y hy=>h y (lc _ hy)) hb (by omega),e]
theorem Je{l:List ac}(h: ∀v∈l,Pl v∧v.Kind=2)(hl:l.length≤90000):y4 l=some (Rh l):=by
 unfold y4
 rw [aX (by simp;omega)]
 have:pm=some zV:=rfl
 rw [this,bu]
 cases l with
 |nil=>rfl
 |cons v t=>
  obtain⟨hv,hk⟩:=h v (lb ..)
  have hr:=hv.r64
  rw [jf]at hl
  unfold na
  rw [QH hv.right hk hr,bu,aX (by show¬((0:Int) !=0)=true;decide)]
  rw [Ti _ t v.N 1 (fun y hy=>h y (lc _ hy)) (by unfold r64 at hr;omega) (by omega)]
  rfl
theorem sJ(a:gv)(hl:a.Arg.Nodes.length≤50000)(he:Jm a.Arg.Nodes)(ht:a.Tag=1∨a.Tag=2∨a.Tag=3∨a.Tag=4∨a.Tag=5)(hr:Dw rows)(hn:rows.length≤90000):kN a rows=some (wR a rows):=by
 unfold kN wR
 by_cases h1:a.Tag=1
 ·rw [bk (by simpa using h1),bk h1];rfl
 ·rw [aX (by simpa using h1),aX h1]
  have e:yi a rows=_:=D2 a hl he rows [] 0 hr (by simp only [pZ];omega)
  rw [e,bu]
  by_cases hb:DC a.Arg.Nodes rows=true
  ·rw [hb];rfl
  ·rw [sL.2 hb]
   simp only [gL,eT,sy,k7]
   rw [aX (by split<;>decide),CI (f:=m4) (g:=fun v=>v.Kind !=2) (fun v=>rfl)]
   have eo:(if(a.Tag==(3:Int))then((some ((Bx a.Arg.Nodes rows).any fun v=>v.Kind !=2)).bind fun r2=>some r2)else some false)=some (sF a.Tag (Bx a.Arg.Nodes rows)):=by
    unfold sF
    cases (a.Tag==(3:Int))<;>rfl
   rw [eo,bu]
   by_cases ho:sF a.Tag (Bx a.Arg.Nodes rows)=true
   ·rw [ho];rfl
   ·rw [sL.2 ho]
    simp only [gL,eT]
    unfold Sf
    have hpl:=I8 he hr
    have hlen:=O9 a.Arg.Nodes rows
    by_cases hf:Dy a.Arg.Nodes rows=true
    ·rw [hf];rfl
    ·rw [sL.2 hf]
     simp only [gL,eT,pG,Jr,zr]
     by_cases h2:a.Tag=2
     ·rw [bk (by simpa using h2),bk h2];rfl
     ·rw [aX (by simpa using h2),aX h2]
      by_cases h3:a.Tag=3
      ·rw [bk (by simpa using h3),bk h3]
       rw [h3]at ho
       rw [Je (fun v hv=>⟨hpl v hv,Fb _ ho v hv⟩) (by omega)]
       rfl
      ·rw [aX (by simpa using h3),aX h3]
       by_cases hz:Bx a.Arg.Nodes rows=[]
       ·rw [hz,bk (by rfl)];rfl
       ·rw [aX (by
         intro hh;apply hz
         have:=eq_of_beq hh
         exact uu (by omega))]
        have hrt: ∀v∈Bx a.Arg.Nodes rows,fG v=true:=fun v hv=>(hpl v hv).right
        by_cases h4:a.Tag=4
        ·rw [bk (by simpa using h4),h4,Yp hrt hz];rfl
        ·have h5:a.Tag=5:=by omega
         rw [aX (by simpa using h4),h5,Yq hrt hz];rfl

def zh(tag:Int)(vs:List ac):ac:=if tag=3∧vs≠[]then pr (qV vs)else zV
theorem KB(tag:Int)(p q:List ac):sF tag (p++q)=(sF tag p||sF tag q):=by
 unfold sF
 rw [Gw]
 cases (tag==3)<;>rfl
theorem T9{vs:List ac}(h: ∀v∈vs,Pl v∧v.Kind=2)(hl:vs.length≤90000):td (zh 3 vs)=some (Rh vs):=by
 unfold zh Rh
 by_cases hv:vs=[]
 ·rw [aX (by simp [hv]),bk hv,Ib]
 ·rw [bk ⟨rfl,hv⟩,aX hv,Kd (HY (fun v hm=>(h v hm).1.r64) (by omega))]
theorem Rg{vs:List ac}(h: ∀v∈vs,Pl v∧v.Kind=2)(hl:vs.length≤90000)(hv:Pl v)(hk:v.Kind=2):qZ (zh 3 vs) v=some (zh 3 (vs++[v]),0):=by
  have e:zh 3 (vs++[v])=pr (qV vs+v.N):=by
    unfold zh
    rw [bk ⟨rfl,by simp⟩,JQ]
    simp [qV]
  rw [e]
  by_cases hn:vs=[]
  · subst hn
    have:zh 3 []=zV:=by unfold zh;simp
    rw [this,Gd hv.right hk hv.r64]
    simp [qV]
  · have:zh 3 vs=pr (qV vs):=by unfold zh;rw [bk ⟨rfl,hn⟩]
    have h1:Bd (qV vs):=HY (fun v hm=>(h v hm).1.r64) (by omega)
    have h2:Bd (qV vs+v.N):=by
      have:=HY (p:=vs++[v])
        (by
          intro w hw
          rcases AF.1 hw with q|q
          · exact(h w q).1.r64
          · simp at q;rw [q];exact hv.r64) (by simp;omega)
      rw [JQ]at this
      simpa [qV] using this
    rw [this,Ia hv.right hk hv.r64 h1 h2]
theorem Tj(a:gv)(nx:Int→Int→ac→ac→ac→Option (ac×Int))(vs:List ac)(hl:vs.length≤90000)(fault:Int)(x:ac)(v:ac)(c:Int)(sm:ac):kT a nx (vs.length:Int) fault x (vQ a.Tag vs) (v,c) sm=nx ((vs++[v]).length:Int) fault x sm (vQ a.Tag (vs++[v])):=by
 unfold kT gn
 have hw:IntKind.i64.wrap ((vs.length:Int)+1)=((vs++[v]).length:Int):=by rw [ux (by omega) (by omega)];simp
 simp only [hw,EJ,bu]
 rw [Tf]
 by_cases hv:vs=[]
 ·subst hv
  simp
 ·rw [aX hv]
  have:(((vs++[v]).length:Int)==1)=false:=by
   rw [beq_eq_false_iff_ne]
   intro h
   apply hv
   simp only [jx,zX]at h
   exact uu (by omega)
  simp only [this,xw,fM]
  unfold pick
  by_cases h4:a.Tag=4
  ·rw [h4]
   by_cases hc:val v (vQ 4 vs)<0
   ·simp [hc]
   ·simp [hc]
  ·by_cases h5:a.Tag=5
   ·rw [h5]
    by_cases hc:0<val v (vQ 5 vs)
    ·simp [hc]
    ·simp [hc]
   ·simp [h4,h5]
theorem H9(a:gv)(he:Jm a.Arg.Nodes)(ht:a.Tag≠1)(x:ac): ∀(rows:List cU) (vs:List ac) (fault:Int),Dw rows→vs.length+rows.length≤90000→(∀v∈vs,Pl v)→sF a.Tag vs=false→(fault=0∨fault=140)→
  d5 a rows (vs.length:Int) fault x (zh a.Tag vs) (vQ a.Tag vs)=some (if DC a.Arg.Nodes rows||sF a.Tag (Bx a.Arg.Nodes rows)then(zV,2)else Sf a.Tag (vs++Bx a.Arg.Nodes rows) (if Dy a.Arg.Nodes rows then 140 else fault))
 |[],vs,fault,_,hl,hpl,hod,hf=>by
  have e1:DC a.Arg.Nodes []=false:=rfl
  have e2:Bx a.Arg.Nodes []=[]:=rfl
  have e3:Dy a.Arg.Nodes []=false:=rfl
  have e4:sF a.Tag []=false:=by unfold sF;simp
  rw [e1,e2,e3,e4,tu]
  simp only [Bool.or_self,gL,eT]
  unfold d5 Sf
  rcases hf with hf|hf
  ·rw [hf]
   simp only [pG,Jr,zr,gL,eT]
   by_cases h2:a.Tag=2
   ·rw [bk (by simpa using h2),bk h2];rfl
   ·rw [aX (by simpa using h2),aX h2]
    by_cases h3:a.Tag=3
    ·rw [bk (by simpa using h3),bk h3]
     rw [h3]at hod ⊢
     simp only [pZ]at hl
     rw [T9 (fun v hv=>⟨hpl v hv,Fb _ (by simpa using hod) v hv⟩) (by omega)]
     rfl
    ·rw [aX (by simpa using h3),aX h3]
  ·rw [hf];rfl
 |r::t,vs,fault,hr,hl,hpl,hod,hf=>by
  have htl:Dw t:=fun x hx=>hr x (lc _ hx)
  have hr1:=hr r (lb ..)
  rw [jf]at hl
  unfold d5
  rw [Gg a.Arg r he hr1,bu,Fn]
  have eb:DC a.Arg.Nodes (r::t)=(((oU r a.Arg.Nodes).2 !=0&&(oU r a.Arg.Nodes).2 !=140)||DC a.Arg.Nodes t):=rfl
  have ef:Dy a.Arg.Nodes (r::t)=(((oU r a.Arg.Nodes).2==140)||Dy a.Arg.Nodes t):=rfl
  rw [eb,ef]
  rcases yV he hr1 with q|q|q
  ·rw [aX (by rw [q.1];decide)]
   have e0:((oU r a.Arg.Nodes).2 !=0&&(oU r a.Arg.Nodes).2 !=140)=false:=by rw [q.1];rfl
   have e1:((oU r a.Arg.Nodes).2==140)=false:=by rw [q.1];rfl
   have e2:((oU r a.Arg.Nodes).2 !=0)=false:=by rw [q.1];rfl
   rw [e0,e1,e2]
   simp only [sy]
   by_cases hk0:(oU r a.Arg.Nodes).1.Kind=0
   ·rw [aX (by simp [hk0]),bk (by simpa using hk0)]
    have hn2: ¬((oU r a.Arg.Nodes).2=0∧(oU r a.Arg.Nodes).1.Kind≠0):=fun h=>h.2 hk0
    simp only [aX hn2]
    unfold gn
    exact H9 a he ht x t vs fault htl (by omega) hpl hod hf
   ·have hc2:(oU r a.Arg.Nodes).2=0∧(oU r a.Arg.Nodes).1.Kind≠0:=⟨q.1,hk0⟩
    rw [bk hc2]
    by_cases hodd:a.Tag=3∧(oU r a.Arg.Nodes).1.Kind≠2
    ·rw [bk (by simp [hodd.1,hodd.2,hk0])]
     have:sF a.Tag ((oU r a.Arg.Nodes).1::Bx a.Arg.Nodes t)=true:=by
      unfold sF
      simp [hodd.1,hodd.2]
     rw [this,Bool.or_true];rfl
    ·rw [aX (by simp only [mz,tt,rM,pG];intro h;exact hodd ⟨h.1.1,h.2⟩),aX (by simpa using hk0)]
     have ho1:sF a.Tag [(oU r a.Arg.Nodes).1]=false:=by
      unfold sF
      simp only [wW,List.any_nil,Bool.or_false]
      rw [sL]
      intro h
      simp only [mz,tt,rM,pG]at h
      exact hodd h
     have ho:sF a.Tag ((oU r a.Arg.Nodes).1::Bx a.Arg.Nodes t)=sF a.Tag (Bx a.Arg.Nodes t):=by
      have:=KB a.Tag [(oU r a.Arg.Nodes).1] (Bx a.Arg.Nodes t)
      rw [ho1,sy]at this
      exact this
     have hvs:sF a.Tag (vs++[(oU r a.Arg.Nodes).1])=false:=by rw [KB,hod,ho1];rfl
     have hpl2: ∀v∈vs++[(oU r a.Arg.Nodes).1],Pl v:=by
      intro v hv
      rcases AF.1 hv with h|h
      ·exact hpl v h
      ·simp at h;rw [h];exact q.2
     have ih:=H9 a he ht x t (vs++[(oU r a.Arg.Nodes).1]) fault htl (by simp only [jx,zX];omega) hpl2 hvs hf
     rw [ho]
     rw [jO,GG]at ih
     rw [←ih]
     have hpair:oU r a.Arg.Nodes=((oU r a.Arg.Nodes).1,(oU r a.Arg.Nodes).2):=rfl
     by_cases h3:a.Tag=3
     ·rw [bk (by simpa using h3)]
      have hk2:(oU r a.Arg.Nodes).1.Kind=2:=by
       rcases Classical.em ((oU r a.Arg.Nodes).1.Kind=2)with h|h
       ·exact h
       ·exact absurd ⟨h3,h⟩ hodd
      have hod3: ¬sF 3 vs=true:=by rw [←h3,hod];simp
      have st:=Rg (fun v hv=>⟨hpl v hv,Fb _ hod3 v hv⟩) (by omega) q.2 hk2
      rw [←h3]at st
      rw [st,bu]
      rw [hpair]
      exact Tj a _ vs (by omega) fault x _ _ _
     ·rw [aX (by simpa using h3)]
      have es:zh a.Tag (vs++[(oU r a.Arg.Nodes).1])=zh a.Tag vs:=by
       unfold zh
       rw [aX (fun h=>h3 h.1),aX (fun h=>h3 h.1)]
      rw [es,hpair]
      exact Tj a _ vs (by omega) fault x _ _ _
  ·rw [aX (by simpa using q.2.1),bk (by simp [q.1])]
   have:((oU r a.Arg.Nodes).2 !=0&&(oU r a.Arg.Nodes).2 !=140)=true:=by simp [q.1,q.2.1]
   rw [this]
   simp only [Bool.true_or,fM]
   rfl
  ·rw [q,aX (by decide: ¬((140:Int)=0∧_)),bk (by rfl)]
   unfold gn
   have ih:=H9 a he ht x t vs 140 htl (by omega) hpl hod (.inr rfl)
   rw [ih]
   simp
theorem tJ(a:gv)(he:Jm a.Arg.Nodes)(hr:Dw rows)(hn:rows.length≤90000):nk a rows=some (wR a rows):=by
 unfold nk wR
 by_cases h1:a.Tag=1
 ·rw [bk (by simpa using h1),bk h1];rfl
 ·rw [aX (by simpa using h1),aX h1]
  have e:zh a.Tag []=zV:=by unfold zh;simp
  have:=H9 a he h1 zV rows [] 0 hr (by simp only [pZ];omega) (by simp) (by unfold sF;simp) (.inl rfl)
  rw [e,k7]at this
  exact this
theorem BU{f:cU→Option Bool}{g:cU→Bool}(hf: ∀v,f v=some (g v))(l:List cU):eY l f=some (l.any g):=by
 have key: ∀(l:List cU) (i:Nat),∃j:Int,dU f l i=some j∧decide (0≤j)=l.any g:=by
  intro l
  induction l with
  |nil=>intro i;exact⟨-1,rfl,rfl⟩
  |cons v t ih=>
   intro i
   unfold dU
   rw [hf,bu,wW]
   by_cases hg:g v=true
   ·rw [bk hg,hg]
    exact⟨(i:Int),rfl,by simp⟩
   ·rw [aX hg,sL.2 hg,sy]
    exact ih (i+1)
 obtain⟨j,h1,h2⟩:=key l 0
 unfold eY iD
 rw [h1]
 simp only [bu]
 rw [←h2]
theorem Wy(g:α→Bool)(l:List α):(l.any fun r=> !g r)= !l.all g:=by
 induction l with
 |nil=>rfl
 |cons x t ih=>rw [wW,zU,ih,Bool.not_and]
theorem DA(rows:List cU):qz rows=some (decide (rows.length≤8000)&&oL rows):=by
 unfold qz
 have e: ∀r:cU,mq r=some (!hU r):=by
  intro r
  unfold mq
  rw [H6]
  cases hU r<;>rfl
 rw [BU (f:=mq) e]
 have ed:decide ((rows.length:Int)≤8000)=decide (rows.length≤8000):=by
  rw [CO];omega
 rw [ed,Wy]
 have:oL rows=rows.all hU:=rfl
 rw [this]
 cases decide (rows.length≤8000)<;>simp

def nb(r:Nat):Nat:=if r%2=1 then(r/2)^^^2197175160 else r/2
def nb8(r:Nat):Nat:=nb (nb (nb (nb (nb (nb (nb (nb r)))))))
def WK:List Int:=(List.range 256).map fun i=>(nb8 i:Int)

def oa(r:cU)(c:List Int):Bool:=decide (c.length≤16)&&c.all fun e=>decide (0≤e)&&decide (e<(r.length:Int))
theorem vU{f:Int→Option Bool}{g:Int→Bool}(hf: ∀v,f v=some (g v)): ∀(l:List Int) (i:Nat),∃j:Int,fZ f l i=some j∧decide (0≤j)=l.any g
 |[],i=>⟨-1,rfl,rfl⟩
 |e::l,i=>by
  unfold fZ
  rw [hf,bu]
  cases h:g e with
  |true=>exact⟨(i:Int),by simp,by simp [h]⟩
  |false=>
   obtain⟨j,h1,h2⟩:=vU hf l (i+1)
   exact⟨j,by simpa using h1,by rw [h2];simp [h]⟩
theorem kh{f:Int→Option Bool}{g:Int→Bool}(hf: ∀v,f v=some (g v))(l:List Int):cO l f=some (l.any g):=by
 unfold cO lK
 obtain⟨j,h1,h2⟩:=vU hf l 0
 rw [h1,bu,h2]
theorem MC(r:cU)(c:List Int):DF r c=some (oa r c):=by
 unfold DF oa
 rw [kh (f:=yE r) (g:=fun c=>(decide (c<(0:Int)))||(decide ((r.length:Int)≤c))) (fun v=>rfl)]
 by_cases h:c.length≤16
 ·rw [bk (by rw [lX];omega),bu,bu,zb h,vg]
  congr 1
  induction c with
  |nil=>rfl
  |cons e c ih=>
   rw [wW,zU,Bool.not_or,ih (by simp at h;omega)]
   congr 1
   rw [AE];simp only [Dn,Bool.or_eq_false_iff,mz,lX,FZ];omega
 ·rw [aX (by rw [lX];omega),bu,zc h,CP]
theorem Eo(r:cU): ∀(c:List Int) (out:cU),(∀e∈c,0≤e∧e<(r.length:Int))→out.length+c.length≤1000→
  ∃t:cU,t.length=out.length+c.length∧(∀v∈t,v∈out∨v∈r)∧mD r c out=some t∧u6 r c out=some t
 |[],out,_,_=>⟨out,rfl,fun v hv=> .inl hv,rfl,rfl⟩
 |e::c,out,h,hl=>by
  obtain⟨h1,h2⟩:=h e (lb ..)
  obtain⟨n,rfl⟩:=Ea h1
  have hn:n<r.length:=by omega
  rw [jf]at hl
  obtain⟨t,g1,g2,g3,g4⟩:=Eo r c (out++[r[n]]) (fun e he=>h e (lc _ he)) (by simp;omega)
  have hi:de r (n:Int)=some r[n]:=by rw [cC];exact ph hn
  refine⟨t,by rw [g1];simp;omega,fun v hv=>?_,?_,?_⟩
  ·rcases g2 v hv with g|g
   ·rcases AF.1 g with g|g
    ·exact .inl g
    ·rw [Do.1 g];exact .inr (List.getElem_mem hn)
   ·exact .inr g
  ·unfold mD
   rw [hi,bu,cJ (by simp;omega),bu]
   exact g3
  ·unfold u6
   rw [hi,bu,cJ (by simp;omega),bu]
   exact g4
theorem Wx(h:xs.length≤68719476736):app [] xs=some xs:=by rw [cJ (by simpa using h)];rfl

def Be(l:List cU)(c:List Int):Bool:=decide (c.length≤16)&&c.all (fun e=>decide (0≤e))&&l.all (fun r=>oa r c)
def wO(l:List cU)(c:List Int):Int:=if oL l then(if Be l c then 0 else 2)else 150
theorem Dk(c:List Int): ∀l:List cU,qj c l=some (if l.all (fun r=>oa r c)then 0 else 2)
 |[]=>rfl
 |r::l=>by
  unfold qj
  rw [MC,bu,Dk c l,zU]
  cases oa r c<;>rfl
theorem F8(h:l.length≤8000)(c:List Int):yF l c=some (wO l c):=by
 unfold yF wO
 rw [wq,HT l h,bu]
 cases oL l with
 |false=>simp
 |true=>
  rw [bk rfl,aX (by decide),kh (f:=uA) (g:=fun c=>decide (c<(0:Int))) (fun v=>rfl),bk rfl]
  have hn:c.all (fun e=>decide (0≤e))= !c.any (fun e=>decide (e<(0:Int))):=by
   rw [List.not_any_eq_all_not]
   congr 1
   funext e
   rw [AE];simp only [lX,Dn,FZ];omega
  unfold Be
  by_cases hc:c.length≤16
  ·rw [bk (by simp;omega),bu,bu,zb hc,hn,Dk]
   cases c.any (fun e=>decide (e<(0:Int)))<;>cases l.all (fun r=>oa r c)<;>rfl
  ·rw [aX (by simp;omega),bu,zc hc];rfl
theorem yM(h:Be l c=true)(hr:r∈l):oa r c=true:=by
 unfold Be at h
 rw [mz,ki]at h
 exact h.2 r hr
theorem Lx(h:wO l c=0):oL l=true∧Be l c=true:=by
 unfold wO at h
 cases h1:oL l<;>cases h2:Be l c<;>simp_all
def gS(c:List Int)(r:cU):cU:=(nW r c).getD []
theorem AW(h:oa r c=true):nW r c=some (gS c r)∧(gS c r).length=c.length∧ ∀v∈gS c r,v∈r:=by
 unfold oa at h
 rw [mz,lX,ki]at h
 obtain⟨t,g1,g2,g3,g4⟩:=Eo r c [] (fun e he=>by have:=h.2 e he;rw [mz,lX,lX]at this;exact this) (by simp;omega)
 have e:nW r c=some t:=g3
 unfold gS
 rw [e]
 exact⟨rfl,by simpa using g1,fun v hv=>(g2 v hv).elim (fun h=>by cases h) id⟩
def yc(c:List Int)(a b:cU):Int:=Jo (fe (gS c a) (gS c b)) (fe a b)
theorem KW(c:List Int):Dm (yc c):=
 have h:=Dm.lex jt jt
 ⟨fun x y=>h.rng (gS c x,x) (gS c y,y),fun x y=>h.anti (gS c x,x) (gS c y,y),fun x y=>(h.eq (gS c x,x) (gS c y,y)).trans ⟨fun e=>(Prod.mk.injEq ..▸e).2,fun e=>by rw [e]⟩,fun x y z=>h.trans (gS c x,x) (gS c y,y) (gS c z,z)⟩
theorem LP{a b:cU}(ha:oa a c=true)(hb:oa b c=true):mN c a b=some (yc c a b):=by
 unfold mN
 rw [(AW ha).1,(AW hb).1]
 simp only [bu,wp,Cx,Yk]
 unfold yc Jo
 congr 1
 by_cases h:fe (gS c a) (gS c b)=0
 ·by_cases h2:fe a b=0<;>simp [h,h2]
 ·simp [h]
theorem LO{a b:cU}(ha:oa a c=true)(hb:oa b c=true):gE c a b=some (decide (gS c a=gS c b)):=by
 unfold gE
 rw [(AW ha).1,(AW hb).1]
 simp only [bu,wr]
theorem E8{α:Type}{lt lt' :α→α→Bool}(x:α): ∀l:List α,(∀y∈l,lt y x=lt' y x)→ID lt x l=ID lt' x l
 |[],_=>rfl
 |y::l,h=>by
  unfold ID
  rw [h y (lb ..),E8 x l fun z hz=>h z (lc _ hz)]
theorem C8{α:Type}{lt lt' :α→α→Bool}: ∀l:List α,(∀x∈l,∀y∈l,lt x y=lt' x y)→zI lt l=zI lt' l
 |[],_=>rfl
 |x::l,h=>by
  unfold zI
  rw [←C8 l fun y hy z hz=>h y (lc _ hy) z (lc _ hz)]
  exact E8 x _ fun y hy=>h y (lc _ ((tW lt l).mem_iff.1 hy)) x (lb ..)
theorem JU [DecidableEq α]{f:α→α→Int}(h:Dm f){c:α×α→Option Int}{l:List α}(hc: ∀x∈l,∀y∈l,c (x,y)=some (f x y))(hl:l.length≤1099511627776):zA c l=some (u0 f l):=by
 have hg:=yp h (c:=fun p=>some (f p.1 p.2)) (fun _ _=>rfl) hl
 have hlt: ∀x∈l,∀y∈l,va c x y=va (fun p:α×α=>some (f p.1 p.2)) x y:=fun x hx y hy=>by unfold va;rw [hc x hx y hy]
 have hg' :AB c l:=⟨hl,fun x hx y hy=>by rw [hc x hx y hy];rfl,fun x hx=>by rw [hlt x hx x hx];exact hg.irr x hx,
  fun x hx y hy z hz h1 h2=>by rw [hlt x hx y hy]at h1;rw [hlt y hy z hz]at h2;rw [hlt x hx z hz];exact hg.tr x hx y hy z hz h1 h2,
  fun x hx y hy h1 h2=>by rw [hlt x hx y hy]at h1;rw [hlt y hy x hx]at h2;exact hg.anti x hx y hy h1 h2⟩
 rw [Er hg',C8 l hlt]
 rfl
def vt(al:cU→cU→Bool):Nat→List cU→List (List cU)
 |0,_=>[]
 |_+1,[]=>[]
 |k+1,x::t=>(x::t.takeWhile (al x))::vt al k (t.dropWhile (al x))
theorem EA{Sg:Type}{alike:cU→cU→Option Bool}{al:cU→cU→Bool}(yld:List cU→Sg→Option (Bool×Sg))(nx:Sg→List cU→Option Sg)(s:Sg)(x:cU)(t:List cU)(hal: ∀y∈t,alike x y=some (al x y))(ht:t.length≤8000):
  ∀(rest pre:List cU) (fuel:Nat),t=pre++rest→rest.length<fuel→ny alike yld nx s (x::t) fuel ((1+pre.length:Nat):Int)=(yld (x::(pre++rest.takeWhile (al x))) s).bind fun r=>if(!r.1)then some r.2 else nx r.2 (rest.dropWhile (al x))
 |rest,pre,0,_,h=>by omega
 |[],pre,fuel+1,e,_=>by
  rw [tu]at e
  subst e
  unfold ny
  rw [aX (by simp;omega),bu,aX (by decide),show(0:Int)=((0:Nat):Int)from rfl,lZ (by omega) (by simp;omega),bu]
  rw [lZ (by simp;omega) (dY _)]
  simp only [bu,List.takeWhile_nil,List.dropWhile_nil,tu,xn]
  rw [sC (by simp;omega),sC (dY _),D5 (by simp;omega)]
 |b::rest,pre,fuel+1,e,hf=>by
  have hlen:t.length=pre.length+rest.length+1:=by rw [e];simp;omega
  have hb:de (x::t) ((1+pre.length:Nat):Int)=some b:=by
   rw [cC,Nat.add_comm,NW,e]
   simp
  unfold ny
  rw [bk (by simp;omega),show de (x::t) 0=some x from rfl,bu,hb,bu,hal b (by rw [e];simp),bu,bu]
  cases hb2:al x b with
  |true=>
   rw [bk rfl,cL (by omega) (by omega),show(((1+pre.length:Nat):Int)+1)=((1+(pre++[b]).length:Nat):Int) by simp;omega]
   rw [EA yld nx s x t hal ht rest (pre++[b]) fuel (by rw [e];simp) (by simp at hf;omega)]
   simp [List.takeWhile_cons,List.dropWhile_cons,hb2]
  |false=>
   rw [aX (by decide),show(0:Int)=((0:Nat):Int)from rfl,lZ (by omega) (by simp;omega),bu]
   rw [lZ (by simp;omega) (dY _)]
   simp only [bu,xn]
   rw [sC (l:=x::t) (dY _)]
   have e1:(x::t).take (1+pre.length)=x::pre:=by rw [Nat.add_comm,List.take_succ_cons,e];simp
   have e2:(x::t).drop (1+pre.length)=b::rest:=by rw [Nat.add_comm,List.drop_succ_cons,e];simp
   rw [e1,e2]
   simp [List.takeWhile_cons,List.dropWhile_cons,hb2]
def G9(c:List Int)(y:List cU):iB:=⟨gS c (y.headD []),y⟩
def Gt(c:List Int)(a b:cU):Bool:=decide (gS c a=gS c b)
theorem EB(c:List Int): ∀(k fuel:Nat) (l:List cU) (out:List iB),(∀r∈l,oa r c=true)→l.length≤k→l.length<fuel→out.length+l.length≤8000→
  kC (gE c) (Di (fun x s=>kD c x s)) fuel out l=some (out++(vt (Gt c) k l).map (G9 c))
 |k,0,l,out,_,_,h,_=>by omega
 |k,fuel+1,[],out,_,_,_,_=>by
  unfold kC
  rw [aX (by simp)]
  cases k<;>simp [vt]
 |0,fuel+1,x::t,out,_,h,_,_=>by simp at h
 |k+1,fuel+1,x::t,out,h,hk,hf,ho=>by
  simp only [jf]at hk hf ho
  have hx:=h x (lb ..)
  have hsub: ∀r∈t.dropWhile (Gt c x),r∈t:=fun r hr=>(Jx _).subset hr
  have hdl:(t.dropWhile (Gt c x)).length≤t.length:=(Jx _).length_le
  have htl:(t.takeWhile (Gt c x)).length≤t.length:=(List.takeWhile_sublist _).length_le
  unfold kC
  rw [bk (by simp),show(1:Int)=((1+([]:List cU).length:Nat):Int)from rfl,
   EA (al:=Gt c) _ _ out x t (fun y hy=>LO hx (h y (lc _ hy))) (by omega) t [] ir rfl (by unfold ir;omega)]
  rw [k7]
  have hb:kD c (x::t.takeWhile (Gt c x)) out=some (out++[G9 c (x::t.takeWhile (Gt c x))]):=by
   unfold kD fD
   rw [show de (x::t.takeWhile (Gt c x)) 0=some x from rfl,bu,(AW hx).1,bu,Wx (by simp;omega),bu,bu,cJ (by simp;omega)]
   rfl
  have hb2:Di (fun x s=>kD c x s) (x::t.takeWhile (Gt c x)) out=some (true,out++[G9 c (x::t.takeWhile (Gt c x))]):=by
   show Option.map _ (kD c (x::t.takeWhile (Gt c x)) out)=_
   rw [hb];rfl
  rw [hb2]
  simp only [bu,nh,gL,eT]
  have ih:=EB c k fuel (t.dropWhile (Gt c x)) (out++[G9 c (x::t.takeWhile (Gt c x))]) (fun r hr=>h r (lc _ (hsub r hr))) (by omega) (by omega) (by simp;omega)
  rw [ih]
  simp [vt]
theorem Gb(h:Hs l)(c:List Int):tI l c=some (if wO l c=0 then((vt (Gt c) l.length (u0 (yc c) l)).map (G9 c),0)else([],wO l c)):=by
 unfold tI
 have hlen:=h.len
 rw [F8 h.len,bu]
 by_cases ha:wO l c=0
 ·obtain⟨_,hok⟩:=Lx ha
  rw [aX (by simp [ha]),bk ha,zD l (fun r hr=>by have:=h.row r hr;omega) (by omega),bu]
  rw [JU (KW c) (fun x hx y hy=>LP (yM hok hx) (yM hok hy)) (by omega),bu]
  unfold EG
  rw [bu]
  unfold wo
  have hl:=yz (yc c) l
  show((kC (gE c) (Di fun x s=>kD c x s) ir [] (u0 (yc c) l)).bind fun xs1=>some (xs1,(0:Int)))=_
  rw [EB c l.length ir (u0 (yc c) l) [] (fun r hr=>yM hok ((nV _ _).mem_iff.1 hr)) (by omega) (by unfold ir;omega) (by simp;omega)]
  rfl
 ·rw [bk (by simp [ha]),aX ha]
theorem GV(al:cU→cU→Bool): ∀(k:Nat) (l:List cU),l.length≤k→(vt al k l).flatten=l
 |0,l,h=>by
  have:l=[]:=uu (by omega)
  subst this
  rfl
 |k+1,[],_=>rfl
 |k+1,x::t,h=>by
  have hdl:(t.dropWhile (al x)).length≤t.length:=(Jx _).length_le
  unfold vt
  rw [List.flatten_cons,GV al k _ (by simp at h;omega),xo,List.takeWhile_append_dropWhile]
theorem Ez(al:cU→cU→Bool): ∀(k:Nat) (l:List cU) (y:List cU),y∈vt al k l→ ∃x t,y=x::t∧x∈l∧ ∀z∈t,z∈l∧al x z=true
 |0,l,y,h=>by cases h
 |k+1,[],y,h=>by cases h
 |k+1,x::t,y,h=>by
  unfold vt at h
  rcases gk.1 h with rfl|h
  ·exact⟨x,_,rfl,lb ..,fun z hz=>⟨lc _ ((List.takeWhile_sublist _).subset hz),by simpa using ki.1 (List.all_takeWhile (p:=al x) (l:=t)) z hz⟩⟩
  ·obtain⟨x',t',e,h1,h2⟩:=Ez al k _ y h
   have hsub: ∀r∈t.dropWhile (al x),r∈t:=fun r hr=>(Jx _).subset hr
   exact⟨x',t',e,lc _ (hsub _ h1),fun z hz=>⟨lc _ (hsub _ (h2 z hz).1),(h2 z hz).2⟩⟩
theorem OC{a b:cU}(h:yc c a b≤0):fe (gS c a) (gS c b)≤0:=by
 unfold yc Jo at h
 split at h
 ·exact h
 ·rename_i h2;simp at h2;omega
theorem Pe(c:List Int)(x:cU): ∀t:List cU,s5 (yc c) (x::t)→ ∀z∈t.dropWhile (Gt c x),fe (gS c x) (gS c z)<0
 |[],_,z,hz=>by cases hz
 |b::t,hs,z,hz=>by
  have hs' :=BY.1 hs
  have hs2:=BY.1 hs'.2
  rw [List.dropWhile_cons]at hz
  split at hz
  ·exact Pe c x t (BY.2 ⟨fun w hw=>hs'.1 w (lc _ hw),hs2.2⟩) z hz
  ·rename_i hb
   have hlt:fe (gS c x) (gS c b)<0:=by
    have h1:=OC (hs'.1 b (lb ..))
    rcases Int.lt_or_eq_of_le h1 with h|h
    ·exact h
    ·exact absurd (zb ((jt.eq _ _).1 h)) hb
   rcases gk.1 hz with rfl|hz
   ·exact hlt
   ·exact jt.lt (Int.le_of_lt hlt) (OC (hs2.1 z hz)) (.inl hlt)
theorem GU(c:List Int): ∀(k:Nat) (l:List cU),s5 (yc c) l→((vt (Gt c) k l).map (G9 c)).Pairwise (fun a b=>fe a.Key b.Key<0)
 |0,l,_=>List.Pairwise.nil
 |k+1,[],_=>List.Pairwise.nil
 |k+1,x::t,hs=>by
  unfold vt
  rw [vm]
  have hs' :=BY.1 hs
  refine BY.2 ⟨fun g hg=>?_,GU c k _ (hs'.2.sublist (Jx _))⟩
  obtain⟨y,hy,rfl⟩:=vl.1 hg
  obtain⟨x',t',rfl,h1,_⟩:=Ez _ _ _ y hy
  exact Pe c x t hs x' h1

theorem lE{tl:List α}{y:α}(h:xs.drop i=y::tl):de xs (i:Int)=some y∧i<xs.length∧xs.drop (i+1)=tl:=by
 have hi:i<xs.length:=by
  rcases nL i xs.length with h1|h1
  ·exact h1
  ·rw [Dp h1]at h;cases h
 rw [xu hi]at h
 injection h with h1 h2
 exact⟨by rw [cC,ph hi,h1],hi,h2⟩
theorem vK(h:xs.drop i=[]):xs.length≤i:=HM.1 h
theorem vT{f:ig→Option Bool}{g:ig→Bool}(hf: ∀v,f v=some (g v)): ∀(l:List ig) (i:Nat),∃j:Int,dV f l i=some j∧decide (0≤j)=l.any g
 |[],i=>⟨-1,rfl,rfl⟩
 |e::l,i=>by
  unfold dV
  rw [hf,bu]
  cases h:g e with
  |true=>exact⟨(i:Int),by simp,by simp [h]⟩
  |false=>
   obtain⟨j,h1,h2⟩:=vT hf l (i+1)
   exact⟨j,by simpa using h1,by rw [h2];simp [h]⟩
theorem zn{f:ig→Option Bool}{g:ig→Bool}(hf: ∀v,f v=some (g v))(l:List ig):eZ l f=some (l.any g):=by
 unfold eZ iE
 obtain⟨j,h1,h2⟩:=vT hf l 0
 rw [h1,bu,h2]
theorem s7(l:List Int)(h:l.length≤68719476736):cM l=some l:=by
 unfold cM
 rw [cJ (by simpa using h)];rfl
theorem Tv(n:Int)(h0:0≤n)(h:n≤68719476736):lT n=some []:=by
 unfold lT mL
 rw [aX (by simp;omega)]
 have e:IntKind.i64.wrap (n-IntKind.i64.wrap ((0:Int)-0))=n:=by
  rw [cL (n:=(0:Int)-0) (by omega) (by omega),cL (by omega) (by omega)];omega
 rw [e]
 by_cases hp:0<n
 ·rw [bk (by simpa using hp)]
  unfold WZ nR
  rw [bk hp]
  simp only [bu]
  rw [bk ⟨h0,h⟩]
  simp only [bu]
  rw [show dP (List.replicate n.toNat (0:Int)) 0 0=some []from by unfold dP;rw [bk (by simp;omega)];simp]
  rfl
 ·rw [aX (by simpa using hp)];rfl
theorem LQ(a b:List Int)(ha:a.length≤8000)(hb:b.length≤8000):jg [a,b]=some (a++b):=by
 unfold jg
 simp only [jz]
 rw [cL (n:=(0:Int)+(a.length:Int)) (by omega) (by omega),aX (by simp),cL (by omega) (by omega),aX (by simp;omega),Tv _ (by omega) (by omega)]
 simp only [bu,jy]
 rw [cJ (by simp;omega)]
 simp only [bu,k7]
 rw [cJ (by omega)]
 rfl
structure jv(n:ay):Prop where
 cond:n.Cond.Nodes.length≤5000
 kinds:n.Kinds.length≤5000
 keys:n.Keys.length≤5000
 aggs:n.Aggs.length≤5000
 items:n.Items.length≤5000
 order:n.Order.length≤5000
 args: ∀g∈n.Aggs,g.Arg.Nodes.length≤5000
 exprs: ∀e∈n.Items,e.Nodes.length≤5000
def HV(e:bS)(kinds:List Int):Bool:=(gc e kinds).2==0&&((gc e kinds).1==1||(gc e kinds).1==0)
theorem xZ(e:bS)(kinds:List Int)(h:e.Nodes.length≤5000):sd e kinds=some (HV e kinds):=by
 unfold sd
 rw [wH e kinds (by omega)]
 rfl
theorem md(e:bS)(kinds:List Int):uB e kinds=some (HV e kinds):=by
 unfold uB HV
 rw [lM e kinds]
 simp only [bu,Bool.or_comm]
def Pu(a:gv)(kinds:List Int):Int×Bool:=
 if a.Tag=1 then(2,a.Arg.Nodes.length==0)else if a.Tag=2 then(2,(gc a.Arg kinds).2==0)else if a.Tag=3 then(2,(gc a.Arg kinds).2==0&&((gc a.Arg kinds).1==2||(gc a.Arg kinds).1==0))else if a.Tag=4∨a.Tag=5 then((gc a.Arg kinds).1,(gc a.Arg kinds).2==0)else(0,false)
theorem Ov(n:Nat):((n:Int)==0)=(n==0):=by rw [AE];simp
theorem IA(a:gv)(kinds:List Int)(h:a.Arg.Nodes.length≤5000):yO a kinds=some (Pu a kinds):=by
 unfold yO Pu s0
 by_cases h1:a.Tag=1
 ·rw [bk (by simp [h1]),bk h1,Ov]
 rw [aX (by simpa using h1),aX h1,wH _ _ (by omega)]
 simp only [bu]
 by_cases h2:a.Tag=2
 ·rw [bk (by simp [h2]),bk h2]
 rw [aX (by simpa using h2),aX h2]
 by_cases h3:a.Tag=3
 ·rw [bk (by simp [h3]),bk h3]
 rw [aX (by simpa using h3),aX h3]
 by_cases h4:a.Tag=4
 ·rw [bk (by simp [h4]),bk (by simp [h4]),bk (.inl h4)]
 rw [aX (by simpa using h4)]
 by_cases h5:a.Tag=5
 ·rw [bk (by simp [h5]),bk (.inr h5)]
 rw [aX (by simpa using h5),aX (by omega)]
def BM(a:gv)(kinds:List Int):Int×Bool:=(ld a kinds).getD (0,false)
theorem pt(a:gv)(kinds:List Int):ld a kinds=some (BM a kinds):=by
 unfold BM ld
 rw [lM]
 simp only [bu]
 repeat' split
 all_goals rfl
theorem D3(a:gv)(kinds:List Int):(Pu a kinds).2=(BM a kinds).2∧((Pu a kinds).2=true→(Pu a kinds).1=(BM a kinds).1):=by
 unfold BM ld Pu
 rw [lM]
 simp only [bu]
 by_cases h1:a.Tag=1
 ·simp [h1,Ov]
 by_cases h2:a.Tag=2
 ·by_cases he:(gc a.Arg kinds).2=0<;>simp [h2,he]
 by_cases h3:a.Tag=3
 ·by_cases he:(gc a.Arg kinds).2=0
  ·by_cases h0:(gc a.Arg kinds).1=0
   ·simp [h3,he,h0]
   ·by_cases h02:(gc a.Arg kinds).1=2<;>simp [h3,he,h0,h02]
  ·simp [h3,he]
 by_cases h4:a.Tag=4
 ·by_cases he:(gc a.Arg kinds).2=0<;>simp [h4,he]
 by_cases h5:a.Tag=5
 ·by_cases he:(gc a.Arg kinds).2=0<;>simp [h5,he]
 have:a.Tag<1∨5<a.Tag:=by omega
 simp [h1,h2,h3,h4,h5,this]
def BO(p:Option (List Int×Bool))(q:Option (List Int×Bool))(last:Bool):Prop:=
 ∃k o k',p=some (k,o&&last)∧q=some (k',o)∧(o=true→k=k')
theorem GT(c:aI)(n:ay)(a b:List Int)(hn:jv n)(hop:n.Op=1):BO (gp c n) (bH n a b) true:=by
 have h:=hn.kinds
 have key: ∀(tl:List Int) (i:Nat) (fu:Nat) (ok:Bool),n.Kinds.drop i=tl→tl.length<fu→dH n fu ok (i:Int)=some (n.Kinds,((((ok&&tl.all fun k=>decide (1≤k)&&decide (k≤3))&&(decide ((0:Int)≤n.Table)))&&(decide (n.Table≤(3:Int))))&&(decide ((1:Int)≤(n.Kinds.length:Int))))&&(decide ((n.Kinds.length:Int)≤(4:Int)))):=by
  intro tl
  induction tl with
  |nil=>
   intro i fu ok hd hf
   obtain⟨fu,rfl⟩: ∃k,fu=k+1:=⟨fu-1,by omega⟩
   have:=vK hd
   rw [dH,aX (by simp;omega)]
   simp
  |cons x tl ih=>
   intro i fu ok hd hf
   simp only [jf]at hf
   obtain⟨fu,rfl⟩: ∃k,fu=k+1:=⟨fu-1,by omega⟩
   obtain⟨h1,h2,h3⟩:=lE hd
   rw [dH,bk (by simp;omega),h1,cL (by omega) (by omega)]
   simp only [bu]
   have e:((i:Int)+1)=((i+1:Nat):Int):=by omega
   rw [e]
   have e2:((if ok=true then some (decide ((1:Int)≤x))else some false).bind fun t=>(if t=true then some (decide (x≤(3:Int)))else some false).bind fun t1=>dH n fu t1 ((i+1:Nat):Int))=dH n fu (ok&&(decide (1≤x)&&decide (x≤3))) ((i+1:Nat):Int):=by
    cases ok<;>by_cases hx:(1:Int)≤x<;>simp [hx]
   rw [e2,ih (i+1) fu _ h3 (by omega)]
   simp only [zU,Gv]
 have hr:bH n a b=dH n ir true (0:Int):=by unfold bH;rw [bk (by simp [hop])]
 rw [hr,show((0:Int))=((0:Nat):Int)from rfl,key n.Kinds 0 ir true rfl (xq (xz _) (mR (by omega)))]
 unfold gp
 have hc:cO n.Kinds jF=some (n.Kinds.any fun k=> !(((k==(1:Int))||(k==(2:Int)))||(k==(3:Int)))):=kh (fun v=>rfl) _
 rw [hc]
 simp only [bu]
 have e3:(!(n.Kinds.any fun k=> !(((k==(1:Int))||(k==(2:Int)))||(k==(3:Int)))))=n.Kinds.all fun k=>decide (1≤k)&&decide (k≤3):=by
  rw [List.not_any_eq_all_not]
  congr 1
  funext k
  rw [Bool.not_not,AE]
  simp;omega
 rw [e3]
 refine⟨n.Kinds,_,n.Kinds,?_,rfl,fun _=>rfl⟩
 cases h4:(n.Kinds.all fun k=>decide (1≤k)&&decide (k≤3))<;>by_cases t1:0≤n.Table<;>by_cases t2:n.Table<4<;>by_cases l1:(1:Int)≤(n.Kinds.length:Int)<;>by_cases l2:(n.Kinds.length:Int)≤4<;>simp [t1,t2,l1,l2]<;>omega
theorem Qn(c:aI)(n:ay)(a b:List Int)(hn:jv n)(hop:n.Op=2)(ha:de c.kinds n.A=some a)(hb:de c.kinds n.B=some b)(hal:a.length≤16)(hbl:b.length≤16):BO (hX c n) (bH n a b) true:=by
 unfold hX bH
 rw [ha,hb,aX (by simp [hop]),bk (by simp [hop])]
 simp only [bu]
 rw [LQ _ _ (by omega) (by omega),cJ (by simp;omega)]
 simp only [bu,k7]
 rw [cJ (by omega)]
 simp only [bu]
 rw [xZ _ _ hn.cond,md]
 exact⟨_,HV n.Cond (a++b),_,by simp,rfl,fun _=>rfl⟩
theorem K9(c:aI)(n:ay)(a b:List Int)(hn:jv n)(hop:n.Op=3)(ha:de c.kinds n.A=some a):BO (gq c n) (bH n a b) true:=by
 unfold gq bH
 rw [ha,aX (by simp [hop]),aX (by simp [hop]),bk (by simp [hop])]
 simp only [bu]
 rw [xZ _ _ hn.cond,md]
 exact⟨_,HV n.Cond a,_,by simp,rfl,fun _=>rfl⟩
theorem Gs(c:aI)(n:ay)(a b:List Int)(hop:n.Op=6)(ha:de c.kinds n.A=some a):BO (fy c n) (bH n a b) true:=by
 unfold fy bH
 rw [ha,aX (by simp [hop]),aX (by simp [hop]),aX (by simp [hop]),aX (by simp [hop]),aX (by simp [hop]),bk (by simp [hop])]
 exact⟨_,true,_,rfl,rfl,fun _=>rfl⟩
theorem If(c:aI)(n:ay)(a b:List Int)(hn:jv n)(hop:n.Op=5)(ha:de c.kinds n.A=some a):BO (fW c n) (bH n a b) true:=by
 have h:=hn.items
 have hr:bH n a b=d6 n a ir [] true (0:Int):=by unfold bH;rw [aX (by simp [hop]),aX (by simp [hop]),aX (by simp [hop]),aX (by simp [hop]),bk (by simp [hop])]
 have key: ∀(tl:List bS) (i:Nat) (fu:Nat) (out:List Int) (ok:Bool),n.Items.drop i=tl→i+tl.length=n.Items.length→tl.length<fu→out.length=i→d6 n a fu out ok (i:Int)=some (out++tl.map (fun e=>(gc e a).1),((ok&&tl.all fun e=>(gc e a).2==0)&&(decide ((1:Int)≤(n.Items.length:Int))))&&(decide ((n.Items.length:Int)≤(16:Int)))):=by
  intro tl
  induction tl with
  |nil=>
   intro i fu out ok hd hi hf ho
   obtain⟨fu,rfl⟩: ∃k,fu=k+1:=⟨fu-1,by omega⟩
   simp only [pZ,y9]at hi
   rw [d6,aX (by simp;omega)]
   simp [ho,hi]
  |cons x tl ih=>
   intro i fu out ok hd hi hf ho
   simp only [jf]at hf hi
   obtain⟨fu,rfl⟩: ∃k,fu=k+1:=⟨fu-1,by omega⟩
   obtain⟨h1,h2,h3⟩:=lE hd
   rw [d6,bk (by simp;omega),h1]
   simp only [bu]
   rw [lM]
   simp only [bu]
   rw [cJ (by simp;omega),cL (by omega) (by omega)]
   simp only [bu]
   have e:((i:Int)+1)=((i+1:Nat):Int):=by omega
   rw [e,ih (i+1) fu _ _ h3 (by omega) (by omega) (by simp [ho])]
   simp [Gv]
 rw [hr,show((0:Int))=((0:Nat):Int)from rfl,key n.Items 0 ir [] true rfl (by simp) (xq (xz _) (mR (by omega))) rfl]
 unfold fW
 have key2: ∀(tl:List bS) (out:List Int) (ok:Bool),(∀e∈tl,e.Nodes.length≤5000)→out.length+tl.length≤5000→fP c n tl out ok=some (out++tl.map (fun e=>(gc e a).1),ok&&tl.all fun e=>(gc e a).2==0):=by
  intro tl
  induction tl with
  |nil=>intro out ok _ _;simp [fP]
  |cons x tl ih=>
   intro out ok he hl
   simp only [jf]at hl
   rw [fP,ha]
   simp only [bu]
   rw [wH _ _ (by have:=he x (lb ..);omega)]
   simp only [bu]
   rw [cJ (by simp;omega)]
   simp only [bu]
   rw [ih _ _ (fun e h=>he e (lc _ h)) (by simp;omega)]
   simp [Gv]
 rw [key2 n.Items [] _ hn.exprs (by simp;omega)]
 refine⟨_,_,_,?_,rfl,fun _=>rfl⟩
 simp only [zq,vg]
 congr 2
 cases (n.Items.all fun e=>(gc e a).2==0)<;>simp
def Yv(a:List Int)(e:Int):Int:=(a[e.toNat]?).getD 0
def Il(a:List Int)(e:Int):Bool:=decide (e<0)||decide ((a.length:Int)≤e)
theorem RZ{a:List Int}{e:Int}(h:Il a e=false):de a e=some (Yv a e):=by
 simp [Il]at h
 rw [iA e.toNat (by omega),ph (by omega)]
 unfold Yv
 rw [ph (by omega)];rfl
theorem Nb(c:aI)(n:ay)(a b:List Int)(hn:jv n)(hop:n.Op=4)(ha:de c.kinds n.A=some a):BO (gR c n) (bH n a b) true:=by
 have hK:=hn.keys
 have hA:=hn.aggs
 have hr:bH n a b=d8 n a ir [] (0:Int):=by unfold bH;rw [aX (by simp [hop]),aX (by simp [hop]),aX (by simp [hop]),bk (by simp [hop])]
 have key3: ∀(tl:List gv) (i:Nat) (fu:Nat) (out:List Int) (ok:Bool),n.Aggs.drop i=tl→i+tl.length=n.Aggs.length→tl.length<fu→out.length≤5000+i→d7 n a fu out ok (i:Int)=some (out++tl.map (fun e=>(BM e a).1),(((ok&&tl.all fun e=>(BM e a).2)&&(decide ((n.Keys.length:Int)≤(3:Int))))&&(decide ((n.Aggs.length:Int)≤(12:Int))))&&(decide ((0:Int)<((out.length+tl.length:Nat):Int)))):=by
  intro tl
  induction tl with
  |nil=>
   intro i fu out ok hd hi hf ho
   obtain⟨fu,rfl⟩: ∃k,fu=k+1:=⟨fu-1,by omega⟩
   simp only [pZ,y9]at hi
   rw [d7,aX (by simp;omega)]
   simp
  |cons x tl ih=>
   intro i fu out ok hd hi hf ho
   simp only [jf]at hf hi
   obtain⟨fu,rfl⟩: ∃k,fu=k+1:=⟨fu-1,by omega⟩
   obtain⟨h1,h2,h3⟩:=lE hd
   rw [d7,bk (by simp;omega),h1]
   simp only [bu]
   rw [pt]
   simp only [bu]
   rw [cJ (by simp;omega),cL (by omega) (by omega)]
   simp only [bu]
   have e:((i:Int)+1)=((i+1:Nat):Int):=by omega
   rw [e,ih (i+1) fu _ _ h3 (by omega) (by omega) (by simp;omega)]
   simp only [vm,zU,Gv,jO,jx,jf,pZ,xo,k7]
   rw [show out.length+(0+1)+tl.length=out.length+(tl.length+1)from by omega]
 have key2: ∀(tl:List Int) (i:Nat) (fu:Nat) (out:List Int),n.Keys.drop i=tl→i+tl.length=n.Keys.length→tl.length<fu→out.length=i→d8 n a fu out (i:Int)=if tl.any (Il a)then some ([],false)else d7 n a ir (out++tl.map (Yv a)) true 0:=by
  intro tl
  induction tl with
  |nil=>
   intro i fu out hd hi hf ho
   obtain⟨fu,rfl⟩: ∃k,fu=k+1:=⟨fu-1,by omega⟩
   simp only [pZ,y9]at hi
   rw [d8,aX (by simp;omega)]
   simp
  |cons x tl ih=>
   intro i fu out hd hi hf ho
   simp only [jf]at hf hi
   obtain⟨fu,rfl⟩: ∃k,fu=k+1:=⟨fu-1,by omega⟩
   obtain⟨h1,h2,h3⟩:=lE hd
   rw [d8,bk (by simp;omega),h1]
   simp only [bu]
   cases hx:Il a x with
   |true=>
    have hx' :(decide (x<0)||decide ((a.length:Int)≤x))=true:=hx
    rw [bk hx',bk (by simp [hx])]
   |false=>
    have hx' : ¬(decide (x<0)||decide ((a.length:Int)≤x))=true:=by rw [show(decide (x<0)||decide ((a.length:Int)≤x))=Il a x from rfl,hx];decide
    rw [aX hx',RZ hx]
    simp only [bu]
    rw [cJ (by simp;omega),cL (by omega) (by omega)]
    simp only [bu]
    have e:((i:Int)+1)=((i+1:Nat):Int):=by omega
    rw [e,ih (i+1) fu _ h3 (by omega) (by omega) (by simp [ho])]
    simp [hx]
 rw [hr,show((0:Int))=((0:Nat):Int)from rfl,key2 n.Keys 0 ir [] rfl (by simp) (xq (xz _) (mR (by omega))) rfl]
 rw [show((0:Int))=((0:Nat):Int)from rfl,key3 n.Aggs 0 ir _ true rfl (by simp) (xq (xz _) (mR (by omega))) (by simp;omega)]
 unfold gR
 rw [ha,cL (by omega) (by omega)]
 simp only [bu]
 have hp:sY n.Keys a=some (!(n.Keys.any (Il a))):=by
  unfold sY
  rw [kh (f:=qp a) (g:=Il a) (fun v=>rfl)]
  rfl
 rw [hp]
 simp only [bu,k7,CQ]
 have kl: ∀(tl:List gv) (out:List Int) (ok:Bool),(∀e∈tl,e.Arg.Nodes.length≤5000)→out.length+tl.length≤10000→fx a tl out ok=some (out++tl.map (fun e=>(Pu e a).1),ok&&tl.all fun e=>(Pu e a).2):=by
  intro tl
  induction tl with
  |nil=>intro out ok _ _;simp [fx]
  |cons x tl ih=>
   intro out ok he hl
   simp only [jf]at hl
   rw [fx,IA _ _ (he x (lb ..))]
   simp only [bu]
   rw [cJ (by simp;omega)]
   simp only [bu]
   rw [ih _ _ (fun e h=>he e (lc _ h)) (by simp;omega)]
   simp [Gv]
 have kl1: ∀(t:Bool) (tl out:List Int),tl.any (Il a)=false→out.length+tl.length≤5000→gG n a t tl out=fx a n.Aggs (out++tl.map (Yv a)) t:=by
  intro t tl
  induction tl with
  |nil=>intro out _ _;simp [gG]
  |cons x tl ih=>
   intro out ho hl
   simp only [jf]at hl
   simp only [wW,Bool.or_eq_false_iff]at ho
   rw [gG,RZ ho.1]
   simp only [bu]
   rw [cJ (by simp;omega)]
   simp only [bu]
   rw [ih _ ho.2 (by simp;omega)]
   simp
 have hall:(n.Aggs.all fun e=>(Pu e a).2)=n.Aggs.all fun e=>(BM e a).2:=by
  congr 1;funext e;exact(D3 e a).1
 have hmap:(n.Aggs.all fun e=>(Pu e a).2)=true→n.Aggs.map (fun e=>(Pu e a).1)=n.Aggs.map fun e=>(BM e a).1:=by
  intro h
  exact Ju fun e he=>(D3 e a).2 (ki.1 h e he)
 cases hany:n.Keys.any (Il a)with
 |true=>exact⟨[],false,[],by simp,by simp,fun _=>rfl⟩
 |false=>
  by_cases hb:((n.Keys.length≤3∧n.Aggs.length≤12)∧0<n.Keys.length+n.Aggs.length)
  ·have hb' :(((decide ((n.Keys.length:Int)≤(3:Int)))&&(decide ((n.Aggs.length:Int)≤(12:Int))))&&(decide ((0:Int)<(n.Keys.length:Int)+(n.Aggs.length:Int))))=true:=by simp;omega
   simp only [hb',fM,xw,nh,gL,eT,bu]
   rw [kl1 true n.Keys [] hany (by simp;omega),kl n.Aggs _ true hn.args (by simp;omega)]
   refine⟨n.Keys.map (Yv a)++n.Aggs.map (fun e=>(Pu e a).1),n.Aggs.all fun e=>(BM e a).2,n.Keys.map (Yv a)++n.Aggs.map (fun e=>(BM e a).1),by simp [hall],?_,fun h=>?_⟩
   ·have h1:(decide ((n.Keys.length:Int)≤(3:Int)))=true:=by simp;omega
    have h2:(decide ((n.Aggs.length:Int)≤(12:Int)))=true:=by simp;omega
    have h3:(decide ((0:Int)<((n.Keys.length+n.Aggs.length:Nat):Int)))=true:=by simp;omega
    simp only [h1,h2,h3,zq,vg]
   ·rw [hmap (by rw [hall];exact h)]
  ·have hb' :(((decide ((n.Keys.length:Int)≤(3:Int)))&&(decide ((n.Aggs.length:Int)≤(12:Int))))&&(decide ((0:Int)<(n.Keys.length:Int)+(n.Aggs.length:Int))))=false:=by rw [sL];simp;omega
   simp only [hb',fM,xw,gL,eT,bu]
   refine⟨[],false,n.Keys.map (Yv a)++n.Aggs.map (fun e=>(BM e a).1),by simp,?_,by simp⟩
   have:((((true&&n.Aggs.all fun e=>(BM e a).2)&&(decide ((n.Keys.length:Int)≤(3:Int))))&&(decide ((n.Aggs.length:Int)≤(12:Int))))&&(decide ((0:Int)<((n.Keys.length+n.Aggs.length:Nat):Int))))=false:=by rw [sL];simp;omega
   rw [this]
def Q9(x y:Int):Int:=if x=0 then y else x
def JK(p:Int×Int):Bool:=(p.2==Q9 p.1 p.2)||p.2==0
theorem Mj(c:aI)(n:ay)(a b:List Int)(hop:n.Op=7)(ha:de c.kinds n.A=some a)(hb:de c.kinds n.B=some b)(hal:a.length≤16):BO (gO c n) (bH n a b) true:=by
 unfold gO bH
 rw [ha,hb,aX (by simp [hop]),aX (by simp [hop]),aX (by simp [hop]),aX (by simp [hop]),aX (by simp [hop]),aX (by simp [hop]),bk (by simp [hop])]
 simp only [bu]
 by_cases hl:a.length=b.length
 ·rw [aX (by simp;omega),aX (by simp;omega),s7 _ (by omega)]
  simp only [bu]
  have kc: ∀(tl pre suf:List Int) (ok:Bool),suf.length=tl.length→dR tl pre.length (pre++suf) ok=some (pre++List.zipWith Q9 suf tl,ok&&(suf.zip tl).all JK):=by
   intro tl
   induction tl with
   |nil=>
    intro pre suf ok h
    have:suf=[]:=uu h
    subst this
    simp [dR]
   |cons y tl ih=>
    intro pre suf ok h
    cases suf with
    |nil=>simp at h
    |cons x suf=>
     simp only [jf,Nat.add_right_cancel_iff]at h
     rw [dR,cC,uX (dY _),zT]
     simp only [F0,bu]
     have step: ∀(z:Int),iM (dR tl) pre.length y ok (pre++z::suf)=some (pre++z::List.zipWith Q9 suf tl,ok&&((z==y||y==0)&&(suf.zip tl).all JK)):=by
      intro z
      unfold iM
      rw [cC,uX (dY _),zT]
      simp only [F0,bu]
      have e1:pre++z::suf=(pre++[z])++suf:=by simp
      have e2:pre.length+1=(pre++[z]).length:=by simp
      cases ok with
      |true=>
       simp only [fM,bu,vg]
       rw [e1,e2,ih (pre++[z]) suf _ h]
       simp
      |false=>
       simp only [gL,eT,bu,CP]
       rw [e1,e2,ih (pre++[z]) suf _ h]
       simp
     by_cases hx:x=0
     ·subst hx
      rw [bk (by simp)]
      have e3:(pre++(0:Int)::suf).set ((pre.length:Int)).toNat y=pre++y::suf:=by
       rw [AH,List.set_append_right _ _ (dY _),zT];rfl
      rw [e3]
      refine(step y).trans ?_
      simp [JK,Q9]
     ·rw [aX (by simpa using hx),step x]
      have:Q9 x y=x:=by unfold Q9;rw [aX hx]
      simp only [List.zipWith_cons_cons,List.zip_cons_cons,zU,JK,this]
      have e4:(y==x)=(x==y):=by rw [AE,tt,tt];exact eq_comm
      rw [e4]
  have kr: ∀(tl tb:List Int) (i:Nat) (out:List Int) (ok:Bool),b.drop i=tb→tl.length=tb.length→out.length+tl.length≤1000→dG b tl i out ok=some (out++List.zipWith Q9 tl tb,ok&&(tl.zip tb).all JK):=by
   intro tl
   induction tl with
   |nil=>
    intro tb i out ok hd h _
    have:tb=[]:=uu h.symm
    subst this
    simp [dG]
   |cons x tl ih=>
    intro tb i out ok hd h hm
    cases tb with
    |nil=>simp at h
    |cons y tb=>
     simp only [jf,Nat.add_right_cancel_iff]at h hm
     obtain⟨h1,h2,h3⟩:=lE hd
     rw [dG,h1]
     simp only [bu]
     have step: ∀z:Int,iH b (dG b tl) i out ok z=some (out++z::List.zipWith Q9 tl tb,ok&&((y==z||y==0)&&(tl.zip tb).all JK)):=by
      intro z
      unfold iH
      rw [cJ (by simp;omega),h1]
      simp only [bu]
      cases ok with
      |true=>
       simp only [fM,bu,vg]
       cases hyz:y==z with
       |true=>
        simp only [nh,gL,eT,bu]
        rw [ih tb (i+1) _ _ h3 h (by simp;omega)]
        simp
       |false=>
        simp only [xw,fM,bu]
        rw [ih tb (i+1) _ _ h3 h (by simp;omega)]
        simp
      |false=>
       simp only [gL,eT,bu,CP]
       rw [ih tb (i+1) _ _ h3 h (by simp;omega)]
       simp
     by_cases hx:x=0
     ·subst hx
      rw [bk (by simp),step y]
      simp [JK,Q9]
     ·rw [aX (by simpa using hx),step x]
      have:Q9 x y=x:=by unfold Q9;rw [aX hx]
      simp only [List.zipWith_cons_cons,List.zip_cons_cons,zU,JK,this]
  have h1:=kc b [] a true hl
  rw [pZ,k7]at h1
  rw [h1,kr a b 0 [] true rfl hl (by simp;omega)]
  exact⟨_,_,_,by rw [zq],rfl,fun _=>rfl⟩
 ·rw [bk (by simp;omega),bk (by simp;omega)]
  exact⟨[],false,[],rfl,rfl,fun _=>rfl⟩
theorem MQ(c:aI)(n:ay)(a b:List Int)(hn:jv n)(hop:n.Op=8)(ha:de c.kinds n.A=some a):BO (gQ c n) (bH n a b) ((c.kinds.length:Int)==IntKind.i64.wrap ((c.Logic.Nodes.length:Int)-(1:Int))):=by
 have h:=hn.order
 have hr:bH n a b=dv n a ir true (0:Int):=by unfold bH;rw [aX (by simp [hop]),aX (by simp [hop]),aX (by simp [hop]),aX (by simp [hop]),aX (by simp [hop]),aX (by simp [hop]),aX (by simp [hop])]
 have key: ∀(tl:List ig) (i:Nat) (fu:Nat) (ok:Bool),n.Order.drop i=tl→i+tl.length=n.Order.length→tl.length<fu→dv n a fu ok (i:Int)=some (a,((((ok&&tl.all fun e=>decide (0≤e.Col)&&decide (e.Col<(a.length:Int)))&&(decide ((n.Order.length:Int)≤(3:Int))))&&(decide ((-1:Int)≤n.Limit)))&&(decide (n.Limit≤(2147483647:Int))))):=by
  intro tl
  induction tl with
  |nil=>
   intro i fu ok hd hi hf
   obtain⟨fu,rfl⟩: ∃k,fu=k+1:=⟨fu-1,by omega⟩
   simp only [pZ,y9]at hi
   rw [dv,aX (by simp;omega)]
   simp
  |cons x tl ih=>
   intro i fu ok hd hi hf
   simp only [jf]at hf hi
   obtain⟨fu,rfl⟩: ∃k,fu=k+1:=⟨fu-1,by omega⟩
   obtain⟨h1,h2,h3⟩:=lE hd
   rw [dv,bk (by simp;omega),h1,cL (by omega) (by omega)]
   simp only [bu]
   have e:((i:Int)+1)=((i+1:Nat):Int):=by omega
   rw [e]
   have e2:((if ok=true then some (decide ((0:Int)≤x.Col))else some false).bind fun t=>(if t=true then some (decide (x.Col<(a.length:Int)))else some false).bind fun t1=>dv n a fu t1 ((i+1:Nat):Int))=dv n a fu (ok&&(decide (0≤x.Col)&&decide (x.Col<(a.length:Int)))) ((i+1:Nat):Int):=by
    cases ok<;>by_cases hx:(0:Int)≤x.Col<;>simp [hx]
   rw [e2,ih (i+1) fu _ h3 (by omega) (by omega)]
   simp only [zU,Gv]
 rw [hr,show((0:Int))=((0:Nat):Int)from rfl,key n.Order 0 ir true rfl (by simp) (xq (xz _) (mR (by omega)))]
 unfold gQ
 rw [ha]
 simp only [bu]
 rw [zn (f:=kY a) (g:=fun o=>(decide (o.Col<(0:Int)))||(decide ((a.length:Int)≤o.Col))) (fun v=>rfl)]
 simp only [bu]
 have e3:(!(n.Order.any fun o=>(decide (o.Col<(0:Int)))||(decide ((a.length:Int)≤o.Col))))=n.Order.all fun e=>decide (0≤e.Col)&&decide (e.Col<(a.length:Int)):=by
  rw [List.not_any_eq_all_not]
  congr 1
  funext k
  rw [AE]
  simp
 rw [e3]
 refine⟨a,_,a,?_,rfl,fun _=>rfl⟩
 cases h4:(n.Order.all fun e=>decide (0≤e.Col)&&decide (e.Col<(a.length:Int)))<;>by_cases l1:(n.Order.length:Int)≤3<;>simp [l1]

def atR(r:cU)(c:Int):ac:=(r[c.toNat]?).getD zV
def ZS(o:ig)(n:Int):Int:=if o.Desc then -n else n
def Hn:List ig→cU→cU→Int
 |[],a,b=>fe a b
 |o::t,a,b=>Jo (ZS o (val (atR a o.Col) (atR b o.Col))) (Hn t a b)
theorem T4(o:ig):Dm (fun x y=>ZS o (val x y)):=by
 have h:=sO
 unfold ZS
 cases o.Desc with
 |false=>exact h
 |true=>
  refine⟨fun x y=>?_,fun x y=>?_,fun x y=>?_,fun x y z h1 h2=>?_⟩
  ·rcases h.rng x y with q|q|q<;>simp [q]
  ·have:=h.anti x y;simp [this]
  ·simp only [fM];rw [←h.eq x y];omega
  ·simp only [fM]at h1 h2 ⊢
   have a1:=h.anti x y;have a2:=h.anti y z;have a3:=h.anti x z
   have:=h.trans z y x (by omega) (by omega)
   omega
theorem Hm: ∀order:List ig,Dm (Hn order)
 |[]=>jt
 |o::t=>
  have h:=Dm.lex (T4 o) (Hm t)
  ⟨fun x y=>h.rng (atR x o.Col,x) (atR y o.Col,y),fun x y=>h.anti (atR x o.Col,x) (atR y o.Col,y),fun x y=>(h.eq (atR x o.Col,x) (atR y o.Col,y)).trans ⟨fun e=>(Prod.mk.injEq ..▸e).2,fun e=>by rw [e]⟩,fun x y z=>h.trans (atR x o.Col,x) (atR y o.Col,y) (atR z o.Col,z)⟩
def WP(order:List ig)(r:cU):Bool:=order.all fun o=>decide (0≤o.Col)&&decide (o.Col<(r.length:Int))
theorem IE{c:Int}(h:0≤c)(h2:c<(r.length:Int)):de r c=some (atR r c):=by
 obtain⟨k,hk⟩:=Ea h
 subst hk
 have hk:k<r.length:=by omega
 unfold atR
 rw [iA k rfl]
 simp [hk]
theorem Hp(hr:hU r=true){c:Int}(h:0≤c)(h2:c<(r.length:Int)):fG (atR r c)=true:=by
 have hm:atR r c∈r:=by
  obtain⟨k,hk⟩:=Ea h
  subst hk
  have hk:k<r.length:=by omega
  unfold atR
  simp [hk]
 unfold hU at hr
 simp only [mz,ki]at hr
 exact hr.2 _ hm
theorem T0{β:Type}(o:ig){n:Int}(h:n= -1∨n=0∨n=1)(f:Int→β):(if o.Desc then f (IntKind.i64.wrap (0-n))else f n)=f (ZS o n):=by
 unfold ZS
 cases o.Desc with
 |false=>rfl
 |true=>rcases h with h|h|h<;>subst h<;>rfl
theorem KA{o:ig}{t:List ig}(h:WP (o::t) r=true):0≤o.Col∧o.Col<(r.length:Int)∧WP t r=true:=by
 unfold WP at h ⊢
 rw [zU]at h
 simp only [mz,lX]at h
 exact⟨h.1.1,h.1.2,h.2⟩
theorem XI{a b:cU}(ha:hU a=true)(hb:hU b=true): ∀order:List ig,WP order a=true→WP order b=true→oq order a b=some (Hn order a b)
 |[],_,_=>by
  unfold oq jI
  rw [zS ha hb];rfl
 |o::t,h1,h2=>by
  obtain⟨p1,p2,p3⟩:=KA h1
  obtain⟨q1,q2,q3⟩:=KA h2
  have ih:=XI ha hb t p3 q3
  unfold oq at ih ⊢
  unfold jI
  rw [IE p1 p2,IE q1 q2,bu,bu,rn (Hp ha p1 p2) (Hp hb q1 q2),bu]
  have hs:=T0 o (sO.rng (atR a o.Col) (atR b o.Col)) (oo (jI a b t))
  rw [hs,ih]
  unfold oo
  show _=some (Jo _ _)
  unfold Jo
  split<;>rfl
def Nr(limit:Int)(l:List cU):List cU:=if 0≤limit∧limit<(l.length:Int)then l.take limit.toNat else l
theorem Zk(limit:Int)(l:List cU)(k:List cU→Option (List cU))(hk: ∀x,k x=some x):(if((decide ((0:Int)≤limit))&&(decide (limit<(l.length:Int))))then((dP l 0 limit).bind fun y=>k y)else k l)=some (Nr limit l):=by
 unfold Nr
 by_cases h:0≤limit∧limit<(l.length:Int)
 ·rw [bk (by simp [h.1,h.2]),bk h,ma (xs:=l) (i:=0) (j:=limit) 0 limit.toNat rfl (by omega) (mA _) (by omega),bu,hk]
  simp
 ·rw [aX (by simp only [mz,lX];exact h),aX h,hk]
structure NK(order:List ig)(l:List cU):Prop where
 right: ∀r∈l,hU r=true
 cols: ∀r∈l,WP order r=true
theorem GN(order:List ig)(limit:Int): ∀(rows out:List cU),NK order (out++rows)→out.length+rows.length≤1000000→kK order limit rows out=some (Nr limit (u0 (Hn order) (out++rows)))
 |[],out,h,hl=>by
  unfold kK
  rw [tu]at h ⊢
  have e:Cv order=some (oq order):=rfl
  rw [e,bu]
  rw [JU (Hm order) (fun x hx y hy=>by exact XI (h.right x hx) (h.right y hy) order (h.cols x hx) (h.cols y hy)) (by simp at hl;omega),bu]
  exact Zk limit _ oI (fun _=>rfl)
 |r::t,out,h,hl=>by
  rw [jf]at hl
  unfold kK
  have hr:=MF (h.right r (by simp))
  rw [CK r (by omega),bu,cJ (by simp;omega),bu,GN order limit t (out++[r]) (by rwa [jO,GG]) (by simp only [jx,zX];omega)]
  rw [jO,GG]
theorem Cu{order:List ig}(h:NK order rows)(hl:rows.length≤1000000)(limit:Int):o6 rows order limit=some (Nr limit (u0 (Hn order) rows)):=by
 unfold o6
 rw [GN order limit rows [] (by simpa using h) (by simpa using hl)]
 rfl
end Go.Proofs.YtfhhakidodmdfaaGreatDoor

