/- cU of this claim: M11, M12, M13, M14, M15, J1, K5, J2, J3, K6, K7, K8, L4, J4. -/
import Derived.Test.YtfhhakidodmdfaaGreatDoorJfQ1
set_option linter.all false
namespace Go.Proofs.YtfhhakidodmdfaaGreatDoor
open Go

def j4(m:Nat):List Int:=[((m%4294967296:Nat):Int),((m/4294967296%4294967296:Nat):Int),((m/18446744073709551616%4294967296:Nat):Int),((m/79228162514264337593543950336%4294967296:Nat):Int),0,0,0,0]
def lR(z:Int):eP:=⟨j4 z.natAbs,decide (z<0)⟩
variable{m:Nat}
theorem vW(h:m<18446744073709551616):j4 m=[((m%4294967296:Nat):Int),((m/4294967296:Nat):Int),0,0,0,0,0,0]:=by
 unfold j4
 rw [C8 (show m/4294967296<4294967296 by omega),Nat.div_eq_of_lt h,Nat.div_eq_of_lt (show m<79228162514264337593543950336 by omega)]
 rfl
variable{x:Int}
theorem EN(x:Nat):((x:Int)).tmod 4294967296=((x%4294967296:Nat):Int):=rfl
theorem yI{u:Nat}(h:u<18446744073709551616):fk .xor .u64 (if IntKind.u64.signed then -1 else IntKind.u64.max) (u:Int)=((18446744073709551615-u:Nat):Int):=by
 have e:fk .xor .u64 (if IntKind.u64.signed then -1 else IntKind.u64.max) (u:Int)=IntKind.u64.wrap (((BitVec.ofInt 64 (if IntKind.u64.signed then -1 else IntKind.u64.max)^^^BitVec.ofInt 64 (u:Int)).toNat:Nat):Int):=rfl
 have e1:BitVec.ofInt 64 (if IntKind.u64.signed then -1 else IntKind.u64.max)=BitVec.allOnes 64:=by decide
 have e2:BitVec.ofInt 64 (u:Int)=BitVec.ofNat 64 u:=BitVec.ofInt_natCast 64 u
 rw [e,e1,e2,BitVec.allOnes_xor,BitVec.toNat_not,BitVec.toNat_ofNat,C8 (by omega:u<2^64),qP (by omega)]
variable{b:ac}
theorem Mh(m:Nat)(h:m<18446744073709551616)(b:Bool):ow 0 (m:Int) ⟨List.replicate 8 0,b⟩=some ⟨j4 m,b⟩:=by
 rw [vW h]
 unfold ow
 rw [EN,xg]
 rfl
variable{z:Int}
theorem jx(h:r64 z):fV z=some (lR z):=by
 unfold r64 at h
 unfold fV lR
 by_cases hz:z<0
 ·rw [aY (by simpa using hz)]
  unfold rZ
  rw [aY (by decide)]
  have eu:IntKind.u64.wrap z=((18446744073709551616-z.natAbs:Nat):Int):=by rw [uC];omega
  rw [eu,yI (by omega)]
  have e1:IntKind.u64.wrap (((18446744073709551615-(18446744073709551616-z.natAbs):Nat):Int)+1)=((z.natAbs:Nat):Int):=by rw [uC];omega
  rw [e1,aK (by simp;omega)]
  have e2:IntKind.u64.wrap (-1)=((18446744073709551615:Nat):Int):=by decide
  rw [e2,yI (by omega)]
  have:=Mh z.natAbs (by omega) true
  rw [show((18446744073709551615-18446744073709551615:Nat):Int)=0 from rfl,this]
  simp [hz]
 ·rw [aK (by simpa using hz)]
  unfold rZ
  rw [aK (by decide)]
  have eu:IntKind.u64.wrap z=((z.natAbs:Nat):Int):=by rw [uC];omega
  rw [eu,show IntKind.u64.wrap 0=0 from by decide,Mh z.natAbs (by omega) false]
  simp [hz]
theorem EE(h:m<340282366920938463463374607431768211456)(b:Bool):tU ⟨j4 m,b⟩=some (decide (m=0)):=by
 unfold tU
 congr 1
 apply j5
 simp only [kM]
 constructor
 ·intro he
  unfold j4 at he
  have he:[((m%4294967296:Nat):Int),((m/4294967296%4294967296:Nat):Int),((m/18446744073709551616%4294967296:Nat):Int),((m/79228162514264337593543950336%4294967296:Nat):Int),0,0,0,0]=[0,0,0,0,0,0,0,0]:=he
  simp only [List.cons.injEq]at he
  omega
 ·intro he;subst he;rfl
theorem Q6(h:z.natAbs<340282366920938463463374607431768211456):sW (lR z)=some (lR (-z)):=by
 unfold sW lR
 rw [EE h]
 simp only [Int.natAbs_neg]
 by_cases h1:z<0
 ·have h2: ¬(-z<0):=by omega
  simp [h1,h2]
  omega
 ·by_cases h0:z=0
  ·subst h0;simp
  ·have h2: -z<0:=by omega
   have h3: ¬z.natAbs=0:=by omega
   have h4:decide (z<0)=false:=xG h1
   have h5:decide (-z<0)=true:=xF h2
   have h6:decide (z.natAbs=0)=false:=xG h3
   rw [h4,h5,h6]
   rfl
variable{i:Nat}
theorem U6(h:i<8):Sq (i:Int) 8=some ():=by unfold Sq;rw [aY (by omega)]
variable{c:List Int}
theorem iP(aa bb ds:List Int)(s t:Bool)(k i:Nat)(hi:i<8)(e1 e2 c:Nat)(h1:aa[i]? =some (e1:Int))(h2:bb[i]? =some (e2:Int))(b1:e1<4294967296)(b2:e2<4294967296)(b3:c≤1):
  gW ⟨aa,s⟩ ⟨bb,s⟩ (k+1) i (c:Int) ⟨ds,t⟩=gW ⟨aa,s⟩ ⟨bb,s⟩ k (i+1) (((e1+e2+c)/4294967296:Nat):Int) ⟨ds.set i (((e1+e2+c)%4294967296:Nat):Int),t⟩:=by
 conv=>lhs;unfold gW
 rw [aY (by simp),U6 hi,bT,h1,bT,h2]
 simp only [be]
 rw [←A7,qP (by omega),←A7,qP (by omega),xg,EN]
 rfl
theorem iQ(aa bb ds:List Int)(s u t:Bool)(hsu:(s==u)=false)(k i:Nat)(hi:i<8)(e1 e2 c:Nat)(h1:aa[i]? =some (e1:Int))(h2:bb[i]? =some (e2:Int))(b1:e1<4294967296)(b2:e2<4294967296)(b3:c≤1):
  gW ⟨aa,s⟩ ⟨bb,u⟩ (k+1) i (c:Int) ⟨ds,t⟩=gW ⟨aa,s⟩ ⟨bb,u⟩ k (i+1) ((1-(e1+4294967296-e2-c)/4294967296:Nat):Int) ⟨ds.set i (((e1+4294967296-e2-c)%4294967296:Nat):Int),t⟩:=by
 conv=>lhs;unfold gW
 rw [aK (by simp only [hsu];decide),U6 hi,bT,h1,bT,h2]
 simp only [be]
 have q1:IntKind.u64.wrap ((e1:Int)+4294967296)=((e1+4294967296:Nat):Int):=by rw [Hd (by omega) (by omega)];omega
 have q2:IntKind.u64.wrap (((e1+4294967296:Nat):Int)-(e2:Int))=((e1+4294967296-e2:Nat):Int):=by rw [Hd (by omega) (by omega)];omega
 have q3:IntKind.u64.wrap (((e1+4294967296-e2:Nat):Int)-(c:Int))=((e1+4294967296-e2-c:Nat):Int):=by rw [Hd (by omega) (by omega)];omega
 rw [q1,q2,q3,xg,EN]
 have q4:IntKind.u64.wrap (1-(((e1+4294967296-e2-c)/4294967296:Nat):Int))=((1-(e1+4294967296-e2-c)/4294967296:Nat):Int):=by rw [Hd (by omega) (by omega)];omega
 rw [q4]
 rfl
theorem Bs(aa bb:eP)(i:Nat)(c:Int)(m:Nat)(hm:m<340282366920938463463374607431768211456)(t:Bool):gW aa bb 0 i c ⟨j4 m,t⟩=some ⟨j4 m,t&&decide (m≠0)⟩:=by
 unfold gW
 cases t with
 |false=>rfl
 |true=>
  simp only [eg]
  rw [EE hm]
  simp
variable{p q:Nat}
theorem aaj(hp:p<18446744073709551616)(hq:q<18446744073709551616)(s:Bool):iz ⟨j4 p,s⟩ ⟨j4 q,s⟩=some ⟨j4 (p+q),s&&decide (p+q≠0)⟩:=by
 have hd:j4 (p+q)=[(((p%4294967296+q%4294967296+0)%4294967296:Nat):Int),(((p/4294967296+q/4294967296+(p%4294967296+q%4294967296+0)/4294967296)%4294967296:Nat):Int),(((0+0+(p/4294967296+q/4294967296+(p%4294967296+q%4294967296+0)/4294967296)/4294967296)%4294967296:Nat):Int),0,0,0,0,0]:=by
  unfold j4
  congr 1
  ·congr 1;omega
  ·congr 1
   ·congr 1;omega
   ·congr 1
    ·congr 1;omega
    ·congr 1
     have:(p+q)/79228162514264337593543950336%4294967296=0:=by omega
     rw [this];rfl
 have sI:=hd
 rw [vW hp,vW hq]
 unfold iz
 generalize hp0:p%4294967296=p0 at sI ⊢
 generalize hp1:p/4294967296=p1 at sI ⊢
 generalize hq0:q%4294967296=q0 at sI ⊢
 generalize hq1:q/4294967296=q1 at sI ⊢
 have c1:(p0+q0+0)/4294967296≤1:=by omega
 generalize hc:(p0+q0+0)/4294967296=c at sI c1 ⊢
 have c2:(p1+q1+c)/4294967296≤1:=by omega
 generalize hcc:(p1+q1+c)/4294967296=cc at sI c2 ⊢
 rw [show((0:Int))=((0:Nat):Int)from rfl]
 rw [iP _ _ _ s s 7 0 (by omega) p0 q0 0 rfl rfl (by omega) (by omega) (by omega),hc]
 rw [iP _ _ _ s s 6 1 (by omega) p1 q1 c rfl rfl (by omega) (by omega) (by omega),hcc]
 rw [iP _ _ _ s s 5 2 (by omega) 0 0 cc rfl rfl (by omega) (by omega) (by omega)]
 have c3:(0+0+cc)/4294967296=0:=by omega
 rw [c3]
 rw [iP _ _ _ s s 4 3 (by omega) 0 0 0 rfl rfl (by omega) (by omega) (by omega)]
 rw [show(0+0+0)/4294967296=0 from rfl]
 rw [iP _ _ _ s s 3 4 (by omega) 0 0 0 rfl rfl (by omega) (by omega) (by omega)]
 rw [show(0+0+0)/4294967296=0 from rfl]
 rw [iP _ _ _ s s 2 5 (by omega) 0 0 0 rfl rfl (by omega) (by omega) (by omega)]
 rw [show(0+0+0)/4294967296=0 from rfl]
 rw [iP _ _ _ s s 1 6 (by omega) 0 0 0 rfl rfl (by omega) (by omega) (by omega)]
 rw [show(0+0+0)/4294967296=0 from rfl]
 rw [iP _ _ _ s s 0 7 (by omega) 0 0 0 rfl rfl (by omega) (by omega) (by omega)]
 have he:=Bs ⟨[(p0:Int),(p1:Int),0,0,0,0,0,0],s⟩ ⟨[(q0:Int),(q1:Int),0,0,0,0,0,0],s⟩ (7+1) (((0+0+0)/4294967296:Nat):Int) (p+q) (by omega) s
 rw [sI]at he
 rw [sI]
 exact he
theorem Xl(hp:p<18446744073709551616)(hq:q≤p)(s u:Bool)(hsu:(s==u)=false):iz ⟨j4 p,s⟩ ⟨j4 q,u⟩=some ⟨j4 (p-q),s&&decide (p-q≠0)⟩:=by
 have hd:j4 (p-q)=[(((p%4294967296+4294967296-q%4294967296-0)%4294967296:Nat):Int),(((p/4294967296+4294967296-q/4294967296-(1-(p%4294967296+4294967296-q%4294967296-0)/4294967296))%4294967296:Nat):Int),0,0,0,0,0,0]:=by
  rw [vW (by omega)]
  congr 1
  ·congr 1;omega
  ·congr 1
   ·congr 1;omega
 have sI:=hd
 rw [vW hp,vW (m:=q) (by omega)]
 unfold iz
 have hge:(p/4294967296+4294967296-q/4294967296-(1-(p%4294967296+4294967296-q%4294967296-0)/4294967296))/4294967296=1:=by omega
 generalize hp0:p%4294967296=p0 at sI hge ⊢
 generalize hp1:p/4294967296=p1 at sI hge ⊢
 generalize hq0:q%4294967296=q0 at sI hge ⊢
 generalize hq1:q/4294967296=q1 at sI hge ⊢
 have c1:1-(p0+4294967296-q0-0)/4294967296≤1:=by omega
 generalize hc:1-(p0+4294967296-q0-0)/4294967296=c at sI hge c1 ⊢
 rw [show((0:Int))=((0:Nat):Int)from rfl]
 rw [iQ _ _ _ s u s hsu 7 0 (by omega) p0 q0 0 rfl rfl (by omega) (by omega) (by omega),hc]
 rw [iQ _ _ _ s u s hsu 6 1 (by omega) p1 q1 c rfl rfl (by omega) (by omega) (by omega),hge]
 rw [show 1-1=0 from rfl]
 rw [iQ _ _ _ s u s hsu 5 2 (by omega) 0 0 0 rfl rfl (by omega) (by omega) (by omega)]
 rw [show 1-(0+4294967296-0-0)/4294967296=0 from rfl]
 rw [iQ _ _ _ s u s hsu 4 3 (by omega) 0 0 0 rfl rfl (by omega) (by omega) (by omega)]
 rw [show 1-(0+4294967296-0-0)/4294967296=0 from rfl]
 rw [iQ _ _ _ s u s hsu 3 4 (by omega) 0 0 0 rfl rfl (by omega) (by omega) (by omega)]
 rw [show 1-(0+4294967296-0-0)/4294967296=0 from rfl]
 rw [iQ _ _ _ s u s hsu 2 5 (by omega) 0 0 0 rfl rfl (by omega) (by omega) (by omega)]
 rw [show 1-(0+4294967296-0-0)/4294967296=0 from rfl]
 rw [iQ _ _ _ s u s hsu 1 6 (by omega) 0 0 0 rfl rfl (by omega) (by omega) (by omega)]
 rw [show 1-(0+4294967296-0-0)/4294967296=0 from rfl]
 rw [iQ _ _ _ s u s hsu 0 7 (by omega) 0 0 0 rfl rfl (by omega) (by omega) (by omega)]
 have he:=Bs ⟨[(p0:Int),(p1:Int),0,0,0,0,0,0],s⟩ ⟨[(q0:Int),(q1:Int),0,0,0,0,0,0],u⟩ (7+1) ((1-(0+4294967296-0-0)/4294967296:Nat):Int) (p-q) (by omega) s
 rw [sI]at he
 rw [sI]
 exact he
theorem iR(aa bb:List Int)(s t:Bool)(n:Nat)(i:Nat)(hi:i<8)(e1 e2:Int)(h1:aa[i]? =some e1)(h2:bb[i]? =some e2):
  lK ⟨aa,s⟩ ⟨bb,t⟩ (n+1) (i:Int)=if e1=e2 then lK ⟨aa,s⟩ ⟨bb,t⟩ n ((i:Int)-1)else some (decide (e1<e2)):=by
 conv=>lhs;unfold lK
 rw [aY (by simp),bT,h1,bT,h2]
 simp only [be]
 by_cases h:e1=e2
 ·rw [aK (by simp [h]),aY h,cv (by omega) (by omega)]
 ·rw [aY (by simpa using h),aK h]
theorem UY(hp:p<18446744073709551616)(hq:q<18446744073709551616)(s t:Bool):tW ⟨j4 p,s⟩ ⟨j4 q,t⟩=some (decide (p<q)):=by
 rw [vW hp,vW hq]
 unfold tW
 obtain⟨f,hf⟩: ∃f,iN=f+9:=⟨iN-9,by have:=m4 (n:=9) (by omega);omega⟩
 rw [hf]
 rw [show(7:Int)=((7:Nat):Int)from rfl,iR _ _ s t (f+8) 7 (by omega) 0 0 rfl rfl,aY rfl]
 rw [show((7:Nat):Int)-1=((6:Nat):Int)from rfl,iR _ _ s t (f+7) 6 (by omega) 0 0 rfl rfl,aY rfl]
 rw [show((6:Nat):Int)-1=((5:Nat):Int)from rfl,iR _ _ s t (f+6) 5 (by omega) 0 0 rfl rfl,aY rfl]
 rw [show((5:Nat):Int)-1=((4:Nat):Int)from rfl,iR _ _ s t (f+5) 4 (by omega) 0 0 rfl rfl,aY rfl]
 rw [show((4:Nat):Int)-1=((3:Nat):Int)from rfl,iR _ _ s t (f+4) 3 (by omega) 0 0 rfl rfl,aY rfl]
 rw [show((3:Nat):Int)-1=((2:Nat):Int)from rfl,iR _ _ s t (f+3) 2 (by omega) 0 0 rfl rfl,aY rfl]
 rw [show((2:Nat):Int)-1=((1:Nat):Int)from rfl,iR _ _ s t (f+2) 1 (by omega) _ _ rfl rfl]
 by_cases h1:((p/4294967296:Nat):Int)=((q/4294967296:Nat):Int)
 ·rw [aY h1,show((1:Nat):Int)-1=((0:Nat):Int)from rfl,iR _ _ s t (f+1) 0 (by omega) _ _ rfl rfl]
  by_cases h0:((p%4294967296:Nat):Int)=((q%4294967296:Nat):Int)
  ·rw [aY h0]
   unfold lK
   rw [aK (by decide)]
   congr 1
   symm
   rw [DO];omega
  ·rw [aK h0]
   congr 1
   apply j5
   simp only [kM];omega
 ·rw [aK h1]
  congr 1
  apply j5
  simp only [kM];omega
variable{y:Int}
theorem PS(hx:x.natAbs≤9223372036854775808)(hy:y.natAbs≤9223372036854775808):mV (lR x) (lR y)=some (lR (x+y)):=by
 unfold mV lR
 rw [UY (by omega) (by omega)]
 simp only [be]
 by_cases h:(decide (x<0)==decide (y<0))=true
 ·have hs:decide (y<0)=decide (x<0):=(eq_of_beq h).symm
  have hne:(decide (x<0) !=decide (y<0))=false:=by rw [hs];simp
  rw [hne]
  simp only [gm,d9,be]
  rw [hs,aaj (by omega) (by omega)]
  congr 2
  ·congr 1
   have:(decide (x<0)=true↔decide (y<0)=true):=by rw [hs]
   simp only [kM]at this
   omega
  ·apply j5
   have:(decide (x<0)=true↔decide (y<0)=true):=by rw [hs]
   simp only [kM]at this
   simp only [my,kM]
   omega
 ·have hb:(decide (x<0)==decide (y<0))=false:=by simpa using h
  have hne:(decide (x<0) !=decide (y<0))=true:=by simp only [bne,hb];rfl
  rw [hne]
  simp only [eg,be]
  have hxy: ¬(x<0↔y<0):=by
   intro hi
   have:decide (x<0)=decide (y<0):=by simp only [C6];exact hi
   rw [this]at hb;simp at hb
  by_cases hlt:x.natAbs<y.natAbs
  ·rw [aY (by simpa using hlt)]
   have hb' :(decide (y<0)==decide (x<0))=false:=by
    cases q1:decide (x<0)<;>cases q2:decide (y<0)<;>simp_all
   rw [Xl (by omega) (by omega) _ _ hb']
   congr 2
   ·congr 1;omega
   ·apply j5
    simp only [my,kM]
    omega
  ·rw [aK (by simpa using hlt)]
   rw [Xl (by omega) (by omega) _ _ hb]
   congr 2
   ·congr 1;omega
   ·apply j5
    simp only [my,kM]
    omega
theorem Gi(m:Nat)(b:Bool)(e e1 e2 e3:Int):fy ⟨j4 m,b⟩ e e1 e2 e3 (8-4) 4=fy ⟨j4 m,b⟩ e e1 e2 e3 0 8:=by
 have step: ∀k i,(j4 m)[i]? =some 0→fy ⟨j4 m,b⟩ e e1 e2 e3 (k+1) i=fy ⟨j4 m,b⟩ e e1 e2 e3 k (i+1):=by
  intro k i h
  conv=>lhs;unfold fy
  rw [bT]
  simp only [h,be]
  rw [aK (by decide)]
 show fy _ _ _ _ _ (3+1) 4=_
 rw [step 3 4 rfl]
 show fy _ _ _ _ _ (2+1) 5=_
 rw [step 2 5 rfl]
 show fy _ _ _ _ _ (1+1) 6=_
 rw [step 1 6 rfl]
 show fy _ _ _ _ _ (0+1) 7=_
 rw [step 0 7 rfl]
theorem ZY:(2:Int)^(min (Int.toNat (32:Int)) IntKind.u64.bits)=((4294967296:Nat):Int):=by
 have:(2:Int)^(min (Int.toNat (32:Int)) IntKind.u64.bits)=4294967296:=by decide
 rw [this];rfl
theorem yV(d e:Nat)(hd:d<4294967296)(he:e<4294967296):IntKind.u64.wrap (IntKind.u64.wrap ((d:Int)*2^(min (Int.toNat (32:Int)) IntKind.u64.bits))+(e:Int))=((d*4294967296+e:Nat):Int):=by
 have e0:(2:Int)^(min (Int.toNat (32:Int)) IntKind.u64.bits)=((4294967296:Nat):Int):=ZY
 rw [e0,←xP,qP (by omega),←A7,qP (by omega)]
variable{a:ac}
theorem Me(h:z.natAbs<340282366920938463463374607431768211456): ∃n,iZ (lR z)=some (n,decide (r64 z))∧(r64 z→n=z):=by
 unfold iZ wF lR
 generalize hm:z.natAbs=m at h ⊢
 have i3:cN (j4 m) 3=some ((m/79228162514264337593543950336%4294967296:Nat):Int):=rfl
 have i2:cN (j4 m) 2=some ((m/18446744073709551616%4294967296:Nat):Int):=rfl
 have i1:cN (j4 m) 1=some ((m/4294967296%4294967296:Nat):Int):=rfl
 have i0:cN (j4 m) 0=some ((m%4294967296:Nat):Int):=rfl
 simp only [i3,i2,i1,i0,be]
 rw [Gi]
 unfold fy
 rw [yV _ _ (vo _ (by decide)) (vo _ (by decide)),yV _ _ (vo _ (by decide)) (vo _ (by decide))]
 have hhi:m/79228162514264337593543950336%4294967296*4294967296+m/18446744073709551616%4294967296=m/18446744073709551616:=by omega
 have hlo:m/4294967296%4294967296*4294967296+m%4294967296=m%18446744073709551616:=by
  have:=Nat.mod_mul (x:=m) (a:=4294967296) (b:=4294967296)
  rw [show 4294967296*4294967296=18446744073709551616 from rfl]at this
  rw [this,Nat.mul_comm,Nat.add_comm]
 rw [hhi,hlo]
 have bhi:m/18446744073709551616<18446744073709551616:=by omega
 have blo:m%18446744073709551616<18446744073709551616:=vo _ (by decide)
 have hsplit:m=m/18446744073709551616*18446744073709551616+m%18446744073709551616:=by omega
 generalize m/18446744073709551616=hi at bhi hsplit ⊢
 generalize m%18446744073709551616=lo at blo hsplit ⊢
 by_cases hz:z<0
 ·have hzm:z= -(m:Int):=by omega
  have hm0:0<m:=by omega
  rw [aY (by simpa using hz),yI blo,yI bhi]
  have ew:IntKind.u64.wrap (((18446744073709551615-lo:Nat):Int)+1)=(((18446744073709551616-lo)%18446744073709551616:Nat):Int):=by rw [uC];omega
  have eh:IntKind.u64.wrap (((18446744073709551615-hi:Nat):Int)+1)=(((18446744073709551616-hi)%18446744073709551616:Nat):Int):=by rw [uC];omega
  rw [ew,eh]
  unfold lL
  simp only [hz,C5]
  by_cases hl0:lo=0
  ·subst hl0
   rw [aY (by decide)]
   simp only [be]
   refine⟨IntKind.i64.wrap (((18446744073709551616-0)%18446744073709551616:Nat):Int),?_,fun hr=>?_⟩
   ·congr 2
    have hnr: ¬r64 z:=by unfold r64;omega
    have e0:IntKind.i64.wrap (((18446744073709551616-0)%18446744073709551616:Nat):Int)=0:=by decide
    rw [e0]
    have hne:(IntKind.i64.wrap (((18446744073709551616-hi)%18446744073709551616:Nat):Int)==0)=false:=by
     simp only [beq_eq_false_iff_ne,o8]
     rw [wk];omega
    rw [hne]
    simp [hnr]
   ·unfold r64 at hr;omega
  ·rw [aK (by simp;omega)]
   simp only [be]
   have e0:IntKind.i64.wrap (((18446744073709551616-lo)%18446744073709551616:Nat):Int)=if lo≤9223372036854775808 then -(lo:Int)else 18446744073709551616-(lo:Int):=by
    rw [wk];split<;>omega
   refine⟨IntKind.i64.wrap (((18446744073709551616-lo)%18446744073709551616:Nat):Int),?_,fun hr=>?_⟩
   ·congr 2
    apply j5
    rw [e0]
    simp only [my,pZ,sv,kM]
    rw [wk]
    unfold r64
    constructor
    ·rintro⟨h1,h2⟩
     split at h2<;>omega
    ·intro h1
     have:hi=0:=by omega
     subst this
     have:lo≤9223372036854775808:=by omega
     rw [aY this]
     refine⟨by omega,.inr ⟨by omega,by omega⟩⟩
   ·rw [e0]
    unfold r64 at hr
    have:hi=0:=by omega
    subst this
    rw [aY (by omega)];omega
 ·have hzm:z=(m:Int):=by omega
  rw [aK (by simpa using hz)]
  unfold lL
  simp only [hz,decide_false,be]
  have e0:IntKind.i64.wrap (lo:Int)=if lo≤9223372036854775807 then(lo:Int)else(lo:Int)-18446744073709551616:=by
   rw [wk];split<;>omega
  refine⟨IntKind.i64.wrap (lo:Int),?_,fun hr=>?_⟩
  ·congr 2
   apply j5
   rw [e0]
   simp only [my,pZ,sv,kM,DO]
   rw [wk]
   unfold r64
   constructor
   ·rintro⟨h1,h2⟩
    split at h2<;>omega
   ·intro h1
    have:hi=0:=by omega
    subst this
    rw [aY (by omega)]
    refine⟨by omega,.inl ⟨by omega,by omega⟩⟩
  ·rw [e0]
   unfold r64 at hr
   rw [aY (by omega)];omega

theorem wu(aa bb ds:List Int)(s t o:Bool)(nx:Nat→eP→Option eP)(i k j:Nat)(hij:i+j<8)(p e3 e4 c:Nat)(h1:ds[i+j]? =some (p:Int))(h2:aa[i]? =some (e3:Int))(h3:bb[j]? =some (e4:Int))(b1:p<4294967296)(b2:e3<4294967296)(b3:e4<4294967296)(b4:c<4294967296):
  jA ⟨aa,s⟩ ⟨bb,t⟩ nx i (k+1) j (c:Int) ⟨ds,o⟩=jA ⟨aa,s⟩ ⟨bb,t⟩ nx i k (j+1) (((p+e3*e4+c)/4294967296:Nat):Int) ⟨ds.set (i+j) (((p+e3*e4+c)%4294967296:Nat):Int),o⟩:=by
 conv=>lhs;unfold jA
 have hm:e3*e4≤4294967295*4294967295:=xu (by omega) (by omega)
 have hw:IntKind.i64.wrap ((i:Int)+(j:Int))=((i+j:Nat):Int):=by rw [cv (by omega) (by omega)];omega
 rw [hw,U6 hij,bT,h1,bT,h2,bT,h3]
 simp only [be]
 rw [←xP,qP (n:=e3*e4) (by omega),←A7,qP (n:=p+e3*e4) (by omega),←A7,qP (n:=p+e3*e4+c) (by omega),xg,EN]
 rfl
theorem Ql(aa bb:eP)(ds:List Int)(o:Bool)(nx:Nat→eP→Option eP)(i j:Nat)(hi:i<4)(c:Int):jA aa bb nx i 0 j c ⟨ds,o⟩=nx (i+1) ⟨ds.set (i+4) c,o⟩:=by
 conv=>lhs;unfold jA
 have hw:IntKind.i64.wrap ((i:Int)+(4:Int))=((i+4:Nat):Int):=by rw [cv (by omega) (by omega)];omega
 rw [hw,U6 (by omega)]
 rfl
theorem yT(aa bb ds:List Int)(s t o:Bool)(nx:Nat→eP→Option eP)(i:Nat)(hi:i<4)(x y0 y1 p0 p1 p2 p3:Nat)(ha:aa[i]? =some (x:Int))(h0:bb[0]? =some (y0:Int))(h1:bb[1]? =some (y1:Int))(h2:bb[2]? =some 0)(h3:bb[3]? =some 0)
  (q0:ds[i]? =some (p0:Int))(q1:ds[i+1]? =some (p1:Int))(q2:ds[i+2]? =some (p2:Int))(q3:ds[i+3]? =some (p3:Int))(bx:x<4294967296)(by0:y0<4294967296)(by1:y1<4294967296)(b0:p0<4294967296)(b1:p1<4294967296)(b2:p2<4294967296)(b3:p3<4294967296)
  (c1 c2 c3 c4:Nat)(e1:c1=(p0+x*y0+0)/4294967296)(e2:c2=(p1+x*y1+c1)/4294967296)(e3:c3=(p2+x*0+c2)/4294967296)(e4:c4=(p3+x*0+c3)/4294967296):
  jA ⟨aa,s⟩ ⟨bb,t⟩ nx i 4 0 0 ⟨ds,o⟩=nx (i+1) ⟨((((ds.set i (((p0+x*y0+0)%4294967296:Nat):Int)).set (i+1) (((p1+x*y1+c1)%4294967296:Nat):Int)).set (i+2) (((p2+x*0+c2)%4294967296:Nat):Int)).set (i+3) (((p3+x*0+c3)%4294967296:Nat):Int)).set (i+4) ((c4:Nat):Int),o⟩:=by
 have m0:x*y0≤4294967295*4294967295:=xu (by omega) (by omega)
 have m1:x*y1≤4294967295*4294967295:=xu (by omega) (by omega)
 have k1:c1<4294967296:=by omega
 have k2:c2<4294967296:=by omega
 have k3:c3<4294967296:=by omega
 rw [show(0:Int)=((0:Nat):Int)from rfl,wu aa bb ds s t o nx i 3 0 (by omega) p0 x y0 0 q0 ha h0 b0 bx by0 (by omega),←e1]
 rw [wu aa bb _ s t o nx i 2 1 (by omega) p1 x y1 c1 (by rw [G9 (by omega)];exact q1) ha h1 b1 bx by1 k1,←e2]
 rw [wu aa bb _ s t o nx i 1 2 (by omega) p2 x 0 c2 (by rw [G9 (by omega),G9 (by omega)];exact q2) ha h2 b2 bx (by omega) k2,←e3]
 rw [wu aa bb _ s t o nx i 0 3 (by omega) p3 x 0 c3 (by rw [G9 (by omega),G9 (by omega),G9 (by omega)];exact q3) ha h3 b3 bx (by omega) k3,←e4]
 rw [Ql _ _ _ _ _ _ _ hi]
 rfl
theorem aaV(m:Nat):j4 m=[((m%4294967296:Nat):Int),((m/4294967296%4294967296:Nat):Int),((m/4294967296/4294967296%4294967296:Nat):Int),((m/4294967296/4294967296/4294967296%4294967296:Nat):Int),0,0,0,0]:=by
 unfold j4
 rw [JO,JO]
theorem MJ{p0 p1 q0 q1:Nat}(hp0:p0<4294967296)(hp1:p1<4294967296)(hq0:q0<4294967296)(hq1:q1<4294967296)(s t:Bool)(m:Nat)(hm:m=(p1*4294967296+p0)*(q1*4294967296+q0))(hlt:m<340282366920938463463374607431768211456):
  fi ⟨[(p0:Int),(p1:Int),0,0,0,0,0,0],s⟩ ⟨[(q0:Int),(q1:Int),0,0,0,0,0,0],t⟩ 4 0 ⟨List.replicate 8 0,false⟩=some ⟨j4 m,(s !=t)&&decide (m≠0)⟩:=by
 have hA:p0*q0≤4294967295*4294967295:=xu (by omega) (by omega)
 have hC:p0*q1≤4294967295*4294967295:=xu (by omega) (by omega)
 have hD:p1*q0≤4294967295*4294967295:=xu (by omega) (by omega)
 have hE:p1*q1≤4294967295*4294967295:=xu (by omega) (by omega)
 have hme:m=4294967296*(4294967296*(p1*q1)+p1*q0+p0*q1)+p0*q0:=by
  rw [hm]
  simp only [u8,Nat.mul_add]
  have h1:p1*4294967296*(q1*4294967296)=4294967296*(4294967296*(p1*q1)):=by
   rw [Nat.mul_mul_mul_comm,Nat.mul_comm (p1*q1),Nat.mul_assoc]
  have h2:p1*4294967296*q0=4294967296*(p1*q0):=by rw [Nat.mul_right_comm,Nat.mul_comm]
  have h3:p0*(q1*4294967296)=4294967296*(p0*q1):=by rw [←Nat.mul_assoc,Nat.mul_comm]
  rw [h1,h2,h3];omega
 obtain⟨c1,e1⟩: ∃c,c=(0+p0*q0+0)/4294967296:=⟨_,rfl⟩
 obtain⟨c2,e2⟩: ∃c,c=(0+p0*q1+c1)/4294967296:=⟨_,rfl⟩
 have k1:c1<4294967296:=by omega
 have k2:c2<4294967296:=by omega
 obtain⟨d1,f1⟩: ∃c,c=(0+p0*q1+c1)%4294967296:=⟨_,rfl⟩
 have l1:d1<4294967296:=by omega
 obtain⟨c3,e3⟩: ∃c,c=(d1+p1*q0+0)/4294967296:=⟨_,rfl⟩
 have k3:c3<4294967296:=by omega
 obtain⟨c4,e4⟩: ∃c,c=(c2+p1*q1+c3)/4294967296:=⟨_,rfl⟩
 have k4:c4<4294967296:=by omega
 obtain⟨d0,f0⟩: ∃c,c=(0+p0*q0+0)%4294967296:=⟨_,rfl⟩
 obtain⟨g1,f2⟩: ∃c,c=(d1+p1*q0+0)%4294967296:=⟨_,rfl⟩
 obtain⟨g2,f3⟩: ∃c,c=(c2+p1*q1+c3)%4294967296:=⟨_,rfl⟩
 have l0:d0<4294967296:=by omega
 have l2:g1<4294967296:=by omega
 have l3:g2<4294967296:=by omega
 have z: ∀x:Nat,0+x*0+0=0:=fun x=>by omega
 -- row 0
 conv=>lhs;unfold fi
 rw [yT _ _ _ s t false _ 0 (by omega) p0 q0 q1 0 0 0 0 rfl rfl rfl rfl rfl rfl rfl rfl rfl hp0 hq0 hq1 (by omega) (by omega) (by omega) (by omega) c1 c2 0 0 e1 e2 (by omega) (by omega)]
 rw [←f0,←f1,show(0+p0*0+c2)%4294967296=c2 from by omega,show(0+p0*0+0)%4294967296=0 from by omega]
 show fi _ _ 3 1 ⟨[(d0:Int),(d1:Int),(c2:Int),0,0,0,0,0],false⟩=_
 -- row 1
 conv=>lhs;unfold fi
 rw [yT _ _ _ s t false _ 1 (by omega) p1 q0 q1 d1 c2 0 0 rfl rfl rfl rfl rfl rfl rfl rfl rfl hp1 hq0 hq1 l1 k2 (by omega) (by omega) c3 c4 0 0 e3 e4 (by omega) (by omega)]
 rw [←f2,←f3,show(0+p1*0+c4)%4294967296=c4 from by omega,show(0+p1*0+0)%4294967296=0 from by omega]
 show fi _ _ 2 2 ⟨[(d0:Int),(g1:Int),(g2:Int),(c4:Int),0,0,0,0],false⟩=_
 -- row 2
 conv=>lhs;unfold fi
 rw [yT _ _ _ s t false _ 2 (by omega) 0 q0 q1 g2 c4 0 0 rfl rfl rfl rfl rfl rfl rfl rfl rfl (by omega) hq0 hq1 l3 k4 (by omega) (by omega) 0 0 0 0 (by omega) (by omega) (by omega) (by omega)]
 rw [show(g2+0*q0+0)%4294967296=g2 from by omega,show(c4+0*q1+0)%4294967296=c4 from by omega]
 show fi _ _ 1 3 ⟨[(d0:Int),(g1:Int),(g2:Int),(c4:Int),0,0,0,0],false⟩=_
 -- row 3
 conv=>lhs;unfold fi
 rw [yT _ _ _ s t false _ 3 (by omega) 0 q0 q1 c4 0 0 0 rfl rfl rfl rfl rfl rfl rfl rfl rfl (by omega) hq0 hq1 k4 (by omega) (by omega) (by omega) 0 0 0 0 (by omega) (by omega) (by omega) (by omega)]
 rw [show(c4+0*q0+0)%4294967296=c4 from by omega,show(0+0*q1+0)%4294967296=0 from by omega]
 show fi _ _ 0 4 ⟨[(d0:Int),(g1:Int),(g2:Int),(c4:Int),0,0,0,0],false⟩=_
 have hd:[(d0:Int),(g1:Int),(g2:Int),(c4:Int),0,0,0,0]=j4 m:=by
  rw [aaV]
  generalize p0*q0=A at*
  generalize p0*q1=C at*
  generalize p1*q0=D at*
  generalize p1*q1=E at*
  have r1:m/4294967296=4294967296*E+D+C+c1:=by omega
  have r2:m/4294967296/4294967296=c2+E+c3:=by rw [r1];omega
  have r3:m/4294967296/4294967296/4294967296=c4:=by rw [r2];omega
  have w0:m%4294967296=d0:=by omega
  have w1:(4294967296*E+D+C+c1)%4294967296=g1:=by omega
  have w2:(c2+E+c3)%4294967296=g2:=f3.symm
  have w3:c4%4294967296=c4:=by omega
  rw [r3,r2,r1,w0,w1,w2,w3]
 rw [hd]
 unfold fi
 cases hst:(s !=t)with
 |false=>rfl
 |true=>
  simp only [eg]
  rw [EE hlt]
  simp
theorem TN(hx:x.natAbs≤9223372036854775808)(hy:y.natAbs≤9223372036854775808):uM (lR x) (lR y)=some (lR (x*y)):=by
 have hpr:=KH x y
 have hna:(x*y).natAbs=x.natAbs*y.natAbs:=Int.natAbs_mul x y
 have hle:x.natAbs*y.natAbs≤9223372036854775808*9223372036854775808:=xu hx hy
 unfold uM lR
 rw [vW (m:=x.natAbs) (by omega),vW (m:=y.natAbs) (by omega)]
 rw [MJ (m:=x.natAbs*y.natAbs) (by omega) (by omega) (by omega) (by omega) _ _ (by congr 1<;>omega) (by omega)]
 rw [hna]
 congr 2
 apply j5
 simp only [my,kM]
 generalize x.natAbs*y.natAbs=m at*
 generalize (decide (x<0) !=decide (y<0))=b at*
 rw [hpr]
 cases b with
 |true=>simp only [eg,true_and];omega
 |false=>simp only [gm,d9,false_and];constructor;exact False.elim;omega

theorem aaA(a b:Int):cN [a,b,0,0,0,0,0,0] 1=some b:=rfl
theorem aaB(a b:Int):cN [a,b,0,0,0,0,0,0] 0=some a:=rfl
theorem aai(a b:Int):((List.replicate 8 (0:Int)).set 0 a).set 1 b=[a,b,0,0,0,0,0,0]:=rfl
theorem Qu(p0 p1 q0 q1:Nat)(s t:Bool)(hp0:p0<4294967296)(hp1:p1<4294967296)(hq0:q0<4294967296)(hq1:q1<4294967296)(p q:Nat)(hp:p1*4294967296+p0=p)(hq:q1*4294967296+q0=q)(h0:q≠0):
  ov ⟨[(p0:Int),(p1:Int),0,0,0,0,0,0],s⟩ ⟨[(q0:Int),(q1:Int),0,0,0,0,0,0],t⟩=some ⟨j4 (p/q),(s !=t)&&(((p/q:Nat):Int) !=0)⟩:=by
 unfold ov
 rw [aaA,aaB,aaA,aaB]
 rw [be,be,be,be]
 rw [yV _ _ hp1 hp0,yV _ _ hq1 hq0,hp,hq]
 have hn:nz (q:Int)=some ():=by
  unfold nz
  rw [aK (by omega)]
 have hle:p/q≤p:=Nat.div_le_self _ _
 have ht:((p:Nat):Int).tdiv (q:Int)=((p/q:Nat):Int):=rfl
 rw [hn,be,ht,qP (by omega),EN,xg,aai,vW (by omega)]
theorem Mg(hx:x.natAbs≤9223372036854775808)(hy:y.natAbs≤9223372036854775808)(h0:y≠0):ov (lR x) (lR y)=some (lR (x.tdiv y)):=by
 have hq:=KF x y
 have hna:(x.tdiv y).natAbs=x.natAbs/y.natAbs:=Int.natAbs_tdiv x y
 unfold lR
 rw [vW (m:=x.natAbs) (by omega),vW (m:=y.natAbs) (by omega)]
 rw [Qu _ _ _ _ _ _ (by omega) (by omega) (by omega) (by omega) x.natAbs y.natAbs (by omega) (by omega) (by omega),hna]
 generalize x.natAbs/y.natAbs=m at*
 have hf:((decide (x<0) !=decide (y<0))&&((m:Int) !=0))=decide (x.tdiv y<0):=by
  apply j5
  rw [hq]
  generalize (decide (x<0) !=decide (y<0))=b
  cases b with
  |true=>simp only [u9,qR,o8,kM,eg];omega
  |false=>simp only [Ev,gm,d9,kM,false_iff];omega
 rw [hf]
variable{r:ci}{v:ac}
theorem yU(h:z.natAbs<340282366920938463463374607431768211456):((iZ (lR z)).bind fun r=>if(!r.2)=true then some (zV,(140:Int))else(kD r.1).bind fun v=>some (v,(0:Int)))=some (if r64 z then(iV z,0)else(zV,140)):=by
 obtain⟨n,h1,h2⟩:=Me h
 rw [h1]
 simp only [be]
 by_cases hr:r64 z
 ·rw [aY hr,h2 hr,aK (by simp [hr])];rfl
 ·rw [aK hr,aY (by simp [hr])]
theorem OF(v:ac)(h:fT v=true):pG v=some ((v.Kind==0)||(v.Kind==2)):=by
 unfold pG
 rw [ga,h];rfl
theorem Ag(h:r64 x):x.natAbs≤9223372036854775808:=by unfold r64 at h;omega
variable{tag:Int}
theorem PO(h: ¬((a.Kind=0∨a.Kind=2)∧(b.Kind=0∨b.Kind=2))):xz tag a b=(zV,2):=aK h
theorem TH(h:(a.Kind=0∨a.Kind=2)∧(b.Kind=0∨b.Kind=2))(h2:a.Kind=0∨b.Kind=0):xz tag a b=(zV,0):=by
 unfold xz
 rw [aY h,aY h2]
theorem WR(ht:tag=12∨tag=13∨tag=14∨tag=15)(ha:Pl a)(hb:Pl b)(h:(a.Kind=0∨a.Kind=2)∧(b.Kind=0∨b.Kind=2))(h2: ¬(a.Kind=0∨b.Kind=0)):xz tag a b=GE tag a.N b.N:=by
 unfold xz
 rw [aY h,aK h2,WT ht ha.r64 hb.r64]
def aal(tag:Int):Int:=if tag=12 then 43 else if tag=13 then 45 else if tag=14 then 42 else 47
theorem adb(hx:r64 x)(hy:r64 y):((fV x).bind fun r4=>(fV y).bind fun r5=>(mV r4 r5).bind fun r6=>(iZ r6).bind fun r7=>if(!r7.2)=true then some (zV,(140:Int))else(kD r7.1).bind fun r8=>some (r8,(0:Int)))=some (GE 12 x y):=by
 rw [jx hx,jx hy,be,be,PS (Ag hx) (Ag hy),be,pS (Xz _ _)]
 have:=Ag hx
 have:=Ag hy
 exact yU (by omega)
theorem ada(hx:r64 x)(hy:r64 y):((fV x).bind fun r9=>(fV y).bind fun r10=>(sW r10).bind fun r11=>(mV r9 r11).bind fun r12=>(iZ r12).bind fun r13=>if(!r13.2)=true then some (zV,(140:Int))else(kD r13.1).bind fun r14=>some (r14,(0:Int)))=some (GE 13 x y):=by
 have h1:=Ag hx
 have h2:=Ag hy
 rw [jx hx,jx hy,be,be,Q6 (by omega),be,PS h1 (by rw [Int.natAbs_neg];exact h2),be,pS (Xy _ _),←Int.sub_eq_add_neg]
 exact yU (by omega)
theorem ac9(hx:r64 x)(hy:r64 y):((fV x).bind fun r15=>(fV y).bind fun r16=>(uM r15 r16).bind fun r17=>(iZ r17).bind fun r18=>if(!r18.2)=true then some (zV,(140:Int))else(kD r18.1).bind fun r19=>some (r19,(0:Int)))=some (GE 14 x y):=by
 have h1:=Ag hx
 have h2:=Ag hy
 rw [jx hx,jx hy,be,be,TN h1 h2,be,pS (Xx _ _)]
 have h3:x.natAbs*y.natAbs≤85070591730234615865843651857942052864:=xu h1 h2
 exact yU (by rw [Int.natAbs_mul];omega)
theorem ac8(hx:r64 x)(hy:r64 y)(h0:y≠0):((fV x).bind fun r20=>(fV y).bind fun r21=>(ov r20 r21).bind fun r22=>(iZ r22).bind fun r23=>if(!r23.2)=true then some (zV,(140:Int))else(kD r23.1).bind fun r24=>some (r24,(0:Int)))=some (GE 15 x y):=by
 have h1:=Ag hx
 have h2:=Ag hy
 rw [jx hx,jx hy,be,be,Mg h1 h2 h0,be,pS (z:=x.tdiv y) (by rw [Py,aK h0])]
 have h3:(x.tdiv y).natAbs=x.natAbs/y.natAbs:=Int.natAbs_tdiv _ _
 have h4:x.natAbs/y.natAbs≤x.natAbs:=Nat.div_le_self _ _
 exact yU (by omega)
theorem X3(ht:tag=12∨tag=13∨tag=14∨tag=15)(ha:Pl a)(hb:Pl b):jb (aal tag) a b=some (xz tag a b):=by
 have hra:=ha.r64
 have hrb:=hb.r64
 unfold jb
 rw [ga,ga,ha.right,hb.right,OF a ha.right,OF b hb.right]
 rw [be,aY (by decide),be,be,aK (by decide),be,be]
 by_cases h1:a.Kind=0∨a.Kind=2
 ·have e1:((a.Kind==0)||(a.Kind==2))=true:=by simpa using h1
  rw [e1,aY (by decide)]
  by_cases h2:b.Kind=0∨b.Kind=2
  ·have e2:((b.Kind==0)||(b.Kind==2))=true:=by simpa using h2
   rw [e2,be,aK (by decide)]
   by_cases h3:a.Kind=0∨b.Kind=0
   ·rw [TH ⟨h1,h2⟩ h3,aY (by simpa using h3)];rfl
   ·rw [WR ht ha hb ⟨h1,h2⟩ h3,aK (by simpa using h3)]
    rcases ht with rfl|rfl|rfl|rfl
    ·rw [aY (by decide)]
     exact adb hra hrb
    ·rw [aK (by decide),aY (by decide)]
     exact ada hra hrb
    ·rw [aK (by decide),aK (by decide),aY (by decide)]
     exact ac9 hra hrb
    ·rw [aK (by decide),aK (by decide),aK (by decide)]
     by_cases h0:b.N=0
     ·rw [aY (by simpa using h0),Hq (by rw [Py,aY h0])];rfl
     ·rw [aK (by simpa using h0)]
      exact ac8 hra hrb h0
  ·have e2:((b.Kind==0)||(b.Kind==2))=false:=by simpa using h2
   rw [e2,be,aY (by decide),PO (fun h=>h2 h.2)];rfl
 ·have e1:((a.Kind==0)||(a.Kind==2))=false:=by simpa using h1
  rw [e1,aK (by decide),be,aY (by decide),PO (fun h=>h1 h.1)];rfl

variable{α:Type}{xs:List α}
theorem HC{s:xC}{x:UInt8}{xs:List UInt8}(h:s.drop i=x::xs):QJ s (i:Int)=some (x.toNat:Int):=by
 unfold QJ
 rw [bT]
 have:s[i]? =some x:=by
  have h2:(s.drop i)[0]? =some x:=by rw [h];rfl
  rw [xK]at h2
  exact h2
 rw [this];rfl
theorem HO{s:List α}{x:α}(h:s.drop i=x::xs):s.drop (i+1)=xs:=by
 rw [←qL,h];rfl
theorem Zy(a b:ac): ∀(xs ys:List UInt8) (i n:Nat),a.S.drop i=xs→b.S.drop i=ys→a.S.length=i+xs.length→b.S.length=i+ys.length→xs.length<n→a.S.length≤100000→mi a b n (i:Int)=some (Lib.compareBytes xs ys):=by
 intro xs
 induction xs with
 |nil=>
  intro ys i n h1 h2 l1 l2 hn _
  obtain⟨m,rfl⟩: ∃m,n=m+1:=⟨n-1,by simp at hn;omega⟩
  simp only [pY,xD]at l1
  unfold mi
  have e1:decide ((i:Int)<(a.S.length:Int))=false:=by simp;omega
  rw [e1,Ev,aK (by decide)]
  cases ys with
  |nil=>
   simp only [pY,xD]at l2
   rw [aK (by simp;omega)];rfl
  |cons y ys=>
   simp only [iY]at l2
   rw [aY (by simp;omega),aY (by simp;omega)];rfl
 |cons x xs ih=>
  intro ys i n h1 h2 l1 l2 hn hl
  obtain⟨m,rfl⟩: ∃m,n=m+1:=⟨n-1,by simp at hn;omega⟩
  simp only [iY]at l1 hn
  unfold mi
  have e1:decide ((i:Int)<(a.S.length:Int))=true:=by simp;omega
  rw [e1,u9]
  cases ys with
  |nil=>
   simp only [pY,xD]at l2
   rw [aK (by simp;omega),aY (by simp;omega),aK (by simp;omega)];rfl
  |cons y ys=>
   simp only [iY]at l2
   rw [aY (by simp;omega),HC h1,HC h2]
   simp only [be]
   unfold Lib.compareBytes
   by_cases h:x=y
   ·subst h
    have hlt: ¬x<x:=by rw [Ow];omega
    rw [aK (by simp),aK hlt,aK hlt,cv (by omega) (by omega)]
    exact ih ys (i+1) m (HO h1) (HO h2) (by omega) (by omega) (by omega) hl
   ·have hne:x.toNat≠y.toNat:=fun hh=>h (UInt8.toNat_inj.1 hh)
    rw [aY (by simp;omega)]
    by_cases hlt:x<y
    ·have:=Ow.1 hlt
     rw [aY hlt,aY (by simp;omega)]
    ·have h3: ¬x.toNat<y.toNat:=fun hh=>hlt (Ow.2 hh)
     have h4:y<x:=Ow.2 (by omega)
     rw [aK hlt,aY h4,aK (by simp;omega)]
theorem Pl.short(h:Pl v):v.S.length≤40:=by
 cases h with
 |z=>simp [zV]
 |b b=>simp [bV]
 |i n h=>simp [iV]
 |s s h=>exact h
def sg(x y:Int):Int:=if x<y then -1 else if y<x then 1 else 0
theorem Oa(x y:Int):gX x y=some (sg x y):=by
 unfold gX nT sg
 simp only [zP,be,gm,d9,kM]
 by_cases h1:x<y
 ·rw [aY h1,aY h1]
 ·rw [aK h1,aK h1]
  by_cases h2:y<x
  ·rw [aY h2,aY h2]
  ·rw [aK h2,aK h2]
theorem Jw(x y:Int):gQ x y=some (sg x y):=by
 unfold gQ li sg
 simp only [zP,be,gm,d9,kM]
 by_cases h1:x<y
 ·rw [aY h1,aY h1]
 ·rw [aK h1,aK h1]
  by_cases h2:y<x
  ·rw [aY h2,aY h2]
  ·rw [aK h2,aK h2]
theorem WG(x y z:Int):nf [x,y,z]=some (if x≠0 then x else if y≠0 then y else z):=by
 unfold nf gj gj gj gj
 by_cases h1:x=0<;>by_cases h2:y=0<;>by_cases h3:z=0<;>simp [h1,h2,h3]
theorem Jx(ha:Pl a)(hb:Pl b):F3 a b=if sg a.Kind b.Kind≠0 then sg a.Kind b.Kind else if sg a.N b.N≠0 then sg a.N b.N else Lib.compareBytes a.S b.S:=by
 unfold F3 lF
 rw [ha.plain_eq,hb.plain_eq,be,aY (by decide),be,be,aK (by decide),Oa,Jw,be,be]
 have:pp a.S b.S=some (Lib.compareBytes a.S b.S):=rfl
 rw [this,be,WG];rfl
theorem RN(x:Int):sg x x=0:=by unfold sg;rw [aK (by omega),aK (by omega)]
theorem OL(h:x≠y):sg x y=(if x<y then -1 else 1)∧sg x y≠0:=by
 unfold sg
 by_cases h1:x<y
 ·rw [aY h1,aY h1];exact⟨rfl,by decide⟩
 ·rw [aK h1,aK h1,aY (by omega)];exact⟨rfl,by decide⟩
theorem ZB(ha:Pl a)(hb:Pl b)(h:a.Kind≠b.Kind):F3 a b=if a.Kind<b.Kind then -1 else 1:=by
 rw [Jx ha hb,aY (OL h).2,(OL h).1]
theorem ZA(ha:Pl a)(hb:Pl b)(h:a.Kind=b.Kind)(h2:a.N≠b.N):F3 a b=if a.N<b.N then -1 else 1:=by
 rw [Jx ha hb,h,RN,aK (by decide),aY (OL h2).2,(OL h2).1]
theorem Zz(ha:Pl a)(hb:Pl b)(h:a.Kind=b.Kind)(h2:a.N=b.N):F3 a b=Lib.compareBytes a.S b.S:=by
 rw [Jx ha hb,h,RN,aK (by decide),h2,RN,aK (by decide)]
theorem Cs(ha:Pl a)(hb:Pl b):pc a b=some (F3 a b):=by
 unfold pc
 rw [jB,jB,ha.plain,hb.plain,be,aY (by decide),be,be,aK (by decide)]
 by_cases h1:a.Kind=b.Kind
 ·rw [aK (by simpa using h1)]
  by_cases h2:a.N=b.N
  ·rw [aK (by simpa using h2),Zz ha hb h1 h2]
   have h4:=ha.short
   have h5:=m4 (n:=41) (by omega)
   exact Zy a b a.S b.S 0 iN rfl rfl (by omega) (by omega) (by omega) (by omega)
  ·rw [aY (by simpa using h2),ZA ha hb h1 h2]
   by_cases h3:a.N<b.N
   ·rw [aY h3,aY (by simpa using h3)]
   ·rw [aK h3,aK (by simpa using h3)]
 ·rw [aY (by simpa using h1),ZB ha hb h1]
  by_cases h3:a.Kind<b.Kind
  ·rw [aY h3,aY (by simpa using h3)]
  ·rw [aK h3,aK (by simpa using h3)]
theorem ve(b:Bool):kT b=some (bV b):=by cases b<;>rfl
theorem WN(ha:Pl a)(hb:Pl b):tX a b=some (if a.Kind≠0∧b.Kind≠0∧a.Kind≠b.Kind then 2 else 0):=by
 unfold tX
 rw [ga,ga,ha.right,hb.right,be,aY (by decide),be,be,aK (by decide)]
 rw [jB,jB,ha.plain,hb.plain,be,aY (by decide),be,be]
 by_cases h:a.Kind≠0∧b.Kind≠0∧a.Kind≠b.Kind
 ·rw [aY h,aY (by simp [h])]
 ·rw [aK h,aK (by simp;intro h1 h2;exact Classical.byContradiction fun h3=>h ⟨h1,h2,h3⟩)]
theorem KA(ha:Pl a)(hb:Pl b)(f:Int→Bool):((tX a b).bind fun r=>if(((r !=(0:Int))||(a.Kind==(0:Int)))||(b.Kind==(0:Int)))=true then some ((⟨(0:Int),(0:Int),(0:Int),[]⟩:ac),r)else(pc a b).bind fun r1=>(kT (f r1)).bind fun r2=>some (r2,(0:Int)))=some (eJ f a b):=by
 rw [WN ha hb,be]
 by_cases h0:a.Kind=0∨b.Kind=0
 ·have hne: ¬(a.Kind≠0∧b.Kind≠0∧a.Kind≠b.Kind):=fun h=>h0.elim h.1 h.2.1
  have e:eJ f a b=(zV,0):=aY h0
  rw [aK hne,e,aY (by rcases h0 with h|h<;>simp [h])];rfl
 ·have h1:a.Kind≠0:=fun h=>h0 (.inl h)
  have h2:b.Kind≠0:=fun h=>h0 (.inr h)
  by_cases h3:a.Kind=b.Kind
  ·have hne: ¬(a.Kind≠0∧b.Kind≠0∧a.Kind≠b.Kind):=fun h=>h.2.2 h3
   have e:eJ f a b=(bV (f (F3 a b)),0):=by unfold eJ;rw [aK h0,aY h3]
   rw [aK hne,e,aK (by simp [h1,h2]),Cs ha hb,be,ve];rfl
  ·have hp:a.Kind≠0∧b.Kind≠0∧a.Kind≠b.Kind:=⟨h1,h2,h3⟩
   have e:eJ f a b=(zV,2):=by unfold eJ;rw [aK h0,aK h3]
   rw [aY hp,e,aY (by simp)];rfl
theorem yj(ha:Pl a)(hb:Pl b):r0 a b=some (eJ (fun c=>c==0) a b):=KA ha hb _
theorem rF(ha:Pl a)(hb:Pl b):mW a b=some (eJ (fun c=>decide (c<0)) a b):=KA ha hb _
theorem Cj(ha:Pl a)(hb:Pl b):qj a b=some (if a.Kind≤1∧b.Kind≤1 then 0 else 2):=by
 unfold qj
 rw [ga,ga,ha.right,hb.right,be,aY (by decide),be,be,aK (by decide)]
 by_cases h:a.Kind≤1∧b.Kind≤1
 ·rw [aY h,aK (by simp;omega)]
 ·rw [aK h,aY (by simp;omega)]
theorem Bq(h:Tu a):jm a=some (GN a,0):=by
 cases h with
 |z=>rfl
 |b b=>cases b<;>rfl
theorem IK(ha:Tu a)(hb:Tu b):te a b=some (F8 a b,0):=by
 cases ha with
 |z=>cases hb with
  |z=>rfl
  |b b=>cases b<;>rfl
 |b x=>cases hb with
  |z=>cases x<;>rfl
  |b b=>cases x<;>cases b<;>rfl
theorem KC(ha:Tu a)(hb:Tu b):yi a b=some (T8 a b,0):=by
 cases ha with
 |z=>cases hb with
  |z=>rfl
  |b b=>cases b<;>rfl
 |b x=>cases hb with
  |z=>cases x<;>rfl
  |b b=>cases x<;>cases b<;>rfl
theorem IJ(ha:Pl a):jm a=some (if a.Kind≤1 then(GN a,0)else(zV,2)):=by
 by_cases h:a.Kind≤1
 ·rw [aY h];exact Bq ((jh ha).2 h)
 ·rw [aK h]
  unfold jm
  rw [Cj ha ha,aK (fun k=>h k.1)];rfl
theorem IL(ha:Pl a)(hb:Pl b):te a b=some (if a.Kind≤1∧b.Kind≤1 then(F8 a b,0)else(zV,2)):=by
 by_cases h:a.Kind≤1∧b.Kind≤1
 ·rw [aY h];exact IK ((jh ha).2 h.1) ((jh hb).2 h.2)
 ·rw [aK h]
  unfold te
  rw [Cj ha hb,aK h];rfl
theorem KD(ha:Pl a)(hb:Pl b):yi a b=some (if a.Kind≤1∧b.Kind≤1 then(T8 a b,0)else(zV,2)):=by
 by_cases h:a.Kind≤1∧b.Kind≤1
 ·rw [aY h];exact KC ((jh ha).2 h.1) ((jh hb).2 h.2)
 ·rw [aK h]
  unfold yi
  rw [Cj ha hb,aK h];rfl
theorem Ft{f:Int→Bool}{x y:ac}:((jm (eJ f x y).1).bind fun r=>some (r.1,(eJ f x y).2))=some (Fu (eJ f x y)):=by
 unfold Fu
 by_cases h0:(eJ f x y).2=0
 ·rw [aY h0,Bq (sf f x y h0),be,h0]
 ·rw [aK h0,CC f x y h0];rfl
theorem GG{k:Nat}(h:pk tag=some k)(hk:k≠0)(ha:Pl a)(hb:Pl b):Fb tag a b=some (Cu tag a b):=by
 have op: ∀t,t=12∨t=13∨t=14∨t=15→jb (aal t) a b=some (xz t a b):=fun t ht=>X3 ht ha hb
 rcases RX h hk with rfl|rfl|rfl|rfl|rfl|rfl|rfl|rfl|rfl|rfl|rfl|rfl|rfl|rfl|rfl|rfl
 ·have h2:jb 45 (iV 0) a=some (xz 13 (iV 0) a):=X3 (tag:=13) (.inr (.inl rfl)) (.i 0 ⟨by decide,by decide⟩) ha
  show(jb 45 (iV 0) a).bind _=_
  rw [h2];rfl
 ·show(jm a).bind _=some (if a.Kind≤1 then(GN a,0)else(zV,2))
  rw [IJ ha];rfl
 ·show(kT (a.Kind==0)).bind _=some (bV (a.Kind==0),0)
  rw [ve];rfl
 ·show(kT (a.Kind !=0)).bind _=some (bV (a.Kind !=0),0)
  rw [ve];rfl
 ·show(jb 43 a b).bind _=some (xz 12 a b)
  rw [show jb 43 a b=some (xz 12 a b)from op 12 (.inl rfl)];rfl
 ·show(jb 45 a b).bind _=some (xz 13 a b)
  rw [show jb 45 a b=some (xz 13 a b)from op 13 (.inr (.inl rfl))];rfl
 ·show(jb 42 a b).bind _=some (xz 14 a b)
  rw [show jb 42 a b=some (xz 14 a b)from op 14 (.inr (.inr (.inl rfl)))];rfl
 ·show(jb 47 a b).bind _=some (xz 15 a b)
  rw [show jb 47 a b=some (xz 15 a b)from op 15 (.inr (.inr (.inr rfl)))];rfl
 ·show((r0 a b).bind fun r=>some (r.1,r.2)).bind _=some (eJ (fun c=>c==0) a b)
  rw [yj ha hb];rfl
 ·show((r0 a b).bind fun r=>(jm r.1).bind fun r4=>some (r4.1,r.2)).bind _=some (Fu (eJ (fun c=>c==0) a b))
  rw [yj ha hb,be,Ft];rfl
 ·show((mW a b).bind fun r=>some (r.1,r.2)).bind _=some (eJ (fun c=>decide (c<0)) a b)
  rw [rF ha hb];rfl
 ·show((mW b a).bind fun r=>(jm r.1).bind fun r4=>some (r4.1,r.2)).bind _=some (Fu (eJ (fun c=>decide (c<0)) b a))
  rw [rF hb ha,be,Ft];rfl
 ·show((mW b a).bind fun r=>some (r.1,r.2)).bind _=some (eJ (fun c=>decide (c<0)) b a)
  rw [rF hb ha];rfl
 ·show((mW a b).bind fun r=>(jm r.1).bind fun r4=>some (r4.1,r.2)).bind _=some (Fu (eJ (fun c=>decide (c<0)) a b))
  rw [rF ha hb,be,Ft];rfl
 ·show(te a b).bind _=some (if a.Kind≤1∧b.Kind≤1 then(F8 a b,0)else(zV,2))
  rw [IL ha hb];rfl
 ·show(yi a b).bind _=some (if a.Kind≤1∧b.Kind≤1 then(T8 a b,0)else(zV,2))
  rw [KD ha hb];rfl

theorem Yx(h:pk tag=some 1)(a b c:ac):Cu tag a b=Cu tag a c:=by
 have h4:tag=4∨tag=5∨tag=6∨tag=7:=by
  unfold pk at h
  repeat' split at h
  all_goals simp at h
  omega
 rcases h4 with rfl|rfl|rfl|rfl<;>rfl
theorem aaU(h:pk tag=some 1)(a b c:ac):dz tag a b=dz tag a c:=by
 unfold dz
 rw [Yx h a b c]
theorem Gl(nx:List ac→ac→Option (ac×Int))(m:bp)(own:List ac)(x a b:ac){k:Nat}(h:pk m.Tag=some k)(hk:k≠0)(ha:Pl a)(hb:Pl b)(hl:own.length≤60000):rE nx m own x a b=if(dz m.Tag a b).2=0 then nx (own++[(dz m.Tag a b).1]) x else some (dz m.Tag a b):=by
 unfold rE
 rw [GG h hk ha hb,be]
 rcases vV h hk ha hb with⟨h1,_,h3⟩|⟨h1,h2⟩|⟨h1,h2,_⟩
 ·rw [h3]at h1 ⊢
  rw [aY h1,aK (by simp [h1]),aK (by simp [h1]),cq (by simp;omega)];rfl
 ·rw [h1,h2];rfl
 ·rw [h1,h2];rfl
theorem Qr(r:List ac)(x:ac)(t:Tr):t.wf→T7 t→yK r t→ ∀(rest:List bp) (own:List ac),own.length+t.size≤50000→
  ((ev r t).2≠0∧df r (t.flat own.length++rest) own x=some (ev r t))∨
  ((ev r t).2=0∧ ∃w:List ac,w.length+1=t.size∧df r (t.flat own.length++rest) own x=df r rest (own++w++[(ev r t).1]) x):=by
 induction t with
 |lf n=>
  intro⟨h1,h2,h3,h4⟩ hr hc rest own hl
  simp only [Tr.flat,Tr.size,wl,kz]at hl ⊢
  refine .inr ?_
  have e1:(ie n (-1) (-1)).Tag=n.Tag:=rfl
  have ev0:(ev r (.lf n))=if n.Tag=1 then(n.Value,0)else((r[n.Col.toNat]?).getD zV,0):=rfl
  rcases ZQ h1 with ht|ht
  ·rw [ev0,aY ht]
   refine⟨rfl,[],rfl,?_⟩
   rw [df]
   rw [e1,aY (by simp [ht]),cq (by simp;omega)]
   simp only [be,sw]
   rfl
  ·rw [ev0,aK (by simp [ht])]
   refine⟨rfl,[],rfl,?_⟩
   have hb:=N9 h2 ht
   obtain⟨_,v,hv,_⟩:=hc ht
   have e2:(ie n (-1) (-1)).Col=n.Col:=rfl
   rw [df]
   rw [e1,aK (by simp [ht]),aY (by simp [ht]),e2,hJ n.Col.toNat (by omega),hv]
   simp only [be,sw,G3]
   rw [cq (by simp;omega)]
   rfl
 |un n a ih=>
  intro⟨⟨h1,h2,h3,h4⟩,ha⟩ hr hc rest own hl
  have hap:=a.size_pos
  simp only [Tr.flat,Tr.size,jX]at hl ⊢
  obtain⟨m,hm⟩: ∃m,m=ie n (((own.length+a.size:Nat):Int)-1) (-1):=⟨_,rfl⟩
  rw [←hm]
  rw [PA]
  rcases ih ha hr hc ([m]++rest) own (by omega)with⟨hx,he⟩|⟨hx,w,hw,he⟩
  ·rw [jq hx]
   exact .inl ⟨hx,he⟩
  ·rw [he,nD hx]
   have hpl:Pl (ev r a).1:=by
    rcases ny r a ha hr hc with⟨_,h⟩|h|h
    ·exact h
    ·rw [h]at hx;cases hx
    ·rw [h]at hx;cases hx
   generalize (ev r a).1=v at hpl ⊢
   simp only [wl,kz]
   have e1:m.Tag=n.Tag:=by rw [hm];rfl
   have eL:m.L=((own.length+a.size:Nat):Int)-1:=by rw [hm];rfl
   have eR:m.R= -1:=by rw [hm];rfl
   have n1:n.Tag≠1:=fun h=>by rw [h]at h1;simp [pk]at h1
   have n2:n.Tag≠2:=fun h=>by rw [h]at h1;simp [pk]at h1
   have hstep:df r (m::rest) (own++w++[v]) x=if(dz n.Tag v v).2=0 then df r rest (own++w++[v]++[(dz n.Tag v v).1]) x else some (dz n.Tag v v):=by
    rw [df]
    rw [e1,aK (by simpa using n1),aK (by simpa using n2)]
    rw [eL,eR,hJ (own++w).length (by simp;omega),tA (dh _),zy]
    simp only [Gs,be]
    rw [aK (by decide),show(⟨0,0,0,[]⟩:ac)=zV from rfl,Gl _ m _ x v zV (by rw [e1];exact h1) (by decide) hpl .z (by simp;omega),e1,aaU h1 v _ v]
   rw [hstep]
   by_cases hb:(dz n.Tag v v).2=0
   ·rw [aY hb]
    exact .inr ⟨hb,w++[v],by simp;omega,by simp⟩
   ·rw [aK hb]
    exact .inl ⟨hb,rfl⟩
 |bi n a b iha ihb=>
  intro⟨⟨h1,h2,h3,h4⟩,ha,hb⟩ ⟨hra,hrb⟩ ⟨hca,hcb⟩ rest own hl
  have hap:=a.size_pos
  have hbp:=b.size_pos
  simp only [Tr.flat,Tr.size,jX]at hl ⊢
  obtain⟨m,hm⟩: ∃m,m=ie n (((own.length+a.size:Nat):Int)-1) (((own.length+a.size+b.size:Nat):Int)-1):=⟨_,rfl⟩
  rw [←hm]
  rw [PB]
  rcases iha ha hra hca (b.flat (own.length+a.size)++([m]++rest)) own (by omega)with⟨hx,he⟩|⟨hx,w,hw,he⟩
  ·rw [jq hx]
   exact .inl ⟨hx,he⟩
  ·rw [he,nD hx]
   have hpl:Pl (ev r a).1:=by
    rcases ny r a ha hra hca with⟨_,h⟩|h|h
    ·exact h
    ·rw [h]at hx;cases hx
    ·rw [h]at hx;cases hx
   generalize (ev r a).1=v at hpl ⊢
   have hl2:(own++w++[v]).length=own.length+a.size:=by simp;omega
   rw [←hl2]
   rcases ihb hb hrb hcb ([m]++rest) (own++w++[v]) (by rw [hl2];omega)with⟨hy,he2⟩|⟨hy,w2,hw2,he2⟩
   ·rw [jq hy]
    exact .inl ⟨hy,he2⟩
   ·rw [he2,nD hy]
    have hpl2:Pl (ev r b).1:=by
     rcases ny r b hb hrb hcb with⟨_,h⟩|h|h
     ·exact h
     ·rw [h]at hy;cases hy
     ·rw [h]at hy;cases hy
    generalize (ev r b).1=u at hpl2 ⊢
    simp only [wl,kz]
    have e1:m.Tag=n.Tag:=by rw [hm];rfl
    have eL:m.L=((own.length+a.size:Nat):Int)-1:=by rw [hm];rfl
    have eR:m.R=((own.length+a.size+b.size:Nat):Int)-1:=by rw [hm];rfl
    have n1:n.Tag≠1:=fun h=>by rw [h]at h1;simp [pk]at h1
    have n2:n.Tag≠2:=fun h=>by rw [h]at h1;simp [pk]at h1
    have hstep:df r (m::rest) (own++w++[v]++w2++[u]) x=if(dz n.Tag v u).2=0 then df r rest (own++w++[v]++w2++[u]++[(dz n.Tag v u).1]) x else some (dz n.Tag v u):=by
     rw [df]
     rw [e1,aK (by simpa using n1),aK (by simpa using n2)]
     rw [eL,eR,hJ (own++w).length (by simp;omega)]
     have g1:(own++w++[v]++w2++[u])[(own++w).length]? =some v:=by
      rw [jX,jX,tA (dh _),zy];rfl
     rw [g1]
     simp only [be]
     rw [aY (by rw [kM];omega),hJ (own++w++[v]++w2).length (by simp;omega)]
     have g2:(own++w++[v]++w2++[u])[(own++w++[v]++w2).length]? =some u:=by
      rw [tA (dh _),zy];rfl
     rw [g2]
     simp only [be]
     rw [Gl _ m _ x v u (by rw [e1];exact h1) (by decide) hpl hpl2 (by simp;omega),e1]
    rw [hstep]
    by_cases hb:(dz n.Tag v u).2=0
    ·rw [aY hb]
     exact .inr ⟨hb,w++[v]++w2++[u],by simp;omega,by simp⟩
    ·rw [aK hb]
     exact .inl ⟨hb,rfl⟩
theorem Ah(e:bJ)(r:List ac)(x:ac): ∀ns:List bp,(∀n∈ns,n.Tag=2→0≤n.Col)→rD e r ns x=if uo r ns then df r e.Nodes [] x else some (zV,2)
 |[],_=>rfl
 |n::ns,hc=>by
  unfold rD
  rw [Ah e r x ns fun m hm=>hc m (kN _ hm)]
  have hcons:uo r (n::ns)=((!(n.Tag==2)||zL r n.Col)&&uo r ns):=rfl
  rw [hcons]
  by_cases ht:n.Tag=2
  ·have h0:=hc n (kZ ..) ht
   have e0:(n.Tag==2)=true:=by simp [ht]
   rw [e0,aY rfl]
   by_cases h:(r.length:Int)≤n.Col
   ·have hb:zL r n.Col=false:=by unfold zL;rw [Bool.and_eq_false_iff];left;simp;omega
    simp [h,hb,zV]
   ·have hlt:n.Col.toNat<r.length:=by omega
    have e1:cN r n.Col=some r[n.Col.toNat]:=by rw [hJ n.Col.toNat (by omega),oM hlt]
    have hb:zL r n.Col=mX r[n.Col.toNat]:=by
     unfold zL
     rw [oM hlt]
     have:decide (n.Col<(r.length:Int))=true:=by simp;omega
     rw [this];rfl
    rw [aY (by simpa using h),e1,hb]
    simp only [be,jB]
    cases mX r[n.Col.toNat]<;>simp [zV]
  ·have e0:(n.Tag==2)=false:=by simp [ht]
   rw [e0]
   simp
theorem GH(e:bJ)(r:List ac)(he:IE e.Nodes)(hr:Uy r):AA e r=some (o6 r e.Nodes):=by
 unfold AA o6
 rw [yg e,be]
 cases ht:mM e.Nodes with
 |none=>
  have:kh e.Nodes=false:=by unfold kh;rw [ht];rfl
  rw [this,aY (by decide)];rfl
 |some t=>
  have:kh e.Nodes=true:=by unfold kh;rw [ht];rfl
  rw [this,aK (by decide)]
  obtain⟨hw,hN,hs⟩:=kp ht
  rw [Ah e r _ e.Nodes (fun n hn h2=>(EL hw 0 (by rw [←hN];exact hn) h2).1)]
  cases hc:uo r e.Nodes with
  |false=>rfl
  |true=>
   simp only [eg]
   have hct:=wW hr t hw 0 (by rw [←hN];exact hc)
   have hrt:=Bp t 0 (by rw [←hN];exact he)
   have h:=Qr r zV t hw hrt hct [] [] (by simp;omega)
   rw [sw,pY,←hN]at h
   rcases h with⟨_,h2⟩|⟨h1,w,h2,h3⟩
   ·exact h2
   ·have h4:df r e.Nodes [] zV=some (ev r t):=by
     rw [h3]
     unfold df
     rw [kz,hJ w.length (by rw [cv (by simp<;>omega) (by simp<;>omega)];simp),tA (dh _),zy]
     show some ((ev r t).1,(0:Int))=_
     rw [←h1]
    exact h4

theorem BT(h:m<79228162514264337593543950336):j4 m=[((m%4294967296:Nat):Int),((m/4294967296%4294967296:Nat):Int),((m/18446744073709551616:Nat):Int),0,0,0,0,0]:=by
 unfold j4
 rw [C8 (show m/18446744073709551616<4294967296 by omega),Nat.div_eq_of_lt h]
 rfl
theorem TB(P Q c:Nat)(h:c≤1):(P+Q+c)/4294967296=P/4294967296+Q/4294967296+(P%4294967296+Q%4294967296+c)/4294967296∧(P+Q+c)%4294967296=(P%4294967296+Q%4294967296+c)%4294967296:=by omega
theorem PN(P Q c:Nat)(h:Q+c≤P)(hc:c≤1):(P-Q-c)/4294967296=P/4294967296-Q/4294967296-(1-(P%4294967296+4294967296-Q%4294967296-c)/4294967296)∧(P-Q-c)%4294967296=(P%4294967296+4294967296-Q%4294967296-c)%4294967296∧Q/4294967296+(1-(P%4294967296+4294967296-Q%4294967296-c)/4294967296)≤P/4294967296∧1-(P%4294967296+4294967296-Q%4294967296-c)/4294967296≤1:=by omega
theorem acP(P Q c:Nat)(h:Q+c≤P)(hc:c≤1)(hP:P<2147483648):(P+4294967296-Q-c)%4294967296=P-Q-c:=by omega
variable{l:List ci}
theorem Yy(hp:p<39614081257132168796771975168)(hq:q<39614081257132168796771975168)(s:Bool):iz ⟨j4 p,s⟩ ⟨j4 q,s⟩=some ⟨j4 (p+q),s&&decide (p+q≠0)⟩:=by
 have dp:p/4294967296/4294967296=p/18446744073709551616:=by rw [JO]
 have dq:q/4294967296/4294967296=q/18446744073709551616:=by rw [JO]
 have ds:(p+q)/4294967296/4294967296=(p+q)/18446744073709551616:=by rw [JO]
 have hd:j4 (p+q)=[(((p%4294967296+q%4294967296+0)%4294967296:Nat):Int),(((p/4294967296%4294967296+q/4294967296%4294967296+(p%4294967296+q%4294967296+0)/4294967296)%4294967296:Nat):Int),(((p/18446744073709551616+q/18446744073709551616+(p/4294967296%4294967296+q/4294967296%4294967296+(p%4294967296+q%4294967296+0)/4294967296)/4294967296)%4294967296:Nat):Int),0,0,0,0,0]:=by
  rw [BT (by omega)]
  have b1:p/18446744073709551616<2147483648:=by omega
  have b2:q/18446744073709551616<2147483648:=by omega
  obtain⟨e1,e0⟩:=TB p q 0 (by decide)
  rw [xD]at e1 e0
  rw [←ds,e1,e0,←dp,←dq]
  rw [←dp]at b1
  rw [←dq]at b2
  obtain⟨e2,e3⟩:=TB (p/4294967296) (q/4294967296) ((p%4294967296+q%4294967296+0)/4294967296) (by clear ds dp dq e1 e0;omega)
  rw [e2,e3]
  have l:=Nat.div_le_div_right (c:=4294967296) (show p/4294967296%4294967296+q/4294967296%4294967296+(p%4294967296+q%4294967296+0)/4294967296≤8589934591 by omega)
  rw [show 8589934591/4294967296=1 from rfl]at l
  have ll:=Nat.add_le_add (Nat.add_le_add (Nat.le_of_lt_succ b1) (Nat.le_of_lt_succ b2)) l
  rw [C8 (Nat.lt_of_le_of_lt ll (by decide))]
 have sI:=hd
 rw [BT (m:=p) (by omega),BT (m:=q) (by omega)]
 unfold iz
 generalize hp0:p%4294967296=p0 at sI ⊢
 generalize hp1:p/4294967296%4294967296=p1 at sI ⊢
 generalize hp2:p/18446744073709551616=p2 at sI ⊢
 generalize hq0:q%4294967296=q0 at sI ⊢
 generalize hq1:q/4294967296%4294967296=q1 at sI ⊢
 generalize hq2:q/18446744073709551616=q2 at sI ⊢
 have c1:(p0+q0+0)/4294967296≤1:=by omega
 generalize hc:(p0+q0+0)/4294967296=c at sI c1 ⊢
 have c2:(p1+q1+c)/4294967296≤1:=by omega
 generalize hcc:(p1+q1+c)/4294967296=cc at sI c2 ⊢
 have c3:(p2+q2+cc)/4294967296=0:=by omega
 rw [show((0:Int))=((0:Nat):Int)from rfl]
 rw [iP _ _ _ s s 7 0 (by omega) p0 q0 0 rfl rfl (by omega) (by omega) (by omega),hc]
 rw [iP _ _ _ s s 6 1 (by omega) p1 q1 c rfl rfl (by omega) (by omega) (by omega),hcc]
 rw [iP _ _ _ s s 5 2 (by omega) p2 q2 cc rfl rfl (by omega) (by omega) (by omega),c3]
 rw [iP _ _ _ s s 4 3 (by omega) 0 0 0 rfl rfl (by omega) (by omega) (by omega)]
 rw [show(0+0+0)/4294967296=0 from rfl]
 rw [iP _ _ _ s s 3 4 (by omega) 0 0 0 rfl rfl (by omega) (by omega) (by omega)]
 rw [show(0+0+0)/4294967296=0 from rfl]
 rw [iP _ _ _ s s 2 5 (by omega) 0 0 0 rfl rfl (by omega) (by omega) (by omega)]
 rw [show(0+0+0)/4294967296=0 from rfl]
 rw [iP _ _ _ s s 1 6 (by omega) 0 0 0 rfl rfl (by omega) (by omega) (by omega)]
 rw [show(0+0+0)/4294967296=0 from rfl]
 rw [iP _ _ _ s s 0 7 (by omega) 0 0 0 rfl rfl (by omega) (by omega) (by omega)]
 have he:=Bs ⟨[(p0:Int),(p1:Int),(p2:Int),0,0,0,0,0],s⟩ ⟨[(q0:Int),(q1:Int),(q2:Int),0,0,0,0,0],s⟩ (7+1) (((0+0+0)/4294967296:Nat):Int) (p+q) (by omega) s
 rw [sI]at he
 rw [sI]
 exact he
theorem RW(hp:p<39614081257132168796771975168)(hq:q≤p)(s u:Bool)(hsu:(s==u)=false):iz ⟨j4 p,s⟩ ⟨j4 q,u⟩=some ⟨j4 (p-q),s&&decide (p-q≠0)⟩:=by
 have dp:p/4294967296/4294967296=p/18446744073709551616:=by rw [JO]
 have dq:q/4294967296/4294967296=q/18446744073709551616:=by rw [JO]
 have ds:(p-q)/4294967296/4294967296=(p-q)/18446744073709551616:=by rw [JO]
 have hd:j4 (p-q)=[(((p%4294967296+4294967296-q%4294967296-0)%4294967296:Nat):Int),(((p/4294967296%4294967296+4294967296-q/4294967296%4294967296-(1-(p%4294967296+4294967296-q%4294967296-0)/4294967296))%4294967296:Nat):Int),(((p/18446744073709551616+4294967296-q/18446744073709551616-(1-(p/4294967296%4294967296+4294967296-q/4294967296%4294967296-(1-(p%4294967296+4294967296-q%4294967296-0)/4294967296))/4294967296))%4294967296:Nat):Int),0,0,0,0,0]:=by
  rw [BT (by omega)]
  have b1:p/18446744073709551616<2147483648:=by omega
  obtain⟨e1,e0,le,l1⟩:=PN p q 0 hq (by decide)
  rw [Nat.sub_zero]at e1 e0
  rw [←ds,e1,e0,←dp,←dq]
  rw [←dp]at b1
  obtain⟨e2,e3,le2,l2⟩:=PN (p/4294967296) (q/4294967296) (1-(p%4294967296+4294967296-q%4294967296-0)/4294967296) le l1
  rw [e2,e3]
  rw [acP _ _ _ le2 l2 b1]
 have sI:=hd
 rw [BT (m:=p) (by omega),BT (m:=q) (by omega)]
 unfold iz
 have hge:(p/18446744073709551616+4294967296-q/18446744073709551616-(1-(p/4294967296%4294967296+4294967296-q/4294967296%4294967296-(1-(p%4294967296+4294967296-q%4294967296-0)/4294967296))/4294967296))/4294967296=1:=by omega
 generalize hp0:p%4294967296=p0 at sI hge ⊢
 generalize hp1:p/4294967296%4294967296=p1 at sI hge ⊢
 generalize hp2:p/18446744073709551616=p2 at sI hge ⊢
 generalize hq0:q%4294967296=q0 at sI hge ⊢
 generalize hq1:q/4294967296%4294967296=q1 at sI hge ⊢
 generalize hq2:q/18446744073709551616=q2 at sI hge ⊢
 have c1:1-(p0+4294967296-q0-0)/4294967296≤1:=by omega
 generalize hc:1-(p0+4294967296-q0-0)/4294967296=c at sI hge c1 ⊢
 have c2:1-(p1+4294967296-q1-c)/4294967296≤1:=by omega
 generalize hcc:1-(p1+4294967296-q1-c)/4294967296=cc at sI hge c2 ⊢
 rw [show((0:Int))=((0:Nat):Int)from rfl]
 rw [iQ _ _ _ s u s hsu 7 0 (by omega) p0 q0 0 rfl rfl (by omega) (by omega) (by omega),hc]
 rw [iQ _ _ _ s u s hsu 6 1 (by omega) p1 q1 c rfl rfl (by omega) (by omega) (by omega),hcc]
 rw [iQ _ _ _ s u s hsu 5 2 (by omega) p2 q2 cc rfl rfl (by omega) (by omega) (by omega),hge]
 rw [show 1-1=0 from rfl]
 rw [iQ _ _ _ s u s hsu 4 3 (by omega) 0 0 0 rfl rfl (by omega) (by omega) (by omega)]
 rw [show 1-(0+4294967296-0-0)/4294967296=0 from rfl]
 rw [iQ _ _ _ s u s hsu 3 4 (by omega) 0 0 0 rfl rfl (by omega) (by omega) (by omega)]
 rw [show 1-(0+4294967296-0-0)/4294967296=0 from rfl]
 rw [iQ _ _ _ s u s hsu 2 5 (by omega) 0 0 0 rfl rfl (by omega) (by omega) (by omega)]
 rw [show 1-(0+4294967296-0-0)/4294967296=0 from rfl]
 rw [iQ _ _ _ s u s hsu 1 6 (by omega) 0 0 0 rfl rfl (by omega) (by omega) (by omega)]
 rw [show 1-(0+4294967296-0-0)/4294967296=0 from rfl]
 rw [iQ _ _ _ s u s hsu 0 7 (by omega) 0 0 0 rfl rfl (by omega) (by omega) (by omega)]
 have he:=Bs ⟨[(p0:Int),(p1:Int),(p2:Int),0,0,0,0,0],s⟩ ⟨[(q0:Int),(q1:Int),(q2:Int),0,0,0,0,0],u⟩ (7+1) ((1-(0+4294967296-0-0)/4294967296:Nat):Int) (p-q) (by omega) s
 rw [sI]at he
 rw [sI]
 exact he
theorem aar(hp:p<39614081257132168796771975168)(hq:q<39614081257132168796771975168)(s t:Bool):tW ⟨j4 p,s⟩ ⟨j4 q,t⟩=some (decide (p<q)):=by
 rw [BT (m:=p) (by omega),BT (m:=q) (by omega)]
 unfold tW
 obtain⟨f,hf⟩: ∃f,iN=f+9:=⟨iN-9,by have:=m4 (n:=9) (by omega);omega⟩
 rw [hf]
 rw [show(7:Int)=((7:Nat):Int)from rfl,iR _ _ s t (f+8) 7 (by omega) 0 0 rfl rfl,aY rfl]
 rw [show((7:Nat):Int)-1=((6:Nat):Int)from rfl,iR _ _ s t (f+7) 6 (by omega) 0 0 rfl rfl,aY rfl]
 rw [show((6:Nat):Int)-1=((5:Nat):Int)from rfl,iR _ _ s t (f+6) 5 (by omega) 0 0 rfl rfl,aY rfl]
 rw [show((5:Nat):Int)-1=((4:Nat):Int)from rfl,iR _ _ s t (f+5) 4 (by omega) 0 0 rfl rfl,aY rfl]
 rw [show((4:Nat):Int)-1=((3:Nat):Int)from rfl,iR _ _ s t (f+4) 3 (by omega) 0 0 rfl rfl,aY rfl]
 rw [show((3:Nat):Int)-1=((2:Nat):Int)from rfl,iR _ _ s t (f+3) 2 (by omega) _ _ rfl rfl]
 by_cases h2:((p/18446744073709551616:Nat):Int)=((q/18446744073709551616:Nat):Int)
 ·rw [aY h2,show((2:Nat):Int)-1=((1:Nat):Int)from rfl,iR _ _ s t (f+2) 1 (by omega) _ _ rfl rfl]
  by_cases h1:((p/4294967296%4294967296:Nat):Int)=((q/4294967296%4294967296:Nat):Int)
  ·rw [aY h1,show((1:Nat):Int)-1=((0:Nat):Int)from rfl,iR _ _ s t (f+1) 0 (by omega) _ _ rfl rfl]
   by_cases h0:((p%4294967296:Nat):Int)=((q%4294967296:Nat):Int)
   ·rw [aY h0]
    unfold lK
    rw [aK (by decide)]
    congr 1
    symm
    rw [DO];omega
   ·rw [aK h0]
    congr 1
    apply j5
    simp only [kM];omega
  ·rw [aK h1]
   congr 1
   apply j5
   simp only [kM];omega
 ·rw [aK h2]
  congr 1
  apply j5
  simp only [kM];omega
theorem TQ(hx:x.natAbs<39614081257132168796771975168)(hy:y.natAbs<39614081257132168796771975168):mV (lR x) (lR y)=some (lR (x+y)):=by
 unfold mV lR
 rw [aar hx hy]
 simp only [be]
 by_cases h:(decide (x<0)==decide (y<0))=true
 ·have hs:decide (y<0)=decide (x<0):=(eq_of_beq h).symm
  have hne:(decide (x<0) !=decide (y<0))=false:=by rw [hs];simp
  rw [hne]
  simp only [gm,d9,be]
  rw [hs,Yy hx hy]
  congr 2
  ·congr 1
   have:(decide (x<0)=true↔decide (y<0)=true):=by rw [hs]
   simp only [kM]at this
   omega
  ·apply j5
   have:(decide (x<0)=true↔decide (y<0)=true):=by rw [hs]
   simp only [kM]at this
   simp only [my,kM]
   omega
 ·have hb:(decide (x<0)==decide (y<0))=false:=by simpa using h
  have hne:(decide (x<0) !=decide (y<0))=true:=by simp only [bne,hb];rfl
  rw [hne]
  simp only [eg,be]
  have hxy: ¬(x<0↔y<0):=by
   intro hi
   have:decide (x<0)=decide (y<0):=by simp only [C6];exact hi
   rw [this]at hb;simp at hb
  by_cases hlt:x.natAbs<y.natAbs
  ·rw [aY (by simpa using hlt)]
   have hb' :(decide (y<0)==decide (x<0))=false:=by
    cases q1:decide (x<0)<;>cases q2:decide (y<0)<;>simp_all
   rw [RW hy (by omega) _ _ hb']
   congr 2
   ·congr 1;omega
   ·apply j5
    simp only [my,kM]
    omega
  ·rw [aK (by simpa using hlt)]
   rw [RW hx (by omega) _ _ hb]
   congr 2
   ·congr 1;omega
   ·apply j5
    simp only [my,kM]
    omega
def pE(z:Int):ac:=⟨4,z/18446744073709551616,z%18446744073709551616,[]⟩
def Bx(z:Int):Prop:=z.natAbs<1208925819614629174706176
theorem H0(m:Nat)(h:m<79228162514264337593543950336)(b:Bool):ow ((m/18446744073709551616:Nat):Int) ((m%18446744073709551616:Nat):Int) ⟨List.replicate 8 0,b⟩=some ⟨j4 m,b⟩:=by
 rw [BT h]
 unfold ow
 rw [EN,xg,EN,xg]
 have e1:m%18446744073709551616%4294967296=m%4294967296:=by omega
 have e2:m%18446744073709551616/4294967296=m/4294967296%4294967296:=by omega
 have e3:m/18446744073709551616%4294967296=m/18446744073709551616:=by omega
 have e4:m/18446744073709551616/4294967296=0:=by omega
 rw [e1,e2,e3,e4]
 rfl
theorem TR(h:Bx z):rZ (pE z).N (pE z).U=some (lR z):=by
 unfold Bx at h
 unfold rZ pE lR
 simp only []
 by_cases hz:z<0
 ·rw [aY (by rw [kM];omega),xF hz]
  obtain⟨u,hu⟩:=EA (show 0≤z%18446744073709551616 by omega)
  have hul:u<18446744073709551616:=by omega
  have hn:IntKind.u64.wrap (z/18446744073709551616)=((18446744073709551616-(-(z/18446744073709551616)).toNat:Nat):Int):=by rw [uC];omega
  rw [hu,yI hul,hn,yI (by omega)]
  have elow:IntKind.u64.wrap (((18446744073709551615-u:Nat):Int)+1)=((z.natAbs%18446744073709551616:Nat):Int):=by rw [uC];omega
  rw [elow]
  have:=H0 z.natAbs (by omega) true
  by_cases hl:z.natAbs%18446744073709551616=0
  ·rw [aY (by rw [hl];rfl)]
   have ehigh:IntKind.u64.wrap (((18446744073709551615-(18446744073709551616-(-(z/18446744073709551616)).toNat):Nat):Int)+1)=((z.natAbs/18446744073709551616:Nat):Int):=by rw [uC];omega
   rw [ehigh]
   exact this
  ·rw [aK (by rw [sv];omega)]
   have ehigh:((18446744073709551615-(18446744073709551616-(-(z/18446744073709551616)).toNat):Nat):Int)=((z.natAbs/18446744073709551616:Nat):Int):=by omega
   rw [ehigh]
   exact this
 ·rw [aK (by rw [kM];omega),xG hz]
  have e1:z%18446744073709551616=((z.natAbs%18446744073709551616:Nat):Int):=by omega
  have e2:IntKind.u64.wrap (z/18446744073709551616)=((z.natAbs/18446744073709551616:Nat):Int):=by rw [uC];omega
  rw [e1,e2]
  exact H0 z.natAbs (by omega) false
theorem OJ(h:Bx z):y7 (lR z)=some (pE z,0):=by
 unfold Bx at h
 unfold y7 wF lR pE
 generalize hm:z.natAbs=m at h ⊢
 have i3:cN (j4 m) 3=some ((m/79228162514264337593543950336%4294967296:Nat):Int):=rfl
 have i2:cN (j4 m) 2=some ((m/18446744073709551616%4294967296:Nat):Int):=rfl
 have i1:cN (j4 m) 1=some ((m/4294967296%4294967296:Nat):Int):=rfl
 have i0:cN (j4 m) 0=some ((m%4294967296:Nat):Int):=rfl
 simp only [i3,i2,i1,i0,be]
 rw [Gi]
 unfold fy
 rw [yV _ _ (vo _ (by decide)) (vo _ (by decide)),yV _ _ (vo _ (by decide)) (vo _ (by decide))]
 have hhi:m/79228162514264337593543950336%4294967296*4294967296+m/18446744073709551616%4294967296=m/18446744073709551616:=by omega
 have hlo:m/4294967296%4294967296*4294967296+m%4294967296=m%18446744073709551616:=by
  have:=Nat.mod_mul (x:=m) (a:=4294967296) (b:=4294967296)
  rw [show 4294967296*4294967296=18446744073709551616 from rfl]at this
  rw [this,Nat.mul_comm,Nat.add_comm]
 rw [hhi,hlo]
 have bhi:m/18446744073709551616<18446744073709551616:=by omega
 have blo:m%18446744073709551616<18446744073709551616:=vo _ (by decide)
 by_cases hz:z<0
 ·rw [aY (by simpa using hz),yI blo,yI bhi]
  have ew:IntKind.u64.wrap (((18446744073709551615-m%18446744073709551616:Nat):Int)+1)=z%18446744073709551616:=by rw [uC];omega
  rw [ew]
  unfold lL
  simp only [hz,C5]
  by_cases hl0:z%18446744073709551616=0
  ·rw [aY (by rw [hl0];rfl)]
   have eh:IntKind.i64.wrap (IntKind.u64.wrap (((18446744073709551615-m/18446744073709551616:Nat):Int)+1))=z/18446744073709551616:=by rw [wk,uC];omega
   rw [eh,xF (show z/18446744073709551616<0 by omega)]
   rfl
  ·rw [aK (by simpa using hl0)]
   have eh:IntKind.i64.wrap ((18446744073709551615-m/18446744073709551616:Nat):Int)=z/18446744073709551616:=by rw [wk];omega
   rw [eh,xF (show z/18446744073709551616<0 by omega)]
   rfl
 ·rw [aK (by simpa using hz)]
  unfold lL
  simp only [hz,decide_false]
  have eh:IntKind.i64.wrap ((m/18446744073709551616:Nat):Int)=z/18446744073709551616:=by rw [wk];omega
  have el:((m%18446744073709551616:Nat):Int)=z%18446744073709551616:=by omega
  rw [eh,el,xG (show¬z/18446744073709551616<0 by omega)]
  rfl
theorem y6(z:Int):fT (pE z)=true:=by unfold fT dL pE;rfl
theorem GF(h:fT v=true)(hk:v.Kind=2)(hr:r64 v.N):td zV v=some (pE v.N,0):=by
 unfold td rY pG
 have hz:fT zV=true:=rfl
 simp only [ga,h,hz,be,mL,Ak,eg,gm,d9,u9]
 have e1:(zV.Kind==0)=true:=rfl
 have e2:(v.Kind==0)=false:=by rw [hk];rfl
 have e3:(v.Kind==2)=true:=by rw [hk];rfl
 simp only [e1,e2,e3,Bool.true_or,Bool.or_true,mL,gm,d9,eg]
 have hs:Bx v.N:=by unfold r64 at hr;unfold Bx;omega
 rw [jx hr,be,OJ hs]
 rfl
theorem IH(h:fT v=true)(hk:v.Kind=2)(hr:r64 v.N)(hz:Bx z)(hz2:Bx (z+v.N)):td (pE z) v=some (pE (z+v.N),0):=by
 unfold td rY pG
 simp only [ga,h,y6,be,mL,Ak,eg,gm,d9,u9]
 have e1:((pE z).Kind==0)=false:=rfl
 have e4:((pE z).Kind==4)=true:=rfl
 have e2:(v.Kind==0)=false:=by rw [hk];rfl
 have e3:(v.Kind==2)=true:=by rw [hk];rfl
 simp only [e1,e2,e3,e4,Bool.or_true,mL,gm,d9,eg]
 have hx:z.natAbs<39614081257132168796771975168:=by unfold Bx at hz;omega
 have hy:v.N.natAbs<39614081257132168796771975168:=by unfold r64 at hr;omega
 rw [jx hr,TR hz,be,be,TQ hx hy,be,OJ hz2]
 rfl
theorem KB(h:Bx z):vI (pE z)=some (if r64 z then(iV z,0)else(zV,140)):=by
 unfold vI rY
 simp only [ga,y6,be,mL,gm,d9,u9]
 have e1:((pE z).Kind==0)=false:=rfl
 have e4:((pE z).Kind==4)=true:=rfl
 simp only [e1,e4,Bool.or_true,mL,gm,d9]
 obtain⟨n,h1,h2⟩:=Me (z:=z) (by unfold Bx at h;omega)
 rw [TR h,be,h1,be]
 by_cases hr:r64 z
 ·rw [aY hr,xF hr,aK (by simp),h2 hr]
  rfl
 ·rw [aK hr,xG hr]
  rfl
theorem II:vI zV=some (zV,0):=rfl
theorem F6{kind:Int}(h:fT v=true)(hk:v.Kind=0∨v.Kind=kind):pW kind [v]=some 0:=by
 unfold pW km km
 rw [ol,h]
 simp only [eg,be]
 rw [aK (by decide),aK]
 simp
 omega
theorem Ij(hr:r64 v.N):rq v=some (pE v.N):=by
 unfold r64 at hr
 unfold rq pE
 have e:(2:Int)^(min (Int.toNat (63:Int)) IntKind.i64.bits)=9223372036854775808:=by decide
 rw [e,uC]
 congr 2
 rw [Int.fdiv_eq_ediv_of_nonneg _ (by decide)]
 omega
theorem RV(hx:Bx x)(hy:Bx y)(hs:Bx (x+y)):w7 (pE x) (pE y)=some (pE (x+y),0):=by
 unfold Bx at hx hy hs
 unfold w7 pE Mc
 simp only []
 rw [aY (by omega),be]
 simp only []
 rw [aY (by rw [uC,uC];omega),be]
 simp only []
 have eh:IntKind.i64.wrap ((IntKind.u64.wrap (x/18446744073709551616)+IntKind.u64.wrap (y/18446744073709551616)+(x%18446744073709551616+y%18446744073709551616+0)/18446744073709551616)%18446744073709551616)=(x+y)/18446744073709551616:=by
  rw [wk,uC,uC]
  omega
 rw [eh]
 have rx:r64 (x/18446744073709551616):=by unfold r64;omega
 have ry:r64 (y/18446744073709551616):=by unfold r64;omega
 have rs:r64 ((x+y)/18446744073709551616):=by unfold r64;omega
 obtain⟨a1,a2⟩:=yR rx rs
 obtain⟨b1,b2⟩:=yR ry rs
 rw [JC a2 b2,a1,b1]
 have hno:((decide (x/18446744073709551616<0) !=decide ((x+y)/18446744073709551616<0))&&(decide (y/18446744073709551616<0) !=decide ((x+y)/18446744073709551616<0)))=false:=by
  rw [rN]
  intro h
  simp only [my,qR,o8,C6]at h
  omega
 have el:(x%18446744073709551616+y%18446744073709551616+0)%18446744073709551616=(x+y)%18446744073709551616:=by omega
 rw [hno,aK (by simp),el]
theorem Q7(h:fT v=true)(hk:v.Kind=2)(hr:r64 v.N):tu zV v=some (pE v.N,0):=by
 unfold tu
 rw [F6 (v:=zV) rfl (.inl rfl),F6 h (.inr hk),be,be,aK (by decide),aK (by decide),aK (by rw [hk];decide),aY (by rfl),Ij hr]
 rfl
theorem TO(h:fT v=true)(hk:v.Kind=2)(hr:r64 v.N)(hz:Bx z)(hz2:Bx (z+v.N)):tu (pE z) v=some (pE (z+v.N),0):=by
 unfold tu
 have hs:Bx v.N:=by unfold r64 at hr;unfold Bx;omega
 rw [F6 (kind:=4) (y6 z) (.inr rfl),F6 h (.inr hk),be,be,aK (by decide),aK (by decide),aK (by rw [hk];decide),aK (by show¬((4:Int)==0)=true;decide),Ij hr,be,RV hz hs hz2]
 rfl
theorem Xc(h:Bx z):zp (pE z)=some (if r64 z then(iV z,0)else(zV,140)):=by
 unfold Bx at h
 unfold zp
 rw [F6 (kind:=4) (y6 z) (.inr rfl),be,aK (by decide),aK (by show¬((4:Int)==0)=true;decide)]
 have e:oO (IntKind.i64.wrap (pE z).U)=some (iV (IntKind.i64.wrap (z%18446744073709551616))):=rfl
 have hw:r64 (IntKind.i64.wrap (z%18446744073709551616)):=pe _
 rw [e,be,Ij (v:=iV (IntKind.i64.wrap (z%18446744073709551616))) hw,be]
 by_cases hr:r64 z
 ·have:IntKind.i64.wrap (z%18446744073709551616)=z:=by unfold r64 at hr;rw [wk];omega
  rw [aY hr,this,aY (by simp [iV])]
 ·rw [aK hr,aK]
  ·rfl
  ·intro hh
   have hh:=JU hh
   unfold pE iV at hh
   simp only [ac.mk.injEq,true_and,and_true]at hh
   refine hr ?_
   have h1:=hh.1
   unfold r64 at hw ⊢
   generalize IntKind.i64.wrap (z%18446744073709551616)=w at hh hw h1
   omega

theorem vm{a b:ci}(ha:dM a=true)(hb:dM b=true):ou a b=some (dV a b):=by rw [E6,ha,hb];rfl
theorem Dm{α:Type} [DecidableEq α]{e:α}: ∀{l:List α},l.Nodup→e∈l→l.countP (fun r=>decide (e=r))=1
 |x::t,h,he=>by
  have h' :=List.nodup_cons.1 h
  by_cases hx:e=x
  ·subst hx
   rw [List.countP_cons_of_pos (by simp)]
   have:t.countP (fun r=>decide (e=r))=0:=List.countP_eq_zero.2 fun r hr=>by
    have: ¬e=r:=fun k=>h'.1 (by rw [k];exact hr)
    simpa using this
   rw [this]
  ·rw [List.countP_cons_of_neg (by simpa using hx)]
   exact Dm h'.2 ((fx.1 he).resolve_left hx)

theorem zj{r:List ac}{ns:List bp}(he:IE ns)(hr:Uy r):((o6 r ns).2=0∧Pl (o6 r ns).1)∨((o6 r ns).2≠0∧(o6 r ns).2≠140∧(o6 r ns).1=zV)∨o6 r ns=(zV,140):=by
 unfold o6
 cases ht:mM ns with
 |none=>right;left;exact⟨show(200:Int)≠0 by decide,show(200:Int)≠140 by decide,rfl⟩
 |some t=>
  obtain⟨hw,hN,hs⟩:=kp ht
  simp only []
  by_cases hc:uo r ns=true
  ·rw [aY hc]
   have hrt:T7 t:=Bp t 0 (by rw [←hN];exact he)
   have hcv:yK r t:=wW hr t hw 0 (by rw [←hN];exact hc)
   rcases ny r t hw hrt hcv with h|h|h
   ·exact .inl h
   ·rw [h];right;left;decide
   ·exact .inr (.inr h)
  ·rw [aK hc];right;left;decide
def BO(ns:List bp)(rows:List ci):List ac:=rows.filterMap fun r=>if(o6 r ns).2=0∧(o6 r ns).1.Kind≠0 then some (o6 r ns).1 else none
def D4(ns:List bp)(rows:List ci):Bool:=rows.any fun r=>(o6 r ns).2 !=0&&(o6 r ns).2 !=140
def DZ(ns:List bp)(rows:List ci):Bool:=rows.any fun r=>(o6 r ns).2==140
def sC(tag:Int)(vs:List ac):Bool:=tag==3&&vs.any fun v=>v.Kind !=2
def E7(rows:List ci):Prop:= ∀r∈rows,Uy r
theorem FW(ns:List bp)(r:ci)(t:List ci):BO ns (r::t)=if(o6 r ns).2=0∧(o6 r ns).1.Kind≠0 then(o6 r ns).1::BO ns t else BO ns t:=by
 unfold BO
 rw [List.filterMap_cons]
 split
 ·split
  ·rename_i h;rw [aY (by simpa using h)]at*;simp_all
  ·rfl
 ·rename_i h;split
  ·rename_i h2;rw [aY h2]at h;simp at h;rw [h]
  ·rename_i h2;rw [aK h2]at h;simp at h
variable{rows:List ci}
theorem Jv{ns:List bp}(he:IE ns): ∀{rows:List ci},E7 rows→ ∀v∈BO ns rows,Pl v
 |[],_,v,hv=>by simp [BO]at hv
 |r::t,hr,v,hv=>by
  rw [FW]at hv
  have ht:E7 t:=fun x hx=>hr x (kN _ hx)
  split at hv
  ·rename_i h
   rcases fx.1 hv with hv|hv
   ·subst hv
    rcases zj he (hr r (kZ ..))with q|q|q
    ·exact q.2
    ·exact absurd h.1 q.1
    ·rw [q]at h;exact absurd h.1 (by decide)
   ·exact Jv he ht v hv
  ·exact Jv he ht v hv
theorem Pz(ns:List bp)(rows:List ci):(BO ns rows).length≤rows.length:=List.length_filterMap_le ..
theorem Ep(a:hU)(hl:a.Arg.Nodes.length≤50000)(he:IE a.Arg.Nodes): ∀(rows:List ci) (out:List ac) (fault:Int),E7 rows→out.length+rows.length≤1000000→jK a rows out fault=some (if D4 a.Arg.Nodes rows then([],2)else(out++BO a.Arg.Nodes rows,if DZ a.Arg.Nodes rows then 140 else fault))
 |[],out,fault,_,_=>by
  unfold jK D4 DZ BO
  simp
 |r::t,out,fault,hr,hk=>by
  have ht:E7 t:=fun x hx=>hr x (kN _ hx)
  rw [iY]at hk
  unfold jK
  rw [wS a.Arg r hl he (hr r (kZ ..)),be,FW]
  have eb:D4 a.Arg.Nodes (r::t)=(((o6 r a.Arg.Nodes).2 !=0&&(o6 r a.Arg.Nodes).2 !=140)||D4 a.Arg.Nodes t):=rfl
  have ef:DZ a.Arg.Nodes (r::t)=(((o6 r a.Arg.Nodes).2==140)||DZ a.Arg.Nodes t):=rfl
  rw [eb,ef]
  rcases zj he (hr r (kZ ..))with q|q|q
  ·rw [q.1]
   simp only [Int.reduceBEq,gm,d9,Int.reduceBNe,Ev,rM,true_and]
   by_cases hk0:(o6 r a.Arg.Nodes).1.Kind=0
   ·rw [aK (by simp [hk0]),Ep a hl he t out fault ht (by omega)]
    simp only [hk0,o8,G5,d9]
   ·rw [aY (by simpa using hk0),aY hk0,cq (by simp only [Am];omega),be,Ep a hl he t _ fault ht (by simp only [jg,Am];omega)]
    simp only [jX,Hb]
  ·rw [aK (by simpa using q.2.1),aY (by simpa using q.1)]
   have:((o6 r a.Arg.Nodes).2 !=0&&(o6 r a.Arg.Nodes).2 !=140)=true:=by simp [q.1,q.2.1]
   rw [this];simp
  ·rw [q]
   simp only [G4,eg,Ep a hl he t out 140 ht (by omega),Int.reduceBNe,Bool.and_false,rM,Bool.true_or]
   rw [aK (by decide: ¬((140:Int)=0∧_))]
   simp
def qW:List ac→Int
 |[]=>0
 |v::t=>v.N+qW t
def pick(tag:Int)(b v:ac):ac:=if tag=4∧val v b<0∨tag=5∧0<val v b then v else b
def v6(tag:Int):List ac→ac
 |[]=>zV
 |v::t=>t.foldl (pick tag) v
def RI(vs:List ac):ac×Int:=if vs=[]then(zV,0)else if r64 (qW vs)then(iV (qW vs),0)else(zV,140)
def SK(tag:Int)(vs:List ac)(fault:Int):ac×Int:=
 if fault≠0 then(zV,fault)else if tag=2 then(iV (vs.length:Int),0)else if tag=3 then RI vs else(v6 tag vs,0)
def w9(a:hU)(rows:List ci):ac×Int:=
 if a.Tag=1 then(iV (rows.length:Int),0)else if D4 a.Arg.Nodes rows||sC a.Tag (BO a.Arg.Nodes rows)then(zV,2)else SK a.Tag (BO a.Arg.Nodes rows) (if DZ a.Arg.Nodes rows then 140 else 0)
theorem Kp(p q:List ac):qW (p++q)=qW p+qW q:=by
 induction p with
 |nil=>simp [qW]
 |cons v t ih=>simp only [wl,qW,ih];omega
theorem OK: ∀(p:List ac),(∀v∈p,r64 v.N)→(qW p).natAbs≤p.length*9223372036854775808
 |[],_=>by simp [qW]
 |v::t,h=>by
  have h1:=OK t fun x hx=>h x (kN _ hx)
  have h2:=h v (kZ ..)
  unfold r64 at h2
  simp only [qW,iY]
  omega
theorem Iu{p:List ac}(h: ∀v∈p,r64 v.N)(hl:p.length≤100000):Bx (qW p):=by
 have:=OK p h
 unfold Bx
 omega
theorem TE(tag:Int)(p:List ac)(v:ac):v6 tag (p++[v])=if p=[]then v else pick tag (v6 tag p) v:=by
 cases p with
 |nil=>rfl
 |cons x t=>simp [v6]
theorem TD(tag:Int): ∀(p:List ac),p≠[]→v6 tag p∈p
 |[],h=>absurd rfl h
 |v::t,_=>by
  unfold v6
  have: ∀(t:List ac) (b:ac),t.foldl (pick tag) b∈b::t:=by
   intro t
   induction t with
   |nil=>intro b;simp
   |cons x t ih=>
    intro b
    simp only [List.foldl_cons]
    have:=ih (pick tag b x)
    have hp:pick tag b x=b∨pick tag b x=x:=by unfold pick;split<;>simp
    rcases hp with hp|hp<;>rw [hp]at this ⊢
    ·rcases fx.1 this with h|h
     ·rw [h];simp
     ·exact kN _ (kN _ h)
    ·exact kN _ this
  exact this t v
theorem FM(l:List ac)(h: ¬sC 3 l=true): ∀v∈l,v.Kind=2:=by
 intro v hv
 unfold sC at h
 simp only [G4,u9,Al,JR]at h
 simpa using h v hv
theorem C0{f:ac→Option Bool}{g:ac→Bool}(hf: ∀v,f v=some (g v))(l:List ac):dY l f=some (l.any g):=by
 have key: ∀(l:List ac) (i:Nat),∃j:Int,dc f l i=some j∧decide (0≤j)=l.any g:=by
  intro l
  induction l with
  |nil=>intro i;exact⟨-1,rfl,rfl⟩
  |cons v t ih=>
   intro i
   unfold dc
   rw [hf,be,vu]
   by_cases hg:g v=true
   ·rw [aY hg,hg]
    exact⟨(i:Int),rfl,by simp⟩
   ·rw [aK hg,rN.2 hg,rM]
    exact ih (i+1)
 obtain⟨j,h1,h2⟩:=key l 0
 unfold dY gH
 rw [h1]
 simp only [be]
 rw [←h2]
theorem rn{x y:ac}(hx:fT x=true)(hy:fT y=true):iB x y=some (val x y):=by
 unfold iB
 have h1:dM [x]=true:=by unfold dM;simp [hx]
 have h2:dM [y]=true:=by unfold dM;simp [hy]
 rw [vm h1 h2,be]
 have:=aak 0 0 0 0
 unfold dV
 simp only [dV]
 split<;>simp_all
theorem Nz: ∀(l:List ac) (m:ac),(∀v∈l,fT v=true)→fT m=true→cH iB l m=some (l.foldl (pick 4) m)
 |[],m,_,_=>rfl
 |v::t,m,h,hm=>by
  have hv:=h v (kZ ..)
  have ht:=fun x hx=>h x (kN v hx)
  unfold cH
  rw [rn hv hm,be,List.foldl_cons]
  by_cases hc:val v m<0
  ·rw [aY (by simpa using hc),Nz t v ht hv]
   simp [pick,hc]
  ·rw [aK (by simpa using hc),Nz t m ht hm]
   simp [pick,hc]
theorem NC: ∀(l:List ac) (m:ac),(∀v∈l,fT v=true)→fT m=true→cI iB l m=some (l.foldl (pick 5) m)
 |[],m,_,_=>rfl
 |v::t,m,h,hm=>by
  have hv:=h v (kZ ..)
  have ht:=fun x hx=>h x (kN v hx)
  unfold cI
  rw [rn hv hm,be,List.foldl_cons]
  by_cases hc:0<val v m
  ·rw [aY (by simpa using hc),NC t v ht hv]
   simp [pick,hc]
  ·rw [aK (by simpa using hc),NC t m ht hm]
   simp [pick,hc]
theorem aaz(v:α)(t:List α):cN (v::t) (0:Int)=some v:=rfl
theorem YG{l:List ac}(h: ∀v∈l,fT v=true)(hne:l≠[]):eX l iB=some (v6 4 l):=by
 cases l with
 |nil=>exact absurd rfl hne
 |cons v t=>
  unfold eX gq
  rw [aK (by rw [iY,kM];omega),aaz,be]
  exact Nz t v (fun x hx=>h x (kN v hx)) (h v (kZ ..))
theorem YH{l:List ac}(h: ∀v∈l,fT v=true)(hne:l≠[]):eY l iB=some (v6 5 l):=by
 cases l with
 |nil=>exact absurd rfl hne
 |cons v t=>
  unfold eY gr
  rw [aK (by rw [iY,kM];omega),aaz,be]
  exact NC t v (fun x hx=>h x (kN v hx)) (h v (kZ ..))
theorem TK(x:ac): ∀(l:List ac) (z:Int) (n:Nat),(∀v∈l,Pl v∧v.Kind=2)→z.natAbs≤n*9223372036854775808→n+l.length≤100000→nk l x (pE z)=some (if r64 (z+qW l)then(iV (z+qW l),0)else(zV,140))
 |[],z,n,_,hz,hn=>by
  have hz2:Bx z:=by unfold Bx;omega
  unfold nk
  rw [Xc hz2,be]
  simp only [qW,Int.add_zero]
 |v::t,z,n,h,hz,hn=>by
  rw [iY]at hn
  obtain⟨hv,hk⟩:=h v (kZ ..)
  have hr:=hv.r64
  have hb:(z+v.N).natAbs≤(n+1)*9223372036854775808:=by unfold r64 at hr;omega
  unfold nk
  rw [TO hv.right hk hr (z:=z) (by unfold Bx;omega) (by unfold Bx;omega),be,aK (by show¬((0:Int) !=0)=true;decide)]
  have e:z+qW (v::t)=z+v.N+qW t:=by simp only [qW];omega
  rw [TK x t (z+v.N) (n+1) (fun y hy=>h y (kN _ hy)) hb (by omega),e]
theorem JA{l:List ac}(h: ∀v∈l,Pl v∧v.Kind=2)(hl:l.length≤90000):zq l=some (RI l):=by
 unfold zq
 rw [aK (by simp;omega)]
 have:px=some zV:=rfl
 rw [this,be]
 cases l with
 |nil=>rfl
 |cons v t=>
  obtain⟨hv,hk⟩:=h v (kZ ..)
  have hr:=hv.r64
  rw [iY]at hl
  unfold nk
  rw [Q7 hv.right hk hr,be,aK (by show¬((0:Int) !=0)=true;decide)]
  rw [TK _ t v.N 1 (fun y hy=>h y (kN _ hy)) (by unfold r64 at hr;omega) (by omega)]
  rfl
theorem zK(a:hU)(hl:a.Arg.Nodes.length≤50000)(he:IE a.Arg.Nodes)(ht:a.Tag=1∨a.Tag=2∨a.Tag=3∨a.Tag=4∨a.Tag=5)(hr:E7 rows)(hn:rows.length≤90000):mw a rows=some (w9 a rows):=by
 unfold mw w9
 by_cases h1:a.Tag=1
 ·rw [aY (by simpa using h1),aY h1];rfl
 ·rw [aK (by simpa using h1),aK h1]
  have e:yF a rows=_:=Ep a hl he rows [] 0 hr (by simp only [pY];omega)
  rw [e,be]
  by_cases hb:D4 a.Arg.Nodes rows=true
  ·rw [hb];rfl
  ·rw [rN.2 hb]
   simp only [gm,d9,rM,kz]
   rw [aK (by split<;>decide),C0 (f:=ne) (g:=fun v=>v.Kind !=2) (fun v=>rfl)]
   have eo:(if(a.Tag==(3:Int))then((some ((BO a.Arg.Nodes rows).any fun v=>v.Kind !=2)).bind fun r2=>some r2)else some false)=some (sC a.Tag (BO a.Arg.Nodes rows)):=by
    unfold sC
    cases (a.Tag==(3:Int))<;>rfl
   rw [eo,be]
   by_cases ho:sC a.Tag (BO a.Arg.Nodes rows)=true
   ·rw [ho];rfl
   ·rw [rN.2 ho]
    simp only [gm,d9]
    unfold SK
    have hpl:=Jv he hr
    have hlen:=Pz a.Arg.Nodes rows
    by_cases hf:DZ a.Arg.Nodes rows=true
    ·rw [hf];rfl
    ·rw [rN.2 hf]
     simp only [gm,d9,o8,G5,zP]
     by_cases h2:a.Tag=2
     ·rw [aY (by simpa using h2),aY h2];rfl
     ·rw [aK (by simpa using h2),aK h2]
      by_cases h3:a.Tag=3
      ·rw [aY (by simpa using h3),aY h3]
       rw [h3]at ho
       rw [JA (fun v hv=>⟨hpl v hv,FM _ ho v hv⟩) (by omega)]
       rfl
      ·rw [aK (by simpa using h3),aK h3]
       by_cases hz:BO a.Arg.Nodes rows=[]
       ·rw [hz,aY (by rfl)];rfl
       ·rw [aK (by
         intro hh;apply hz
         have:=eq_of_beq hh
         exact uD (by omega))]
        have hrt: ∀v∈BO a.Arg.Nodes rows,fT v=true:=fun v hv=>(hpl v hv).right
        by_cases h4:a.Tag=4
        ·rw [aY (by simpa using h4),h4,YG hrt hz];rfl
        ·have h5:a.Tag=5:=by omega
         rw [aK (by simpa using h4),h5,YH hrt hz];rfl

def zD(tag:Int)(vs:List ac):ac:=if tag=3∧vs≠[]then pE (qW vs)else zV
theorem KZ(tag:Int)(p q:List ac):sC tag (p++q)=(sC tag p||sC tag q):=by
 unfold sC
 rw [G0]
 cases (tag==3)<;>rfl
theorem Uz{vs:List ac}(h: ∀v∈vs,Pl v∧v.Kind=2)(hl:vs.length≤90000):vI (zD 3 vs)=some (RI vs):=by
 unfold zD RI
 by_cases hv:vs=[]
 ·rw [aK (by simp [hv]),aY hv,II]
 ·rw [aY ⟨rfl,hv⟩,aK hv,KB (Iu (fun v hm=>(h v hm).1.r64) (by omega))]
theorem RH{vs:List ac}(h: ∀v∈vs,Pl v∧v.Kind=2)(hl:vs.length≤90000)(hv:Pl v)(hk:v.Kind=2):td (zD 3 vs) v=some (zD 3 (vs++[v]),0):=by
  have e:zD 3 (vs++[v])=pE (qW vs+v.N):=by
    unfold zD
    rw [aY ⟨rfl,by simp⟩,Kp]
    simp [qW]
  rw [e]
  by_cases hn:vs=[]
  · subst hn
    have:zD 3 []=zV:=by unfold zD;simp
    rw [this,GF hv.right hk hv.r64]
    simp [qW]
  · have:zD 3 vs=pE (qW vs):=by unfold zD;rw [aY ⟨rfl,hn⟩]
    have h1:Bx (qW vs):=Iu (fun v hm=>(h v hm).1.r64) (by omega)
    have h2:Bx (qW vs+v.N):=by
      have:=Iu (p:=vs++[v])
        (by
          intro w hw
          rcases zA.1 hw with q|q
          · exact(h w q).1.r64
          · simp at q;rw [q];exact hv.r64) (by simp;omega)
      rw [Kp]at this
      simpa [qW] using this
    rw [this,IH hv.right hk hv.r64 h1 h2]
theorem TL(a:hU)(nx:Int→Int→ac→ac→ac→Option (ac×Int))(vs:List ac)(hl:vs.length≤90000)(fault:Int)(x:ac)(v:ac)(c:Int)(sm:ac):mT a nx (vs.length:Int) fault x (v6 a.Tag vs) (v,c) sm=nx ((vs++[v]).length:Int) fault x sm (v6 a.Tag (vs++[v])):=by
 unfold mT gY
 have hw:IntKind.i64.wrap ((vs.length:Int)+1)=((vs++[v]).length:Int):=by rw [pN (by omega) (by omega)];simp
 simp only [hw,Fe,be]
 rw [TE]
 by_cases hv:vs=[]
 ·subst hv
  simp
 ·rw [aK hv]
  have:(((vs++[v]).length:Int)==1)=false:=by
   rw [beq_eq_false_iff_ne]
   intro h
   apply hv
   simp only [jg,Am]at h
   exact uD (by omega)
  simp only [this,Ak,eg]
  unfold pick
  by_cases h4:a.Tag=4
  ·rw [h4]
   by_cases hc:val v (v6 4 vs)<0
   ·simp [hc]
   ·simp [hc]
  ·by_cases h5:a.Tag=5
   ·rw [h5]
    by_cases hc:0<val v (v6 5 vs)
    ·simp [hc]
    ·simp [hc]
   ·simp [h4,h5]
theorem IG(a:hU)(he:IE a.Arg.Nodes)(ht:a.Tag≠1)(x:ac): ∀(rows:List ci) (vs:List ac) (fault:Int),E7 rows→vs.length+rows.length≤90000→(∀v∈vs,Pl v)→sC a.Tag vs=false→(fault=0∨fault=140)→
  f9 a rows (vs.length:Int) fault x (zD a.Tag vs) (v6 a.Tag vs)=some (if D4 a.Arg.Nodes rows||sC a.Tag (BO a.Arg.Nodes rows)then(zV,2)else SK a.Tag (vs++BO a.Arg.Nodes rows) (if DZ a.Arg.Nodes rows then 140 else fault))
 |[],vs,fault,_,hl,hpl,hod,hf=>by
  have e1:D4 a.Arg.Nodes []=false:=rfl
  have e2:BO a.Arg.Nodes []=[]:=rfl
  have e3:DZ a.Arg.Nodes []=false:=rfl
  have e4:sC a.Tag []=false:=by unfold sC;simp
  rw [e1,e2,e3,e4,sw]
  simp only [Bool.or_self,gm,d9]
  unfold f9 SK
  rcases hf with hf|hf
  ·rw [hf]
   simp only [o8,G5,zP,gm,d9]
   by_cases h2:a.Tag=2
   ·rw [aY (by simpa using h2),aY h2];rfl
   ·rw [aK (by simpa using h2),aK h2]
    by_cases h3:a.Tag=3
    ·rw [aY (by simpa using h3),aY h3]
     rw [h3]at hod ⊢
     simp only [pY]at hl
     rw [Uz (fun v hv=>⟨hpl v hv,FM _ (by simpa using hod) v hv⟩) (by omega)]
     rfl
    ·rw [aK (by simpa using h3),aK h3]
  ·rw [hf];rfl
 |r::t,vs,fault,hr,hl,hpl,hod,hf=>by
  have htl:E7 t:=fun x hx=>hr x (kN _ hx)
  have hr1:=hr r (kZ ..)
  rw [iY]at hl
  unfold f9
  rw [GH a.Arg r he hr1,be,FW]
  have eb:D4 a.Arg.Nodes (r::t)=(((o6 r a.Arg.Nodes).2 !=0&&(o6 r a.Arg.Nodes).2 !=140)||D4 a.Arg.Nodes t):=rfl
  have ef:DZ a.Arg.Nodes (r::t)=(((o6 r a.Arg.Nodes).2==140)||DZ a.Arg.Nodes t):=rfl
  rw [eb,ef]
  rcases zj he hr1 with q|q|q
  ·rw [aK (by rw [q.1];decide)]
   have e0:((o6 r a.Arg.Nodes).2 !=0&&(o6 r a.Arg.Nodes).2 !=140)=false:=by rw [q.1];rfl
   have e1:((o6 r a.Arg.Nodes).2==140)=false:=by rw [q.1];rfl
   have e2:((o6 r a.Arg.Nodes).2 !=0)=false:=by rw [q.1];rfl
   rw [e0,e1,e2]
   simp only [rM]
   by_cases hk0:(o6 r a.Arg.Nodes).1.Kind=0
   ·rw [aK (by simp [hk0]),aY (by simpa using hk0)]
    have hn2: ¬((o6 r a.Arg.Nodes).2=0∧(o6 r a.Arg.Nodes).1.Kind≠0):=fun h=>h.2 hk0
    simp only [aK hn2]
    unfold gY
    exact IG a he ht x t vs fault htl (by omega) hpl hod hf
   ·have hc2:(o6 r a.Arg.Nodes).2=0∧(o6 r a.Arg.Nodes).1.Kind≠0:=⟨q.1,hk0⟩
    rw [aY hc2]
    by_cases hodd:a.Tag=3∧(o6 r a.Arg.Nodes).1.Kind≠2
    ·rw [aY (by simp [hodd.1,hodd.2,hk0])]
     have:sC a.Tag ((o6 r a.Arg.Nodes).1::BO a.Arg.Nodes t)=true:=by
      unfold sC
      simp [hodd.1,hodd.2]
     rw [this,Bool.or_true];rfl
    ·rw [aK (by simp only [my,sv,qR,o8];intro h;exact hodd ⟨h.1.1,h.2⟩),aK (by simpa using hk0)]
     have ho1:sC a.Tag [(o6 r a.Arg.Nodes).1]=false:=by
      unfold sC
      simp only [vu,List.any_nil,Bool.or_false]
      rw [rN]
      intro h
      simp only [my,sv,qR,o8]at h
      exact hodd h
     have ho:sC a.Tag ((o6 r a.Arg.Nodes).1::BO a.Arg.Nodes t)=sC a.Tag (BO a.Arg.Nodes t):=by
      have:=KZ a.Tag [(o6 r a.Arg.Nodes).1] (BO a.Arg.Nodes t)
      rw [ho1,rM]at this
      exact this
     have hvs:sC a.Tag (vs++[(o6 r a.Arg.Nodes).1])=false:=by rw [KZ,hod,ho1];rfl
     have hpl2: ∀v∈vs++[(o6 r a.Arg.Nodes).1],Pl v:=by
      intro v hv
      rcases zA.1 hv with h|h
      ·exact hpl v h
      ·simp at h;rw [h];exact q.2
     have ih:=IG a he ht x t (vs++[(o6 r a.Arg.Nodes).1]) fault htl (by simp only [jg,Am];omega) hpl2 hvs hf
     rw [ho]
     rw [jX,Hb]at ih
     rw [←ih]
     have hpair:o6 r a.Arg.Nodes=((o6 r a.Arg.Nodes).1,(o6 r a.Arg.Nodes).2):=rfl
     by_cases h3:a.Tag=3
     ·rw [aY (by simpa using h3)]
      have hk2:(o6 r a.Arg.Nodes).1.Kind=2:=by
       rcases Classical.em ((o6 r a.Arg.Nodes).1.Kind=2)with h|h
       ·exact h
       ·exact absurd ⟨h3,h⟩ hodd
      have hod3: ¬sC 3 vs=true:=by rw [←h3,hod];simp
      have st:=RH (fun v hv=>⟨hpl v hv,FM _ hod3 v hv⟩) (by omega) q.2 hk2
      rw [←h3]at st
      rw [st,be]
      rw [hpair]
      exact TL a _ vs (by omega) fault x _ _ _
     ·rw [aK (by simpa using h3)]
      have es:zD a.Tag (vs++[(o6 r a.Arg.Nodes).1])=zD a.Tag vs:=by
       unfold zD
       rw [aK (fun h=>h3 h.1),aK (fun h=>h3 h.1)]
      rw [es,hpair]
      exact TL a _ vs (by omega) fault x _ _ _
  ·rw [aK (by simpa using q.2.1),aY (by simp [q.1])]
   have:((o6 r a.Arg.Nodes).2 !=0&&(o6 r a.Arg.Nodes).2 !=140)=true:=by simp [q.1,q.2.1]
   rw [this]
   simp only [Bool.true_or,eg]
   rfl
  ·rw [q,aK (by decide: ¬((140:Int)=0∧_)),aY (by rfl)]
   unfold gY
   have ih:=IG a he ht x t vs 140 htl (by omega) hpl hod (.inr rfl)
   rw [ih]
   simp
theorem Az(a:hU)(he:IE a.Arg.Nodes)(hr:E7 rows)(hn:rows.length≤90000):sx a rows=some (w9 a rows):=by
 unfold sx w9
 by_cases h1:a.Tag=1
 ·rw [aY (by simpa using h1),aY h1];rfl
 ·rw [aK (by simpa using h1),aK h1]
  have e:zD a.Tag []=zV:=by unfold zD;simp
  have:=IG a he h1 zV rows [] 0 hr (by simp only [pY];omega) (by simp) (by unfold sC;simp) (.inl rfl)
  rw [e,kz]at this
  exact this
theorem Ca{f:ci→Option Bool}{g:ci→Bool}(hf: ∀v,f v=some (g v))(l:List ci):eI l f=some (l.any g):=by
 have key: ∀(l:List ci) (i:Nat),∃j:Int,dI f l i=some j∧decide (0≤j)=l.any g:=by
  intro l
  induction l with
  |nil=>intro i;exact⟨-1,rfl,rfl⟩
  |cons v t ih=>
   intro i
   unfold dI
   rw [hf,be,vu]
   by_cases hg:g v=true
   ·rw [aY hg,hg]
    exact⟨(i:Int),rfl,by simp⟩
   ·rw [aK hg,rN.2 hg,rM]
    exact ih (i+1)
 obtain⟨j,h1,h2⟩:=key l 0
 unfold eI iD
 rw [h1]
 simp only [be]
 rw [←h2]
theorem WV(g:α→Bool)(l:List α):(l.any fun r=> !g r)= !l.all g:=by
 induction l with
 |nil=>rfl
 |cons x t ih=>rw [vu,xE,ih,Bool.not_and]
theorem D2(rows:List ci):qA rows=some (decide (rows.length≤8000)&&uq rows):=by
 unfold qA
 have e: ∀r:ci,mq r=some (!dM r):=by
  intro r
  unfold mq
  rw [IB]
  cases dM r<;>rfl
 rw [Ca (f:=mq) e]
 have ed:decide ((rows.length:Int)≤8000)=decide (rows.length≤8000):=by
  rw [C6];omega
 rw [ed,WV]
 have:uq rows=rows.all dM:=rfl
 rw [this]
 cases decide (rows.length≤8000)<;>simp

def nb(r:Nat):Nat:=if r%2=1 then(r/2)^^^2197175160 else r/2
def nb8(r:Nat):Nat:=nb (nb (nb (nb (nb (nb (nb (nb r)))))))
def Xi:List Int:=(List.range 256).map fun i=>(nb8 i:Int)

def oy(r:ci)(c:List Int):Bool:=decide (c.length≤16)&&c.all fun e=>decide (0≤e)&&decide (e<(r.length:Int))
theorem wg{f:Int→Option Bool}{g:Int→Bool}(hf: ∀v,f v=some (g v)): ∀(l:List Int) (i:Nat),∃j:Int,fM f l i=some j∧decide (0≤j)=l.any g
 |[],i=>⟨-1,rfl,rfl⟩
 |e::l,i=>by
  unfold fM
  rw [hf,be]
  cases h:g e with
  |true=>exact⟨(i:Int),by simp,by simp [h]⟩
  |false=>
   obtain⟨j,h1,h2⟩:=wg hf l (i+1)
   exact⟨j,by simpa using h1,by rw [h2];simp [h]⟩
theorem j9{f:Int→Option Bool}{g:Int→Bool}(hf: ∀v,f v=some (g v))(l:List Int):cE l f=some (l.any g):=by
 unfold cE lH
 obtain⟨j,h1,h2⟩:=wg hf l 0
 rw [h1,be,h2]
theorem Nb(r:ci)(c:List Int):D6 r c=some (oy r c):=by
 unfold D6 oy
 rw [j9 (f:=yY r) (g:=fun c=>(decide (c<(0:Int)))||(decide ((r.length:Int)≤c))) (fun v=>rfl)]
 by_cases h:c.length≤16
 ·rw [aY (by rw [kM];omega),be,be,xF h,u9]
  congr 1
  induction c with
  |nil=>rfl
  |cons e c ih=>
   rw [vu,xE,Bool.not_or,ih (by simp at h;omega)]
   congr 1
   rw [AZ];simp only [DM,Bool.or_eq_false_iff,my,kM,DO];omega
 ·rw [aK (by rw [kM];omega),be,xG h,Ev]
theorem EO(r:ci): ∀(c:List Int) (out:ci),(∀e∈c,0≤e∧e<(r.length:Int))→out.length+c.length≤1000→
  ∃t:ci,t.length=out.length+c.length∧(∀v∈t,v∈out∨v∈r)∧mD r c out=some t∧vd r c out=some t
 |[],out,_,_=>⟨out,rfl,fun v hv=> .inl hv,rfl,rfl⟩
 |e::c,out,h,hl=>by
  obtain⟨h1,h2⟩:=h e (kZ ..)
  obtain⟨n,rfl⟩:=EA h1
  have hn:n<r.length:=by omega
  rw [iY]at hl
  obtain⟨t,g1,g2,g3,g4⟩:=EO r c (out++[r[n]]) (fun e he=>h e (kN _ he)) (by simp;omega)
  have hi:cN r (n:Int)=some r[n]:=by rw [bT];exact oM hn
  refine⟨t,by rw [g1];simp;omega,fun v hv=>?_,?_,?_⟩
  ·rcases g2 v hv with g|g
   ·rcases zA.1 g with g|g
    ·exact .inl g
    ·rw [A3.1 g];exact .inr (JQ hn)
   ·exact .inr g
  ·unfold mD
   rw [hi,be,cq (by simp;omega),be]
   exact g3
  ·unfold vd
   rw [hi,be,cq (by simp;omega),be]
   exact g4
theorem WU(h:xs.length≤68719476736):app [] xs=some xs:=by rw [cq (by simpa using h)];rfl

def Bz(l:List ci)(c:List Int):Bool:=decide (c.length≤16)&&c.all (fun e=>decide (0≤e))&&l.all (fun r=>oy r c)
def wZ(l:List ci)(c:List Int):Int:=if uq l then(if Bz l c then 0 else 2)else 150
theorem DH(c:List Int): ∀l:List ci,qh c l=some (if l.all (fun r=>oy r c)then 0 else 2)
 |[]=>rfl
 |r::l=>by
  unfold qh
  rw [Nb,be,DH c l,xE]
  cases oy r c<;>rfl
theorem GA(h:l.length≤8000)(c:List Int):yZ l c=some (wZ l c):=by
 unfold yZ wZ
 rw [wC,Ik l h,be]
 cases uq l with
 |false=>simp
 |true=>
  rw [aY rfl,aK (by decide),j9 (f:=uI) (g:=fun c=>decide (c<(0:Int))) (fun v=>rfl),aY rfl]
  have hn:c.all (fun e=>decide (0≤e))= !c.any (fun e=>decide (e<(0:Int))):=by
   rw [List.not_any_eq_all_not]
   congr 1
   funext e
   rw [AZ];simp only [kM,DM,DO];omega
  unfold Bz
  by_cases hc:c.length≤16
  ·rw [aY (by simp;omega),be,be,xF hc,hn,DH]
   cases c.any (fun e=>decide (e<(0:Int)))<;>cases l.all (fun r=>oy r c)<;>rfl
  ·rw [aK (by simp;omega),be,xG hc];rfl
theorem zc(h:Bz l c=true)(hr:r∈l):oy r c=true:=by
 unfold Bz at h
 rw [my,jW]at h
 exact h.2 r hr
theorem L0(h:wZ l c=0):uq l=true∧Bz l c=true:=by
 unfold wZ at h
 cases h1:uq l<;>cases h2:Bz l c<;>simp_all
def gL(c:List Int)(r:ci):ci:=(ot r c).getD []
theorem Bh(h:oy r c=true):ot r c=some (gL c r)∧(gL c r).length=c.length∧ ∀v∈gL c r,v∈r:=by
 unfold oy at h
 rw [my,kM,jW]at h
 obtain⟨t,g1,g2,g3,g4⟩:=EO r c [] (fun e he=>by have:=h.2 e he;rw [my,kM,kM]at this;exact this) (by simp;omega)
 have e:ot r c=some t:=g3
 unfold gL
 rw [e]
 exact⟨rfl,by simpa using g1,fun v hv=>(g2 v hv).elim (fun h=>by cases h) id⟩
def yz(c:List Int)(a b:ci):Int:=JM (dV (gL c a) (gL c b)) (dV a b)
theorem Ly(c:List Int):DK (yz c):=
 have h:=DK.lex fK fK
 ⟨fun x y=>h.rng (gL c x,x) (gL c y,y),fun x y=>h.anti (gL c x,x) (gL c y,y),fun x y=>(h.eq (gL c x,x) (gL c y,y)).trans ⟨fun e=>(Prod.mk.injEq ..▸e).2,fun e=>by rw [e]⟩,fun x y z=>h.trans (gL c x,x) (gL c y,y) (gL c z,z)⟩
theorem Mp{a b:ci}(ha:oy a c=true)(hb:oy b c=true):mQ c a b=some (yz c a b):=by
 unfold mQ
 rw [(Bh ha).1,(Bh hb).1]
 simp only [be,wB,CR,YA]
 unfold yz JM
 congr 1
 by_cases h:dV (gL c a) (gL c b)=0
 ·by_cases h2:dV a b=0<;>simp [h,h2]
 ·simp [h]
theorem Mo{a b:ci}(ha:oy a c=true)(hb:oy b c=true):gv c a b=some (decide (gL c a=gL c b)):=by
 unfold gv
 rw [(Bh ha).1,(Bh hb).1]
 simp only [be,wD]
theorem FJ{α:Type}{lt lt' :α→α→Bool}(x:α): ∀l:List α,(∀y∈l,lt y x=lt' y x)→I5 lt x l=I5 lt' x l
 |[],_=>rfl
 |y::l,h=>by
  unfold I5
  rw [h y (kZ ..),FJ x l fun z hz=>h z (kN _ hz)]
theorem Dr{α:Type}{lt lt' :α→α→Bool}: ∀l:List α,(∀x∈l,∀y∈l,lt x y=lt' x y)→Ab lt l=Ab lt' l
 |[],_=>rfl
 |x::l,h=>by
  unfold Ab
  rw [←Dr l fun y hy z hz=>h y (kN _ hy) z (kN _ hz)]
  exact FJ x _ fun y hy=>h y (kN _ ((ub lt l).mem_iff.1 hy)) x (kZ ..)
theorem Ks [DecidableEq α]{f:α→α→Int}(h:DK f){c:α×α→Option Int}{l:List α}(hc: ∀x∈l,∀y∈l,c (x,y)=some (f x y))(hl:l.length≤1099511627776):zX c l=some (rQ f l):=by
 have hg:=yP h (c:=fun p=>some (f p.1 p.2)) (fun _ _=>rfl) hl
 have hlt: ∀x∈l,∀y∈l,vh c x y=vh (fun p:α×α=>some (f p.1 p.2)) x y:=fun x hx y hy=>by unfold vh;rw [hc x hx y hy]
 have hg' :AW c l:=⟨hl,fun x hx y hy=>by rw [hc x hx y hy];rfl,fun x hx=>by rw [hlt x hx x hx];exact hg.irr x hx,
  fun x hx y hy z hz h1 h2=>by rw [hlt x hx y hy]at h1;rw [hlt y hy z hz]at h2;rw [hlt x hx z hz];exact hg.tr x hx y hy z hz h1 h2,
  fun x hx y hy h1 h2=>by rw [hlt x hx y hy]at h1;rw [hlt y hy x hx]at h2;exact hg.anti x hx y hy h1 h2⟩
 rw [EQ hg',Dr l hlt]
 rfl
def vD(al:ci→ci→Bool):Nat→List ci→List (List ci)
 |0,_=>[]
 |_+1,[]=>[]
 |k+1,x::t=>(x::t.takeWhile (al x))::vD al k (t.dropWhile (al x))
theorem EX{Sg:Type}{alike:ci→ci→Option Bool}{al:ci→ci→Bool}(yld:List ci→Sg→Option (Bool×Sg))(nx:Sg→List ci→Option Sg)(s:Sg)(x:ci)(t:List ci)(hal: ∀y∈t,alike x y=some (al x y))(ht:t.length≤8000):
  ∀(rest pre:List ci) (fuel:Nat),t=pre++rest→rest.length<fuel→nI alike yld nx s (x::t) fuel ((1+pre.length:Nat):Int)=(yld (x::(pre++rest.takeWhile (al x))) s).bind fun r=>if(!r.1)then some r.2 else nx r.2 (rest.dropWhile (al x))
 |rest,pre,0,_,h=>by omega
 |[],pre,fuel+1,e,_=>by
  rw [sw]at e
  subst e
  unfold nI
  rw [aK (by simp;omega),be,aK (by decide),show(0:Int)=((0:Nat):Int)from rfl,ma (by omega) (by simp;omega),be]
  rw [ma (by simp;omega) (dh _)]
  simp only [be,List.takeWhile_nil,List.dropWhile_nil,sw,zz]
  rw [sK (by simp;omega),sK (dh _),Et (by simp;omega)]
 |b::rest,pre,fuel+1,e,hf=>by
  have hlen:t.length=pre.length+rest.length+1:=by rw [e];simp;omega
  have hb:cN (x::t) ((1+pre.length:Nat):Int)=some b:=by
   rw [bT,Nat.add_comm,OA,e]
   simp
  unfold nI
  rw [aY (by simp;omega),show cN (x::t) 0=some x from rfl,be,hb,be,hal b (by rw [e];simp),be,be]
  cases hb2:al x b with
  |true=>
   rw [aY rfl,cv (by omega) (by omega),show(((1+pre.length:Nat):Int)+1)=((1+(pre++[b]).length:Nat):Int) by simp;omega]
   rw [EX yld nx s x t hal ht rest (pre++[b]) fuel (by rw [e];simp) (by simp at hf;omega)]
   simp [List.takeWhile_cons,List.dropWhile_cons,hb2]
  |false=>
   rw [aK (by decide),show(0:Int)=((0:Nat):Int)from rfl,ma (by omega) (by simp;omega),be]
   rw [ma (by simp;omega) (dh _)]
   simp only [be,zz]
   rw [sK (l:=x::t) (dh _)]
   have e1:(x::t).take (1+pre.length)=x::pre:=by rw [Nat.add_comm,List.take_succ_cons,e];simp
   have e2:(x::t).drop (1+pre.length)=b::rest:=by rw [Nat.add_comm,List.drop_succ_cons,e];simp
   rw [e1,e2]
   simp [List.takeWhile_cons,List.dropWhile_cons,hb2]
def HE(c:List Int)(y:List ci):iw:=⟨gL c (y.headD []),y⟩
def GW(c:List Int)(a b:ci):Bool:=decide (gL c a=gL c b)
theorem EY(c:List Int): ∀(k fuel:Nat) (l:List ci) (out:List iw),(∀r∈l,oy r c=true)→l.length≤k→l.length<fuel→out.length+l.length≤8000→
  kq (gv c) (DF (fun x s=>ku c x s)) fuel out l=some (out++(vD (GW c) k l).map (HE c))
 |k,0,l,out,_,_,h,_=>by omega
 |k,fuel+1,[],out,_,_,_,_=>by
  unfold kq
  rw [aK (by simp)]
  cases k<;>simp [vD]
 |0,fuel+1,x::t,out,_,h,_,_=>by simp at h
 |k+1,fuel+1,x::t,out,h,hk,hf,ho=>by
  simp only [iY]at hk hf ho
  have hx:=h x (kZ ..)
  have hsub: ∀r∈t.dropWhile (GW c x),r∈t:=fun r hr=>(JZ _).subset hr
  have hdl:(t.dropWhile (GW c x)).length≤t.length:=(JZ _).length_le
  have htl:(t.takeWhile (GW c x)).length≤t.length:=(List.takeWhile_sublist _).length_le
  unfold kq
  rw [aY (by simp),show(1:Int)=((1+([]:List ci).length:Nat):Int)from rfl,
   EX (al:=GW c) _ _ out x t (fun y hy=>Mo hx (h y (kN _ hy))) (by omega) t [] iN rfl (by unfold iN;omega)]
  rw [kz]
  have hb:ku c (x::t.takeWhile (GW c x)) out=some (out++[HE c (x::t.takeWhile (GW c x))]):=by
   unfold ku ff
   rw [show cN (x::t.takeWhile (GW c x)) 0=some x from rfl,be,(Bh hx).1,be,WU (by simp;omega),be,be,cq (by simp;omega)]
   rfl
  have hb2:DF (fun x s=>ku c x s) (x::t.takeWhile (GW c x)) out=some (true,out++[HE c (x::t.takeWhile (GW c x))]):=by
   show Option.map _ (ku c (x::t.takeWhile (GW c x)) out)=_
   rw [hb];rfl
  rw [hb2]
  simp only [be,mL,gm,d9]
  have ih:=EY c k fuel (t.dropWhile (GW c x)) (out++[HE c (x::t.takeWhile (GW c x))]) (fun r hr=>h r (kN _ (hsub r hr))) (by omega) (by omega) (by simp;omega)
  rw [ih]
  simp [vD]
theorem GD(h:HU l)(c:List Int):tP l c=some (if wZ l c=0 then((vD (GW c) l.length (rQ (yz c) l)).map (HE c),0)else([],wZ l c)):=by
 unfold tP
 have hlen:=h.len
 rw [GA h.len,be]
 by_cases ha:wZ l c=0
 ·obtain⟨_,hok⟩:=L0 ha
  rw [aK (by simp [ha]),aY ha,z6 l (fun r hr=>by have:=h.row r hr;omega) (by omega),be]
  rw [Ks (Ly c) (fun x hx y hy=>Mp (zc hok hx) (zc hok hy)) (by omega),be]
  unfold E4
  rw [be]
  unfold wA
  have hl:=oQ (yz c) l
  show((kq (gv c) (DF fun x s=>ku c x s) iN [] (rQ (yz c) l)).bind fun xs1=>some (xs1,(0:Int)))=_
  rw [EY c l.length iN (rQ (yz c) l) [] (fun r hr=>zc hok ((iC _ _).mem_iff.1 hr)) (by omega) (by unfold iN;omega) (by simp;omega)]
  rfl
 ·rw [aY (by simp [ha]),aK ha]
theorem Hp(al:ci→ci→Bool): ∀(k:Nat) (l:List ci),l.length≤k→(vD al k l).flatten=l
 |0,l,h=>by
  have:l=[]:=uD (by omega)
  subst this
  rfl
 |k+1,[],_=>rfl
 |k+1,x::t,h=>by
  have hdl:(t.dropWhile (al x)).length≤t.length:=(JZ _).length_le
  unfold vD
  rw [List.flatten_cons,Hp al k _ (by simp at h;omega),wl,List.takeWhile_append_dropWhile]
theorem EW(al:ci→ci→Bool): ∀(k:Nat) (l:List ci) (y:List ci),y∈vD al k l→ ∃x t,y=x::t∧x∈l∧ ∀z∈t,z∈l∧al x z=true
 |0,l,y,h=>by cases h
 |k+1,[],y,h=>by cases h
 |k+1,x::t,y,h=>by
  unfold vD at h
  rcases fx.1 h with rfl|h
  ·exact⟨x,_,rfl,kZ ..,fun z hz=>⟨kN _ ((List.takeWhile_sublist _).subset hz),by simpa using jW.1 (List.all_takeWhile (p:=al x) (l:=t)) z hz⟩⟩
  ·obtain⟨x',t',e,h1,h2⟩:=EW al k _ y h
   have hsub: ∀r∈t.dropWhile (al x),r∈t:=fun r hr=>(JZ _).subset hr
   exact⟨x',t',e,kN _ (hsub _ h1),fun z hz=>⟨kN _ (hsub _ (h2 z hz).1),(h2 z hz).2⟩⟩
theorem Pc{a b:ci}(h:yz c a b≤0):dV (gL c a) (gL c b)≤0:=by
 unfold yz JM at h
 split at h
 ·exact h
 ·rename_i h2;simp at h2;omega
theorem PD(c:List Int)(x:ci): ∀t:List ci,s6 (yz c) (x::t)→ ∀z∈t.dropWhile (GW c x),dV (gL c x) (gL c z)<0
 |[],_,z,hz=>by cases hz
 |b::t,hs,z,hz=>by
  have hs' :=Cf.1 hs
  have hs2:=Cf.1 hs'.2
  rw [List.dropWhile_cons]at hz
  split at hz
  ·exact PD c x t (Cf.2 ⟨fun w hw=>hs'.1 w (kN _ hw),hs2.2⟩) z hz
  ·rename_i hb
   have hlt:dV (gL c x) (gL c b)<0:=by
    have h1:=Pc (hs'.1 b (kZ ..))
    rcases Int.lt_or_eq_of_le h1 with h|h
    ·exact h
    ·exact absurd (xF ((fK.eq _ _).1 h)) hb
   rcases fx.1 hz with rfl|hz
   ·exact hlt
   ·exact fK.lt (Int.le_of_lt hlt) (Pc (hs2.1 z hz)) (.inl hlt)
theorem Ho(c:List Int): ∀(k:Nat) (l:List ci),s6 (yz c) l→((vD (GW c) k l).map (HE c)).Pairwise (fun a b=>dV a.Key b.Key<0)
 |0,l,_=>List.Pairwise.nil
 |k+1,[],_=>List.Pairwise.nil
 |k+1,x::t,hs=>by
  unfold vD
  rw [vt]
  have hs' :=Cf.1 hs
  refine Cf.2 ⟨fun g hg=>?_,Ho c k _ (hs'.2.sublist (JZ _))⟩
  obtain⟨y,hy,rfl⟩:=vq.1 hg
  obtain⟨x',t',rfl,h1,_⟩:=EW _ _ _ y hy
  exact PD c x t hs x' h1

theorem kj{tl:List α}{y:α}(h:xs.drop i=y::tl):cN xs (i:Int)=some y∧i<xs.length∧xs.drop (i+1)=tl:=by
 have hi:i<xs.length:=by
  rcases nW i xs.length with h1|h1
  ·exact h1
  ·rw [DN h1]at h;cases h
 rw [xL hi]at h
 injection h with h1 h2
 exact⟨by rw [bT,oM hi,h1],hi,h2⟩
theorem uk(h:xs.drop i=[]):xs.length≤i:=Ib.1 h
theorem we{f:fq→Option Bool}{g:fq→Bool}(hf: ∀v,f v=some (g v)): ∀(l:List fq) (i:Nat),∃j:Int,dJ f l i=some j∧decide (0≤j)=l.any g
 |[],i=>⟨-1,rfl,rfl⟩
 |e::l,i=>by
  unfold dJ
  rw [hf,be]
  cases h:g e with
  |true=>exact⟨(i:Int),by simp,by simp [h]⟩
  |false=>
   obtain⟨j,h1,h2⟩:=we hf l (i+1)
   exact⟨j,by simpa using h1,by rw [h2];simp [h]⟩
theorem sJ{f:fq→Option Bool}{g:fq→Bool}(hf: ∀v,f v=some (g v))(l:List fq):dK l f=some (l.any g):=by
 unfold dK iE
 obtain⟨j,h1,h2⟩:=we hf l 0
 rw [h1,be,h2]
theorem s7(l:List Int)(h:l.length≤68719476736):cz l=some l:=by
 unfold cz
 rw [cq (by simpa using h)];rfl
theorem TW(n:Int)(h0:0≤n)(h:n≤68719476736):lU n=some []:=by
 unfold lU mO
 rw [aK (by simp;omega)]
 have e:IntKind.i64.wrap (n-IntKind.i64.wrap ((0:Int)-0))=n:=by
  rw [cv (n:=(0:Int)-0) (by omega) (by omega),cv (by omega) (by omega)];omega
 rw [e]
 by_cases hp:0<n
 ·rw [aY (by simpa using hp)]
  unfold Xv oe
  rw [aY hp]
  simp only [be]
  rw [aY ⟨h0,h⟩]
  simp only [be]
  rw [show dE (List.replicate n.toNat (0:Int)) 0 0=some []from by unfold dE;rw [aY (by simp;omega)];simp]
  rfl
 ·rw [aK (by simpa using hp)];rfl
theorem Mq(a b:List Int)(ha:a.length≤8000)(hb:b.length≤8000):ja [a,b]=some (a++b):=by
 unfold ja
 simp only [ju]
 rw [cv (n:=(0:Int)+(a.length:Int)) (by omega) (by omega),aK (by simp),cv (by omega) (by omega),aK (by simp;omega),TW _ (by omega) (by omega)]
 simp only [be,jt]
 rw [cq (by simp;omega)]
 simp only [be,kz]
 rw [cq (by omega)]
 rfl
structure iv(n:aj):Prop where
 cond:n.Cond.Nodes.length≤5000
 kinds:n.Kinds.length≤5000
 keys:n.Keys.length≤5000
 aggs:n.Aggs.length≤5000
 items:n.Items.length≤5000
 order:n.Order.length≤5000
 args: ∀g∈n.Aggs,g.Arg.Nodes.length≤5000
 exprs: ∀e∈n.Items,e.Nodes.length≤5000
def Io(e:bJ)(kinds:List Int):Bool:=(fR e kinds).2==0&&((fR e kinds).1==1||(fR e kinds).1==0)
theorem yu(e:bJ)(kinds:List Int)(h:e.Nodes.length≤5000):sb e kinds=some (Io e kinds):=by
 unfold sb
 rw [wR e kinds (by omega)]
 rfl
theorem mf(e:bJ)(kinds:List Int):uK e kinds=some (Io e kinds):=by
 unfold uK Io
 rw [lJ e kinds]
 simp only [be,Bool.or_comm]
def PQ(a:hU)(kinds:List Int):Int×Bool:=
 if a.Tag=1 then(2,a.Arg.Nodes.length==0)else if a.Tag=2 then(2,(fR a.Arg kinds).2==0)else if a.Tag=3 then(2,(fR a.Arg kinds).2==0&&((fR a.Arg kinds).1==2||(fR a.Arg kinds).1==0))else if a.Tag=4∨a.Tag=5 then((fR a.Arg kinds).1,(fR a.Arg kinds).2==0)else(0,false)
theorem O5(n:Nat):((n:Int)==0)=(n==0):=by rw [AZ];simp
theorem I2(a:hU)(kinds:List Int)(h:a.Arg.Nodes.length≤5000):zd a kinds=some (PQ a kinds):=by
 unfold zd PQ s0
 by_cases h1:a.Tag=1
 ·rw [aY (by simp [h1]),aY h1,O5]
 rw [aK (by simpa using h1),aK h1,wR _ _ (by omega)]
 simp only [be]
 by_cases h2:a.Tag=2
 ·rw [aY (by simp [h2]),aY h2]
 rw [aK (by simpa using h2),aK h2]
 by_cases h3:a.Tag=3
 ·rw [aY (by simp [h3]),aY h3]
 rw [aK (by simpa using h3),aK h3]
 by_cases h4:a.Tag=4
 ·rw [aY (by simp [h4]),aY (by simp [h4]),aY (.inl h4)]
 rw [aK (by simpa using h4)]
 by_cases h5:a.Tag=5
 ·rw [aY (by simp [h5]),aY (.inr h5)]
 rw [aK (by simpa using h5),aK (by omega)]
def B4(a:hU)(kinds:List Int):Int×Bool:=(lg a kinds).getD (0,false)
theorem pF(a:hU)(kinds:List Int):lg a kinds=some (B4 a kinds):=by
 unfold B4 lg
 rw [lJ]
 simp only [be]
 repeat' split
 all_goals rfl
theorem Er(a:hU)(kinds:List Int):(PQ a kinds).2=(B4 a kinds).2∧((PQ a kinds).2=true→(PQ a kinds).1=(B4 a kinds).1):=by
 unfold B4 lg PQ
 rw [lJ]
 simp only [be]
 by_cases h1:a.Tag=1
 ·simp [h1,O5]
 by_cases h2:a.Tag=2
 ·by_cases he:(fR a.Arg kinds).2=0<;>simp [h2,he]
 by_cases h3:a.Tag=3
 ·by_cases he:(fR a.Arg kinds).2=0
  ·by_cases h0:(fR a.Arg kinds).1=0
   ·simp [h3,he,h0]
   ·by_cases h02:(fR a.Arg kinds).1=2<;>simp [h3,he,h0,h02]
  ·simp [h3,he]
 by_cases h4:a.Tag=4
 ·by_cases he:(fR a.Arg kinds).2=0<;>simp [h4,he]
 by_cases h5:a.Tag=5
 ·by_cases he:(fR a.Arg kinds).2=0<;>simp [h5,he]
 have:a.Tag<1∨5<a.Tag:=by omega
 simp [h1,h2,h3,h4,h5,this]
def B6(p:Option (List Int×Bool))(q:Option (List Int×Bool))(last:Bool):Prop:=
 ∃k o k',p=some (k,o&&last)∧q=some (k',o)∧(o=true→k=k')
theorem Hn(c:aE)(n:aj)(a b:List Int)(hn:iv n)(hop:n.Op=1):B6 (gb c n) (bo n a b) true:=by
 have h:=hn.kinds
 have key: ∀(tl:List Int) (i:Nat) (fu:Nat) (ok:Bool),n.Kinds.drop i=tl→tl.length<fu→cO n fu ok (i:Int)=some (n.Kinds,((((ok&&tl.all fun k=>decide (1≤k)&&decide (k≤3))&&(decide ((0:Int)≤n.Table)))&&(decide (n.Table≤(3:Int))))&&(decide ((1:Int)≤(n.Kinds.length:Int))))&&(decide ((n.Kinds.length:Int)≤(4:Int)))):=by
  intro tl
  induction tl with
  |nil=>
   intro i fu ok hd hf
   obtain⟨fu,rfl⟩: ∃k,fu=k+1:=⟨fu-1,by omega⟩
   have:=uk hd
   rw [cO,aK (by simp;omega)]
   simp
  |cons x tl ih=>
   intro i fu ok hd hf
   simp only [iY]at hf
   obtain⟨fu,rfl⟩: ∃k,fu=k+1:=⟨fu-1,by omega⟩
   obtain⟨h1,h2,h3⟩:=kj hd
   rw [cO,aY (by simp;omega),h1,cv (by omega) (by omega)]
   simp only [be]
   have e:((i:Int)+1)=((i+1:Nat):Int):=by omega
   rw [e]
   have e2:((if ok=true then some (decide ((1:Int)≤x))else some false).bind fun t=>(if t=true then some (decide (x≤(3:Int)))else some false).bind fun t1=>cO n fu t1 ((i+1:Nat):Int))=cO n fu (ok&&(decide (1≤x)&&decide (x≤3))) ((i+1:Nat):Int):=by
    cases ok<;>by_cases hx:(1:Int)≤x<;>simp [hx]
   rw [e2,ih (i+1) fu _ h3 (by omega)]
   simp only [xE,GZ]
 have hr:bo n a b=cO n iN true (0:Int):=by unfold bo;rw [aY (by simp [hop])]
 rw [hr,show((0:Int))=((0:Nat):Int)from rfl,key n.Kinds 0 iN true rfl (xJ (Es _) (m4 (by omega)))]
 unfold gb
 have hc:cE n.Kinds jD=some (n.Kinds.any fun k=> !(((k==(1:Int))||(k==(2:Int)))||(k==(3:Int)))):=j9 (fun v=>rfl) _
 rw [hc]
 simp only [be]
 have e3:(!(n.Kinds.any fun k=> !(((k==(1:Int))||(k==(2:Int)))||(k==(3:Int)))))=n.Kinds.all fun k=>decide (1≤k)&&decide (k≤3):=by
  rw [List.not_any_eq_all_not]
  congr 1
  funext k
  rw [Bool.not_not,AZ]
  simp;omega
 rw [e3]
 refine⟨n.Kinds,_,n.Kinds,?_,rfl,fun _=>rfl⟩
 cases h4:(n.Kinds.all fun k=>decide (1≤k)&&decide (k≤3))<;>by_cases t1:0≤n.Table<;>by_cases t2:n.Table<4<;>by_cases l1:(1:Int)≤(n.Kinds.length:Int)<;>by_cases l2:(n.Kinds.length:Int)≤4<;>simp [t1,t2,l1,l2]<;>omega
theorem QI(c:aE)(n:aj)(a b:List Int)(hn:iv n)(hop:n.Op=2)(ha:cN c.kinds n.A=some a)(hb:cN c.kinds n.B=some b)(hal:a.length≤16)(hbl:b.length≤16):B6 (g9 c n) (bo n a b) true:=by
 unfold g9 bo
 rw [ha,hb,aK (by simp [hop]),aY (by simp [hop])]
 simp only [be]
 rw [Mq _ _ (by omega) (by omega),cq (by simp;omega)]
 simp only [be,kz]
 rw [cq (by omega)]
 simp only [be]
 rw [yu _ _ hn.cond,mf]
 exact⟨_,Io n.Cond (a++b),_,by simp,rfl,fun _=>rfl⟩
theorem LD(c:aE)(n:aj)(a b:List Int)(hn:iv n)(hop:n.Op=3)(ha:cN c.kinds n.A=some a):B6 (gc c n) (bo n a b) true:=by
 unfold gc bo
 rw [ha,aK (by simp [hop]),aK (by simp [hop]),aY (by simp [hop])]
 simp only [be]
 rw [yu _ _ hn.cond,mf]
 exact⟨_,Io n.Cond a,_,by simp,rfl,fun _=>rfl⟩
theorem GT(c:aE)(n:aj)(a b:List Int)(hop:n.Op=6)(ha:cN c.kinds n.A=some a):B6 (fd c n) (bo n a b) true:=by
 unfold fd bo
 rw [ha,aK (by simp [hop]),aK (by simp [hop]),aK (by simp [hop]),aK (by simp [hop]),aK (by simp [hop]),aY (by simp [hop])]
 exact⟨_,true,_,rfl,rfl,fun _=>rfl⟩
theorem IN(c:aE)(n:aj)(a b:List Int)(hn:iv n)(hop:n.Op=5)(ha:cN c.kinds n.A=some a):B6 (fH c n) (bo n a b) true:=by
 have h:=hn.items
 have hr:bo n a b=cW n a iN [] true (0:Int):=by unfold bo;rw [aK (by simp [hop]),aK (by simp [hop]),aK (by simp [hop]),aK (by simp [hop]),aY (by simp [hop])]
 have key: ∀(tl:List bJ) (i:Nat) (fu:Nat) (out:List Int) (ok:Bool),n.Items.drop i=tl→i+tl.length=n.Items.length→tl.length<fu→out.length=i→cW n a fu out ok (i:Int)=some (out++tl.map (fun e=>(fR e a).1),((ok&&tl.all fun e=>(fR e a).2==0)&&(decide ((1:Int)≤(n.Items.length:Int))))&&(decide ((n.Items.length:Int)≤(16:Int)))):=by
  intro tl
  induction tl with
  |nil=>
   intro i fu out ok hd hi hf ho
   obtain⟨fu,rfl⟩: ∃k,fu=k+1:=⟨fu-1,by omega⟩
   simp only [pY,xD]at hi
   rw [cW,aK (by simp;omega)]
   simp [ho,hi]
  |cons x tl ih=>
   intro i fu out ok hd hi hf ho
   simp only [iY]at hf hi
   obtain⟨fu,rfl⟩: ∃k,fu=k+1:=⟨fu-1,by omega⟩
   obtain⟨h1,h2,h3⟩:=kj hd
   rw [cW,aY (by simp;omega),h1]
   simp only [be]
   rw [lJ]
   simp only [be]
   rw [cq (by simp;omega),cv (by omega) (by omega)]
   simp only [be]
   have e:((i:Int)+1)=((i+1:Nat):Int):=by omega
   rw [e,ih (i+1) fu _ _ h3 (by omega) (by omega) (by simp [ho])]
   simp [GZ]
 rw [hr,show((0:Int))=((0:Nat):Int)from rfl,key n.Items 0 iN [] true rfl (by simp) (xJ (Es _) (m4 (by omega))) rfl]
 unfold fH
 have key2: ∀(tl:List bJ) (out:List Int) (ok:Bool),(∀e∈tl,e.Nodes.length≤5000)→out.length+tl.length≤5000→fz c n tl out ok=some (out++tl.map (fun e=>(fR e a).1),ok&&tl.all fun e=>(fR e a).2==0):=by
  intro tl
  induction tl with
  |nil=>intro out ok _ _;simp [fz]
  |cons x tl ih=>
   intro out ok he hl
   simp only [iY]at hl
   rw [fz,ha]
   simp only [be]
   rw [wR _ _ (by have:=he x (kZ ..);omega)]
   simp only [be]
   rw [cq (by simp;omega)]
   simp only [be]
   rw [ih _ _ (fun e h=>he e (kN _ h)) (by simp;omega)]
   simp [GZ]
 rw [key2 n.Items [] _ hn.exprs (by simp;omega)]
 refine⟨_,_,_,?_,rfl,fun _=>rfl⟩
 simp only [xM,u9]
 congr 2
 cases (n.Items.all fun e=>(fR e a).2==0)<;>simp
def YM(a:List Int)(e:Int):Int:=(a[e.toNat]?).getD 0
def IT(a:List Int)(e:Int):Bool:=decide (e<0)||decide ((a.length:Int)≤e)
theorem Sv{a:List Int}{e:Int}(h:IT a e=false):cN a e=some (YM a e):=by
 simp [IT]at h
 rw [hJ e.toNat (by omega),oM (by omega)]
 unfold YM
 rw [oM (by omega)];rfl
theorem NJ(c:aE)(n:aj)(a b:List Int)(hn:iv n)(hop:n.Op=4)(ha:cN c.kinds n.A=some a):B6 (gK c n) (bo n a b) true:=by
 have hK:=hn.keys
 have hA:=hn.aggs
 have hr:bo n a b=cY n a iN [] (0:Int):=by unfold bo;rw [aK (by simp [hop]),aK (by simp [hop]),aK (by simp [hop]),aY (by simp [hop])]
 have key3: ∀(tl:List hU) (i:Nat) (fu:Nat) (out:List Int) (ok:Bool),n.Aggs.drop i=tl→i+tl.length=n.Aggs.length→tl.length<fu→out.length≤5000+i→cX n a fu out ok (i:Int)=some (out++tl.map (fun e=>(B4 e a).1),(((ok&&tl.all fun e=>(B4 e a).2)&&(decide ((n.Keys.length:Int)≤(3:Int))))&&(decide ((n.Aggs.length:Int)≤(12:Int))))&&(decide ((0:Int)<((out.length+tl.length:Nat):Int)))):=by
  intro tl
  induction tl with
  |nil=>
   intro i fu out ok hd hi hf ho
   obtain⟨fu,rfl⟩: ∃k,fu=k+1:=⟨fu-1,by omega⟩
   simp only [pY,xD]at hi
   rw [cX,aK (by simp;omega)]
   simp
  |cons x tl ih=>
   intro i fu out ok hd hi hf ho
   simp only [iY]at hf hi
   obtain⟨fu,rfl⟩: ∃k,fu=k+1:=⟨fu-1,by omega⟩
   obtain⟨h1,h2,h3⟩:=kj hd
   rw [cX,aY (by simp;omega),h1]
   simp only [be]
   rw [pF]
   simp only [be]
   rw [cq (by simp;omega),cv (by omega) (by omega)]
   simp only [be]
   have e:((i:Int)+1)=((i+1:Nat):Int):=by omega
   rw [e,ih (i+1) fu _ _ h3 (by omega) (by omega) (by simp;omega)]
   simp only [vt,xE,GZ,jX,jg,iY,pY,wl,kz]
   rw [show out.length+(0+1)+tl.length=out.length+(tl.length+1)from by omega]
 have key2: ∀(tl:List Int) (i:Nat) (fu:Nat) (out:List Int),n.Keys.drop i=tl→i+tl.length=n.Keys.length→tl.length<fu→out.length=i→cY n a fu out (i:Int)=if tl.any (IT a)then some ([],false)else cX n a iN (out++tl.map (YM a)) true 0:=by
  intro tl
  induction tl with
  |nil=>
   intro i fu out hd hi hf ho
   obtain⟨fu,rfl⟩: ∃k,fu=k+1:=⟨fu-1,by omega⟩
   simp only [pY,xD]at hi
   rw [cY,aK (by simp;omega)]
   simp
  |cons x tl ih=>
   intro i fu out hd hi hf ho
   simp only [iY]at hf hi
   obtain⟨fu,rfl⟩: ∃k,fu=k+1:=⟨fu-1,by omega⟩
   obtain⟨h1,h2,h3⟩:=kj hd
   rw [cY,aY (by simp;omega),h1]
   simp only [be]
   cases hx:IT a x with
   |true=>
    have hx' :(decide (x<0)||decide ((a.length:Int)≤x))=true:=hx
    rw [aY hx',aY (by simp [hx])]
   |false=>
    have hx' : ¬(decide (x<0)||decide ((a.length:Int)≤x))=true:=by rw [show(decide (x<0)||decide ((a.length:Int)≤x))=IT a x from rfl,hx];decide
    rw [aK hx',Sv hx]
    simp only [be]
    rw [cq (by simp;omega),cv (by omega) (by omega)]
    simp only [be]
    have e:((i:Int)+1)=((i+1:Nat):Int):=by omega
    rw [e,ih (i+1) fu _ h3 (by omega) (by omega) (by simp [ho])]
    simp [hx]
 rw [hr,show((0:Int))=((0:Nat):Int)from rfl,key2 n.Keys 0 iN [] rfl (by simp) (xJ (Es _) (m4 (by omega))) rfl]
 rw [show((0:Int))=((0:Nat):Int)from rfl,key3 n.Aggs 0 iN _ true rfl (by simp) (xJ (Es _) (m4 (by omega))) (by simp;omega)]
 unfold gK
 rw [ha,cv (by omega) (by omega)]
 simp only [be]
 have hp:sZ n.Keys a=some (!(n.Keys.any (IT a))):=by
  unfold sZ
  rw [j9 (f:=qn a) (g:=IT a) (fun v=>rfl)]
  rfl
 rw [hp]
 simp only [be,kz,C7]
 have kl: ∀(tl:List hU) (out:List Int) (ok:Bool),(∀e∈tl,e.Arg.Nodes.length≤5000)→out.length+tl.length≤10000→fc a tl out ok=some (out++tl.map (fun e=>(PQ e a).1),ok&&tl.all fun e=>(PQ e a).2):=by
  intro tl
  induction tl with
  |nil=>intro out ok _ _;simp [fc]
  |cons x tl ih=>
   intro out ok he hl
   simp only [iY]at hl
   rw [fc,I2 _ _ (he x (kZ ..))]
   simp only [be]
   rw [cq (by simp;omega)]
   simp only [be]
   rw [ih _ _ (fun e h=>he e (kN _ h)) (by simp;omega)]
   simp [GZ]
 have kl1: ∀(t:Bool) (tl out:List Int),tl.any (IT a)=false→out.length+tl.length≤5000→gy n a t tl out=fc a n.Aggs (out++tl.map (YM a)) t:=by
  intro t tl
  induction tl with
  |nil=>intro out _ _;simp [gy]
  |cons x tl ih=>
   intro out ho hl
   simp only [iY]at hl
   simp only [vu,Bool.or_eq_false_iff]at ho
   rw [gy,Sv ho.1]
   simp only [be]
   rw [cq (by simp;omega)]
   simp only [be]
   rw [ih _ ho.2 (by simp;omega)]
   simp
 have hall:(n.Aggs.all fun e=>(PQ e a).2)=n.Aggs.all fun e=>(B4 e a).2:=by
  congr 1;funext e;exact(Er e a).1
 have hmap:(n.Aggs.all fun e=>(PQ e a).2)=true→n.Aggs.map (fun e=>(PQ e a).1)=n.Aggs.map fun e=>(B4 e a).1:=by
  intro h
  exact G8 fun e he=>(Er e a).2 (jW.1 h e he)
 cases hany:n.Keys.any (IT a)with
 |true=>exact⟨[],false,[],by simp,by simp,fun _=>rfl⟩
 |false=>
  by_cases hb:((n.Keys.length≤3∧n.Aggs.length≤12)∧0<n.Keys.length+n.Aggs.length)
  ·have hb' :(((decide ((n.Keys.length:Int)≤(3:Int)))&&(decide ((n.Aggs.length:Int)≤(12:Int))))&&(decide ((0:Int)<(n.Keys.length:Int)+(n.Aggs.length:Int))))=true:=by simp;omega
   simp only [hb',eg,Ak,mL,gm,d9,be]
   rw [kl1 true n.Keys [] hany (by simp;omega),kl n.Aggs _ true hn.args (by simp;omega)]
   refine⟨n.Keys.map (YM a)++n.Aggs.map (fun e=>(PQ e a).1),n.Aggs.all fun e=>(B4 e a).2,n.Keys.map (YM a)++n.Aggs.map (fun e=>(B4 e a).1),by simp [hall],?_,fun h=>?_⟩
   ·have h1:(decide ((n.Keys.length:Int)≤(3:Int)))=true:=by simp;omega
    have h2:(decide ((n.Aggs.length:Int)≤(12:Int)))=true:=by simp;omega
    have h3:(decide ((0:Int)<((n.Keys.length+n.Aggs.length:Nat):Int)))=true:=by simp;omega
    simp only [h1,h2,h3,xM,u9]
   ·rw [hmap (by rw [hall];exact h)]
  ·have hb' :(((decide ((n.Keys.length:Int)≤(3:Int)))&&(decide ((n.Aggs.length:Int)≤(12:Int))))&&(decide ((0:Int)<(n.Keys.length:Int)+(n.Aggs.length:Int))))=false:=by rw [rN];simp;omega
   simp only [hb',eg,Ak,gm,d9,be]
   refine⟨[],false,n.Keys.map (YM a)++n.Aggs.map (fun e=>(B4 e a).1),by simp,?_,by simp⟩
   have:((((true&&n.Aggs.all fun e=>(B4 e a).2)&&(decide ((n.Keys.length:Int)≤(3:Int))))&&(decide ((n.Aggs.length:Int)≤(12:Int))))&&(decide ((0:Int)<((n.Keys.length+n.Aggs.length:Nat):Int))))=false:=by rw [rN];simp;omega
   rw [this]
def Ry(x y:Int):Int:=if x=0 then y else x
def Kj(p:Int×Int):Bool:=(p.2==Ry p.1 p.2)||p.2==0
theorem MI(c:aE)(n:aj)(a b:List Int)(hop:n.Op=7)(ha:cN c.kinds n.A=some a)(hb:cN c.kinds n.B=some b)(hal:a.length≤16):B6 (gI c n) (bo n a b) true:=by
 unfold gI bo
 rw [ha,hb,aK (by simp [hop]),aK (by simp [hop]),aK (by simp [hop]),aK (by simp [hop]),aK (by simp [hop]),aK (by simp [hop]),aY (by simp [hop])]
 simp only [be]
 by_cases hl:a.length=b.length
 ·rw [aK (by simp;omega),aK (by simp;omega),s7 _ (by omega)]
  simp only [be]
  have kc: ∀(tl pre suf:List Int) (ok:Bool),suf.length=tl.length→dG tl pre.length (pre++suf) ok=some (pre++List.zipWith Ry suf tl,ok&&(suf.zip tl).all Kj):=by
   intro tl
   induction tl with
   |nil=>
    intro pre suf ok h
    have:suf=[]:=uD h
    subst this
    simp [dG]
   |cons y tl ih=>
    intro pre suf ok h
    cases suf with
    |nil=>simp at h
    |cons x suf=>
     simp only [iY,Nat.add_right_cancel_iff]at h
     rw [dG,bT,tA (dh _),zy]
     simp only [Gs,be]
     have step: ∀(z:Int),iJ (dG tl) pre.length y ok (pre++z::suf)=some (pre++z::List.zipWith Ry suf tl,ok&&((z==y||y==0)&&(suf.zip tl).all Kj)):=by
      intro z
      unfold iJ
      rw [bT,tA (dh _),zy]
      simp only [Gs,be]
      have e1:pre++z::suf=(pre++[z])++suf:=by simp
      have e2:pre.length+1=(pre++[z]).length:=by simp
      cases ok with
      |true=>
       simp only [eg,be,u9]
       rw [e1,e2,ih (pre++[z]) suf _ h]
       simp
      |false=>
       simp only [gm,d9,be,Ev]
       rw [e1,e2,ih (pre++[z]) suf _ h]
       simp
     by_cases hx:x=0
     ·subst hx
      rw [aY (by simp)]
      have e3:(pre++(0:Int)::suf).set ((pre.length:Int)).toNat y=pre++y::suf:=by
       rw [A2,List.set_append_right _ _ (dh _),zy];rfl
      rw [e3]
      refine(step y).trans ?_
      simp [Kj,Ry]
     ·rw [aK (by simpa using hx),step x]
      have:Ry x y=x:=by unfold Ry;rw [aK hx]
      simp only [List.zipWith_cons_cons,List.zip_cons_cons,xE,Kj,this]
      have e4:(y==x)=(x==y):=by rw [AZ,sv,sv];exact eq_comm
      rw [e4]
  have kr: ∀(tl tb:List Int) (i:Nat) (out:List Int) (ok:Bool),b.drop i=tb→tl.length=tb.length→out.length+tl.length≤1000→dB b tl i out ok=some (out++List.zipWith Ry tl tb,ok&&(tl.zip tb).all Kj):=by
   intro tl
   induction tl with
   |nil=>
    intro tb i out ok hd h _
    have:tb=[]:=uD h.symm
    subst this
    simp [dB]
   |cons x tl ih=>
    intro tb i out ok hd h hm
    cases tb with
    |nil=>simp at h
    |cons y tb=>
     simp only [iY,Nat.add_right_cancel_iff]at h hm
     obtain⟨h1,h2,h3⟩:=kj hd
     rw [dB,h1]
     simp only [be]
     have step: ∀z:Int,iH b (dB b tl) i out ok z=some (out++z::List.zipWith Ry tl tb,ok&&((y==z||y==0)&&(tl.zip tb).all Kj)):=by
      intro z
      unfold iH
      rw [cq (by simp;omega),h1]
      simp only [be]
      cases ok with
      |true=>
       simp only [eg,be,u9]
       cases hyz:y==z with
       |true=>
        simp only [mL,gm,d9,be]
        rw [ih tb (i+1) _ _ h3 h (by simp;omega)]
        simp
       |false=>
        simp only [Ak,eg,be]
        rw [ih tb (i+1) _ _ h3 h (by simp;omega)]
        simp
      |false=>
       simp only [gm,d9,be,Ev]
       rw [ih tb (i+1) _ _ h3 h (by simp;omega)]
       simp
     by_cases hx:x=0
     ·subst hx
      rw [aY (by simp),step y]
      simp [Kj,Ry]
     ·rw [aK (by simpa using hx),step x]
      have:Ry x y=x:=by unfold Ry;rw [aK hx]
      simp only [List.zipWith_cons_cons,List.zip_cons_cons,xE,Kj,this]
  have h1:=kc b [] a true hl
  rw [pY,kz]at h1
  rw [h1,kr a b 0 [] true rfl hl (by simp;omega)]
  exact⟨_,_,_,by rw [xM],rfl,fun _=>rfl⟩
 ·rw [aY (by simp;omega),aY (by simp;omega)]
  exact⟨[],false,[],rfl,rfl,fun _=>rfl⟩
theorem Nq(c:aE)(n:aj)(a b:List Int)(hn:iv n)(hop:n.Op=8)(ha:cN c.kinds n.A=some a):B6 (gJ c n) (bo n a b) ((c.kinds.length:Int)==IntKind.i64.wrap ((c.Logic.Nodes.length:Int)-(1:Int))):=by
 have h:=hn.order
 have hr:bo n a b=cB n a iN true (0:Int):=by unfold bo;rw [aK (by simp [hop]),aK (by simp [hop]),aK (by simp [hop]),aK (by simp [hop]),aK (by simp [hop]),aK (by simp [hop]),aK (by simp [hop])]
 have key: ∀(tl:List fq) (i:Nat) (fu:Nat) (ok:Bool),n.Order.drop i=tl→i+tl.length=n.Order.length→tl.length<fu→cB n a fu ok (i:Int)=some (a,((((ok&&tl.all fun e=>decide (0≤e.Col)&&decide (e.Col<(a.length:Int)))&&(decide ((n.Order.length:Int)≤(3:Int))))&&(decide ((-1:Int)≤n.Limit)))&&(decide (n.Limit≤(2147483647:Int))))):=by
  intro tl
  induction tl with
  |nil=>
   intro i fu ok hd hi hf
   obtain⟨fu,rfl⟩: ∃k,fu=k+1:=⟨fu-1,by omega⟩
   simp only [pY,xD]at hi
   rw [cB,aK (by simp;omega)]
   simp
  |cons x tl ih=>
   intro i fu ok hd hi hf
   simp only [iY]at hf hi
   obtain⟨fu,rfl⟩: ∃k,fu=k+1:=⟨fu-1,by omega⟩
   obtain⟨h1,h2,h3⟩:=kj hd
   rw [cB,aY (by simp;omega),h1,cv (by omega) (by omega)]
   simp only [be]
   have e:((i:Int)+1)=((i+1:Nat):Int):=by omega
   rw [e]
   have e2:((if ok=true then some (decide ((0:Int)≤x.Col))else some false).bind fun t=>(if t=true then some (decide (x.Col<(a.length:Int)))else some false).bind fun t1=>cB n a fu t1 ((i+1:Nat):Int))=cB n a fu (ok&&(decide (0≤x.Col)&&decide (x.Col<(a.length:Int)))) ((i+1:Nat):Int):=by
    cases ok<;>by_cases hx:(0:Int)≤x.Col<;>simp [hx]
   rw [e2,ih (i+1) fu _ h3 (by omega) (by omega)]
   simp only [xE,GZ]
 rw [hr,show((0:Int))=((0:Nat):Int)from rfl,key n.Order 0 iN true rfl (by simp) (xJ (Es _) (m4 (by omega)))]
 unfold gJ
 rw [ha]
 simp only [be]
 rw [sJ (f:=k5 a) (g:=fun o=>(decide (o.Col<(0:Int)))||(decide ((a.length:Int)≤o.Col))) (fun v=>rfl)]
 simp only [be]
 have e3:(!(n.Order.any fun o=>(decide (o.Col<(0:Int)))||(decide ((a.length:Int)≤o.Col))))=n.Order.all fun e=>decide (0≤e.Col)&&decide (e.Col<(a.length:Int)):=by
  rw [List.not_any_eq_all_not]
  congr 1
  funext k
  rw [AZ]
  simp
 rw [e3]
 refine⟨a,_,a,?_,rfl,fun _=>rfl⟩
 cases h4:(n.Order.all fun e=>decide (0≤e.Col)&&decide (e.Col<(a.length:Int)))<;>by_cases l1:(n.Order.length:Int)≤3<;>simp [l1]

def atR(r:ci)(c:Int):ac:=(r[c.toNat]?).getD zV
def sgO(o:fq)(n:Int):Int:=if o.Desc then -n else n
def qD:List fq→ci→ci→Int
 |[],a,b=>dV a b
 |o::t,a,b=>JM (sgO o (val (atR a o.Col) (atR b o.Col))) (qD t a b)
theorem Us(o:fq):DK (fun x y=>sgO o (val x y)):=by
 have h:=sN
 unfold sgO
 cases o.Desc with
 |false=>exact h
 |true=>
  refine⟨fun x y=>?_,fun x y=>?_,fun x y=>?_,fun x y z h1 h2=>?_⟩
  ·rcases h.rng x y with q|q|q<;>simp [q]
  ·have:=h.anti x y;simp [this]
  ·simp only [eg];rw [←h.eq x y];omega
  ·simp only [eg]at h1 h2 ⊢
   have a1:=h.anti x y;have a2:=h.anti y z;have a3:=h.anti x z
   have:=h.trans z y x (by omega) (by omega)
   omega
theorem vZ: ∀order:List fq,DK (qD order)
 |[]=>fK
 |o::t=>
  have h:=DK.lex (Us o) (vZ t)
  ⟨fun x y=>h.rng (atR x o.Col,x) (atR y o.Col,y),fun x y=>h.anti (atR x o.Col,x) (atR y o.Col,y),fun x y=>(h.eq (atR x o.Col,x) (atR y o.Col,y)).trans ⟨fun e=>(Prod.mk.injEq ..▸e).2,fun e=>by rw [e]⟩,fun x y z=>h.trans (atR x o.Col,x) (atR y o.Col,y) (atR z o.Col,z)⟩
def KY(order:List fq)(r:ci):Bool:=order.all fun o=>decide (0≤o.Col)&&decide (o.Col<(r.length:Int))
theorem I6{c:Int}(h:0≤c)(h2:c<(r.length:Int)):cN r c=some (atR r c):=by
 obtain⟨k,hk⟩:=EA h
 subst hk
 have hk:k<r.length:=by omega
 unfold atR
 rw [hJ k rfl]
 simp [hk]
theorem HS(hr:dM r=true){c:Int}(h:0≤c)(h2:c<(r.length:Int)):fT (atR r c)=true:=by
 have hm:atR r c∈r:=by
  obtain⟨k,hk⟩:=EA h
  subst hk
  have hk:k<r.length:=by omega
  unfold atR
  simp [hk]
 unfold dM at hr
 simp only [my,jW]at hr
 exact hr.2 _ hm
theorem Ur{β:Type}(o:fq){n:Int}(h:n= -1∨n=0∨n=1)(f:Int→β):(if o.Desc then f (IntKind.i64.wrap (0-n))else f n)=f (sgO o n):=by
 unfold sgO
 cases o.Desc with
 |false=>rfl
 |true=>rcases h with h|h|h<;>subst h<;>rfl
theorem KX{o:fq}{t:List fq}(h:KY (o::t) r=true):0≤o.Col∧o.Col<(r.length:Int)∧KY t r=true:=by
 unfold KY at h ⊢
 rw [xE]at h
 simp only [my,kM]at h
 exact⟨h.1.1,h.1.2,h.2⟩
theorem TC{a b:ci}(ha:dM a=true)(hb:dM b=true): ∀order:List fq,KY order a=true→KY order b=true→mH order a b=some (qD order a b)
 |[],_,_=>by
  unfold mH jJ
  rw [vm ha hb];rfl
 |o::t,h1,h2=>by
  obtain⟨p1,p2,p3⟩:=KX h1
  obtain⟨q1,q2,q3⟩:=KX h2
  have ih:=TC ha hb t p3 q3
  unfold mH at ih ⊢
  unfold jJ
  rw [I6 p1 p2,I6 q1 q2,be,be,rn (HS ha p1 p2) (HS hb q1 q2),be]
  have hs:=Ur o (sN.rng (atR a o.Col) (atR b o.Col)) (oH (jJ a b t))
  rw [hs,ih]
  unfold oH
  show _=some (JM _ _)
  unfold JM
  split<;>rfl
def vY(limit:Int)(l:List ci):List ci:=if 0≤limit∧limit<(l.length:Int)then l.take limit.toNat else l
theorem Zx(limit:Int)(l:List ci)(k:List ci→Option (List ci))(hk: ∀x,k x=some x):(if((decide ((0:Int)≤limit))&&(decide (limit<(l.length:Int))))then((dE l 0 limit).bind fun y=>k y)else k l)=some (vY limit l):=by
 unfold vY
 by_cases h:0≤limit∧limit<(l.length:Int)
 ·rw [aY (by simp [h.1,h.2]),aY h,mb (xs:=l) (i:=0) (j:=limit) 0 limit.toNat rfl (by omega) (lS _) (by omega),be,hk]
  simp
 ·rw [aK (by simp only [my,kM];exact h),aK h,hk]
structure On(order:List fq)(l:List ci):Prop where
 right: ∀r∈l,dM r=true
 cols: ∀r∈l,KY order r=true
theorem Hh(order:List fq)(limit:Int): ∀(rows out:List ci),On order (out++rows)→out.length+rows.length≤1000000→kF order limit rows out=some (vY limit (rQ (qD order) (out++rows)))
 |[],out,h,hl=>by
  unfold kF
  rw [sw]at h ⊢
  have e:vX order=some (mH order):=rfl
  rw [e,be]
  rw [Ks (vZ order) (fun x hx y hy=>by exact TC (h.right x hx) (h.right y hy) order (h.cols x hx) (h.cols y hy)) (by simp at hl;omega),be]
  exact Zx limit _ oX (fun _=>rfl)
 |r::t,out,h,hl=>by
  rw [iY]at hl
  unfold kF
  have hr:=Ng (h.right r (by simp))
  rw [C2 r (by omega),be,cq (by simp;omega),be,Hh order limit t (out++[r]) (by rwa [jX,Hb]) (by simp only [jg,Am];omega)]
  rw [jX,Hb]
theorem CM{order:List fq}(h:On order rows)(hl:rows.length≤1000000)(limit:Int):pi rows order limit=some (vY limit (rQ (qD order) rows)):=by
 unfold pi
 rw [Hh order limit rows [] (by simpa using h) (by simpa using hl)]
 rfl
end Go.Proofs.YtfhhakidodmdfaaGreatDoor

