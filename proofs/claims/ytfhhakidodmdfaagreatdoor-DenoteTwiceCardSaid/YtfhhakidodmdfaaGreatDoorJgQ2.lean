/- cP of this claim: M11, M12, M13, M14, M15, J1, K5, J2, J3, K6, K7, K8, L4, J4. -/
import Derived.Test.YtfhhakidodmdfaaGreatDoorJgQ1
set_option linter.all false
namespace Go.Proofs.YtfhhakidodmdfaaGreatDoor
open Go

def jR(m:Nat):List Int:=[((m%4294967296:Nat):Int),((m/4294967296%4294967296:Nat):Int),((m/18446744073709551616%4294967296:Nat):Int),((m/79228162514264337593543950336%4294967296:Nat):Int),0,0,0,0]
def lE(z:Int):eH:=⟨jR z.natAbs,decide (z<0)⟩
variable{m:Nat}
theorem vz(h:m<18446744073709551616):jR m=[((m%4294967296:Nat):Int),((m/4294967296:Nat):Int),0,0,0,0,0,0]:=by
 unfold jR
 rw [CO (show m/4294967296<4294967296 by omega),Nat.div_eq_of_lt h,Nat.div_eq_of_lt (show m<79228162514264337593543950336 by omega)]
 rfl
variable{x:Int}
theorem Ej(x:Nat):((x:Int)).tmod 4294967296=((x%4294967296:Nat):Int):=rfl
theorem yc{u:Nat}(h:u<18446744073709551616):fc .xor .u64 (if IntKind.u64.signed then -1 else IntKind.u64.max) (u:Int)=((18446744073709551615-u:Nat):Int):=by
 have e:fc .xor .u64 (if IntKind.u64.signed then -1 else IntKind.u64.max) (u:Int)=IntKind.u64.wrap (((BitVec.ofInt 64 (if IntKind.u64.signed then -1 else IntKind.u64.max)^^^BitVec.ofInt 64 (u:Int)).toNat:Nat):Int):=rfl
 have e1:BitVec.ofInt 64 (if IntKind.u64.signed then -1 else IntKind.u64.max)=BitVec.allOnes 64:=by decide
 have e2:BitVec.ofInt 64 (u:Int)=BitVec.ofNat 64 u:=BitVec.ofInt_natCast 64 u
 rw [e,e1,e2,BitVec.allOnes_xor,BitVec.toNat_not,BitVec.toNat_ofNat,CO (by omega:u<2^64),qz (by omega)]
variable{b:ac}
theorem Ly(m:Nat)(h:m<18446744073709551616)(b:Bool):nZ 0 (m:Int) ⟨List.replicate 8 0,b⟩=some ⟨jR m,b⟩:=by
 rw [vz h]
 unfold nZ
 rw [Ej,wJ]
 rfl
variable{z:Int}
theorem jl(h:r64 z):fI z=some (lE z):=by
 unfold r64 at h
 unfold fI lE
 by_cases hz:z<0
 ·rw [aY (by simpa using hz)]
  unfold rz
  rw [aY (by decide)]
  have eu:IntKind.u64.wrap z=((18446744073709551616-z.natAbs:Nat):Int):=by rw [ue];omega
  rw [eu,yc (by omega)]
  have e1:IntKind.u64.wrap (((18446744073709551615-(18446744073709551616-z.natAbs):Nat):Int)+1)=((z.natAbs:Nat):Int):=by rw [ue];omega
  rw [e1,aL (by simp;omega)]
  have e2:IntKind.u64.wrap (-1)=((18446744073709551615:Nat):Int):=by decide
  rw [e2,yc (by omega)]
  have:=Ly z.natAbs (by omega) true
  rw [show((18446744073709551615-18446744073709551615:Nat):Int)=0 from rfl,this]
  simp [hz]
 ·rw [aL (by simpa using hz)]
  unfold rz
  rw [aL (by decide)]
  have eu:IntKind.u64.wrap z=((z.natAbs:Nat):Int):=by rw [ue];omega
  rw [eu,show IntKind.u64.wrap 0=0 from by decide,Ly z.natAbs (by omega) false]
  simp [hz]
theorem Ea(h:m<340282366920938463463374607431768211456)(b:Bool):tq ⟨jR m,b⟩=some (decide (m=0)):=by
 unfold tq
 congr 1
 apply jS
 simp only [kX]
 constructor
 ·intro he
  unfold jR at he
  have he:[((m%4294967296:Nat):Int),((m/4294967296%4294967296:Nat):Int),((m/18446744073709551616%4294967296:Nat):Int),((m/79228162514264337593543950336%4294967296:Nat):Int),0,0,0,0]=[0,0,0,0,0,0,0,0]:=he
  simp only [List.cons.injEq]at he
  omega
 ·intro he;subst he;rfl
theorem Qs(h:z.natAbs<340282366920938463463374607431768211456):sw (lE z)=some (lE (-z)):=by
 unfold sw lE
 rw [Ea h]
 simp only [Int.natAbs_neg]
 by_cases h1:z<0
 ·have h2: ¬(-z<0):=by omega
  simp [h1,h2]
  omega
 ·by_cases h0:z=0
  ·subst h0;simp
  ·have h2: -z<0:=by omega
   have h3: ¬z.natAbs=0:=by omega
   have h4:decide (z<0)=false:=xc h1
   have h5:decide (-z<0)=true:=y5 h2
   have h6:decide (z.natAbs=0)=false:=xc h3
   rw [h4,h5,h6]
   rfl
variable{i:Nat}
theorem Us(h:i<8):RJ (i:Int) 8=some ():=by unfold RJ;rw [aY (by omega)]
variable{c:List Int}
theorem iA(aa bb ds:List Int)(s t:Bool)(k i:Nat)(hi:i<8)(e1 e2 c:Nat)(h1:aa[i]? =some (e1:Int))(h2:bb[i]? =some (e2:Int))(b1:e1<4294967296)(b2:e2<4294967296)(b3:c≤1):
  gL ⟨aa,s⟩ ⟨bb,s⟩ (k+1) i (c:Int) ⟨ds,t⟩=gL ⟨aa,s⟩ ⟨bb,s⟩ k (i+1) (((e1+e2+c)/4294967296:Nat):Int) ⟨ds.set i (((e1+e2+c)%4294967296:Nat):Int),t⟩:=by
 conv=>lhs;unfold gL
 rw [aY (by simp),Us hi,bW,h1,bW,h2]
 simp only [bf]
 rw [←zh,qz (by omega),←zh,qz (by omega),wJ,Ej]
 rfl
theorem iB(aa bb ds:List Int)(s u t:Bool)(hsu:(s==u)=false)(k i:Nat)(hi:i<8)(e1 e2 c:Nat)(h1:aa[i]? =some (e1:Int))(h2:bb[i]? =some (e2:Int))(b1:e1<4294967296)(b2:e2<4294967296)(b3:c≤1):
  gL ⟨aa,s⟩ ⟨bb,u⟩ (k+1) i (c:Int) ⟨ds,t⟩=gL ⟨aa,s⟩ ⟨bb,u⟩ k (i+1) ((1-(e1+4294967296-e2-c)/4294967296:Nat):Int) ⟨ds.set i (((e1+4294967296-e2-c)%4294967296:Nat):Int),t⟩:=by
 conv=>lhs;unfold gL
 rw [aL (by simp only [hsu];decide),Us hi,bW,h1,bW,h2]
 simp only [bf]
 have q1:IntKind.u64.wrap ((e1:Int)+4294967296)=((e1+4294967296:Nat):Int):=by rw [GM (by omega) (by omega)];omega
 have q2:IntKind.u64.wrap (((e1+4294967296:Nat):Int)-(e2:Int))=((e1+4294967296-e2:Nat):Int):=by rw [GM (by omega) (by omega)];omega
 have q3:IntKind.u64.wrap (((e1+4294967296-e2:Nat):Int)-(c:Int))=((e1+4294967296-e2-c:Nat):Int):=by rw [GM (by omega) (by omega)];omega
 rw [q1,q2,q3,wJ,Ej]
 have q4:IntKind.u64.wrap (1-(((e1+4294967296-e2-c)/4294967296:Nat):Int))=((1-(e1+4294967296-e2-c)/4294967296:Nat):Int):=by rw [GM (by omega) (by omega)];omega
 rw [q4]
 rfl
theorem Ba(aa bb:eH)(i:Nat)(c:Int)(m:Nat)(hm:m<340282366920938463463374607431768211456)(t:Bool):gL aa bb 0 i c ⟨jR m,t⟩=some ⟨jR m,t&&decide (m≠0)⟩:=by
 unfold gL
 cases t with
 |false=>rfl
 |true=>
  simp only [ep]
  rw [Ea hm]
  simp
variable{p q:Nat}
theorem ZK(hp:p<18446744073709551616)(hq:q<18446744073709551616)(s:Bool):ii ⟨jR p,s⟩ ⟨jR q,s⟩=some ⟨jR (p+q),s&&decide (p+q≠0)⟩:=by
 have hd:jR (p+q)=[(((p%4294967296+q%4294967296+0)%4294967296:Nat):Int),(((p/4294967296+q/4294967296+(p%4294967296+q%4294967296+0)/4294967296)%4294967296:Nat):Int),(((0+0+(p/4294967296+q/4294967296+(p%4294967296+q%4294967296+0)/4294967296)/4294967296)%4294967296:Nat):Int),0,0,0,0,0]:=by
  unfold jR
  congr 1
  ·congr 1;omega
  ·congr 1
   ·congr 1;omega
   ·congr 1
    ·congr 1;omega
    ·congr 1
     have:(p+q)/79228162514264337593543950336%4294967296=0:=by omega
     rw [this];rfl
 have sd:=hd
 rw [vz hp,vz hq]
 unfold ii
 generalize hp0:p%4294967296=p0 at sd ⊢
 generalize hp1:p/4294967296=p1 at sd ⊢
 generalize hq0:q%4294967296=q0 at sd ⊢
 generalize hq1:q/4294967296=q1 at sd ⊢
 have c1:(p0+q0+0)/4294967296≤1:=by omega
 generalize hc:(p0+q0+0)/4294967296=c at sd c1 ⊢
 have c2:(p1+q1+c)/4294967296≤1:=by omega
 generalize hcc:(p1+q1+c)/4294967296=cc at sd c2 ⊢
 rw [show((0:Int))=((0:Nat):Int)from rfl]
 rw [iA _ _ _ s s 7 0 (by omega) p0 q0 0 rfl rfl (by omega) (by omega) (by omega),hc]
 rw [iA _ _ _ s s 6 1 (by omega) p1 q1 c rfl rfl (by omega) (by omega) (by omega),hcc]
 rw [iA _ _ _ s s 5 2 (by omega) 0 0 cc rfl rfl (by omega) (by omega) (by omega)]
 have c3:(0+0+cc)/4294967296=0:=by omega
 rw [c3]
 rw [iA _ _ _ s s 4 3 (by omega) 0 0 0 rfl rfl (by omega) (by omega) (by omega)]
 rw [show(0+0+0)/4294967296=0 from rfl]
 rw [iA _ _ _ s s 3 4 (by omega) 0 0 0 rfl rfl (by omega) (by omega) (by omega)]
 rw [show(0+0+0)/4294967296=0 from rfl]
 rw [iA _ _ _ s s 2 5 (by omega) 0 0 0 rfl rfl (by omega) (by omega) (by omega)]
 rw [show(0+0+0)/4294967296=0 from rfl]
 rw [iA _ _ _ s s 1 6 (by omega) 0 0 0 rfl rfl (by omega) (by omega) (by omega)]
 rw [show(0+0+0)/4294967296=0 from rfl]
 rw [iA _ _ _ s s 0 7 (by omega) 0 0 0 rfl rfl (by omega) (by omega) (by omega)]
 have he:=Ba ⟨[(p0:Int),(p1:Int),0,0,0,0,0,0],s⟩ ⟨[(q0:Int),(q1:Int),0,0,0,0,0,0],s⟩ (7+1) (((0+0+0)/4294967296:Nat):Int) (p+q) (by omega) s
 rw [sd]at he
 rw [sd]
 exact he
theorem Wv(hp:p<18446744073709551616)(hq:q≤p)(s u:Bool)(hsu:(s==u)=false):ii ⟨jR p,s⟩ ⟨jR q,u⟩=some ⟨jR (p-q),s&&decide (p-q≠0)⟩:=by
 have hd:jR (p-q)=[(((p%4294967296+4294967296-q%4294967296-0)%4294967296:Nat):Int),(((p/4294967296+4294967296-q/4294967296-(1-(p%4294967296+4294967296-q%4294967296-0)/4294967296))%4294967296:Nat):Int),0,0,0,0,0,0]:=by
  rw [vz (by omega)]
  congr 1
  ·congr 1;omega
  ·congr 1
   ·congr 1;omega
 have sd:=hd
 rw [vz hp,vz (m:=q) (by omega)]
 unfold ii
 have hge:(p/4294967296+4294967296-q/4294967296-(1-(p%4294967296+4294967296-q%4294967296-0)/4294967296))/4294967296=1:=by omega
 generalize hp0:p%4294967296=p0 at sd hge ⊢
 generalize hp1:p/4294967296=p1 at sd hge ⊢
 generalize hq0:q%4294967296=q0 at sd hge ⊢
 generalize hq1:q/4294967296=q1 at sd hge ⊢
 have c1:1-(p0+4294967296-q0-0)/4294967296≤1:=by omega
 generalize hc:1-(p0+4294967296-q0-0)/4294967296=c at sd hge c1 ⊢
 rw [show((0:Int))=((0:Nat):Int)from rfl]
 rw [iB _ _ _ s u s hsu 7 0 (by omega) p0 q0 0 rfl rfl (by omega) (by omega) (by omega),hc]
 rw [iB _ _ _ s u s hsu 6 1 (by omega) p1 q1 c rfl rfl (by omega) (by omega) (by omega),hge]
 rw [show 1-1=0 from rfl]
 rw [iB _ _ _ s u s hsu 5 2 (by omega) 0 0 0 rfl rfl (by omega) (by omega) (by omega)]
 rw [show 1-(0+4294967296-0-0)/4294967296=0 from rfl]
 rw [iB _ _ _ s u s hsu 4 3 (by omega) 0 0 0 rfl rfl (by omega) (by omega) (by omega)]
 rw [show 1-(0+4294967296-0-0)/4294967296=0 from rfl]
 rw [iB _ _ _ s u s hsu 3 4 (by omega) 0 0 0 rfl rfl (by omega) (by omega) (by omega)]
 rw [show 1-(0+4294967296-0-0)/4294967296=0 from rfl]
 rw [iB _ _ _ s u s hsu 2 5 (by omega) 0 0 0 rfl rfl (by omega) (by omega) (by omega)]
 rw [show 1-(0+4294967296-0-0)/4294967296=0 from rfl]
 rw [iB _ _ _ s u s hsu 1 6 (by omega) 0 0 0 rfl rfl (by omega) (by omega) (by omega)]
 rw [show 1-(0+4294967296-0-0)/4294967296=0 from rfl]
 rw [iB _ _ _ s u s hsu 0 7 (by omega) 0 0 0 rfl rfl (by omega) (by omega) (by omega)]
 have he:=Ba ⟨[(p0:Int),(p1:Int),0,0,0,0,0,0],s⟩ ⟨[(q0:Int),(q1:Int),0,0,0,0,0,0],u⟩ (7+1) ((1-(0+4294967296-0-0)/4294967296:Nat):Int) (p-q) (by omega) s
 rw [sd]at he
 rw [sd]
 exact he
theorem iC(aa bb:List Int)(s t:Bool)(n:Nat)(i:Nat)(hi:i<8)(e1 e2:Int)(h1:aa[i]? =some e1)(h2:bb[i]? =some e2):
  lz ⟨aa,s⟩ ⟨bb,t⟩ (n+1) (i:Int)=if e1=e2 then lz ⟨aa,s⟩ ⟨bb,t⟩ n ((i:Int)-1)else some (decide (e1<e2)):=by
 conv=>lhs;unfold lz
 rw [aY (by simp),bW,h1,bW,h2]
 simp only [bf]
 by_cases h:e1=e2
 ·rw [aL (by simp [h]),aY h,cq (by omega) (by omega)]
 ·rw [aY (by simpa using h),aL h]
theorem Uj(hp:p<18446744073709551616)(hq:q<18446744073709551616)(s t:Bool):tt ⟨jR p,s⟩ ⟨jR q,t⟩=some (decide (p<q)):=by
 rw [vz hp,vz hq]
 unfold tt
 obtain⟨f,hf⟩: ∃f,iz=f+9:=⟨iz-9,by have:=mO (n:=9) (by omega);omega⟩
 rw [hf]
 rw [show(7:Int)=((7:Nat):Int)from rfl,iC _ _ s t (f+8) 7 (by omega) 0 0 rfl rfl,aY rfl]
 rw [show((7:Nat):Int)-1=((6:Nat):Int)from rfl,iC _ _ s t (f+7) 6 (by omega) 0 0 rfl rfl,aY rfl]
 rw [show((6:Nat):Int)-1=((5:Nat):Int)from rfl,iC _ _ s t (f+6) 5 (by omega) 0 0 rfl rfl,aY rfl]
 rw [show((5:Nat):Int)-1=((4:Nat):Int)from rfl,iC _ _ s t (f+5) 4 (by omega) 0 0 rfl rfl,aY rfl]
 rw [show((4:Nat):Int)-1=((3:Nat):Int)from rfl,iC _ _ s t (f+4) 3 (by omega) 0 0 rfl rfl,aY rfl]
 rw [show((3:Nat):Int)-1=((2:Nat):Int)from rfl,iC _ _ s t (f+3) 2 (by omega) 0 0 rfl rfl,aY rfl]
 rw [show((2:Nat):Int)-1=((1:Nat):Int)from rfl,iC _ _ s t (f+2) 1 (by omega) _ _ rfl rfl]
 by_cases h1:((p/4294967296:Nat):Int)=((q/4294967296:Nat):Int)
 ·rw [aY h1,show((1:Nat):Int)-1=((0:Nat):Int)from rfl,iC _ _ s t (f+1) 0 (by omega) _ _ rfl rfl]
  by_cases h0:((p%4294967296:Nat):Int)=((q%4294967296:Nat):Int)
  ·rw [aY h0]
   unfold lz
   rw [aL (by decide)]
   congr 1
   symm
   rw [F4];omega
  ·rw [aL h0]
   congr 1
   apply jS
   simp only [kX];omega
 ·rw [aL h1]
  congr 1
  apply jS
  simp only [kX];omega
variable{y:Int}
theorem Pi(hx:x.natAbs≤9223372036854775808)(hy:y.natAbs≤9223372036854775808):mK (lE x) (lE y)=some (lE (x+y)):=by
 unfold mK lE
 rw [Uj (by omega) (by omega)]
 simp only [bf]
 by_cases h:(decide (x<0)==decide (y<0))=true
 ·have hs:decide (y<0)=decide (x<0):=(eq_of_beq h).symm
  have hne:(decide (x<0) !=decide (y<0))=false:=by rw [hs];simp
  rw [hne]
  simp only [fL,d7,bf]
  rw [hs,ZK (by omega) (by omega)]
  congr 2
  ·congr 1
   have:(decide (x<0)=true↔decide (y<0)=true):=by rw [hs]
   simp only [kX]at this
   omega
  ·apply jS
   have:(decide (x<0)=true↔decide (y<0)=true):=by rw [hs]
   simp only [kX]at this
   simp only [mi,kX]
   omega
 ·have hb:(decide (x<0)==decide (y<0))=false:=by simpa using h
  have hne:(decide (x<0) !=decide (y<0))=true:=by simp only [bne,hb];rfl
  rw [hne]
  simp only [ep,bf]
  have hxy: ¬(x<0↔y<0):=by
   intro hi
   have:decide (x<0)=decide (y<0):=by simp only [CL];exact hi
   rw [this]at hb;simp at hb
  by_cases hlt:x.natAbs<y.natAbs
  ·rw [aY (by simpa using hlt)]
   have hb' :(decide (y<0)==decide (x<0))=false:=by
    cases q1:decide (x<0)<;>cases q2:decide (y<0)<;>simp_all
   rw [Wv (by omega) (by omega) _ _ hb']
   congr 2
   ·congr 1;omega
   ·apply jS
    simp only [mi,kX]
    omega
  ·rw [aL (by simpa using hlt)]
   rw [Wv (by omega) (by omega) _ _ hb]
   congr 2
   ·congr 1;omega
   ·apply jS
    simp only [mi,kX]
    omega
theorem FS(m:Nat)(b:Bool)(e e1 e2 e3:Int):ff ⟨jR m,b⟩ e e1 e2 e3 (8-4) 4=ff ⟨jR m,b⟩ e e1 e2 e3 0 8:=by
 have step: ∀k i,(jR m)[i]? =some 0→ff ⟨jR m,b⟩ e e1 e2 e3 (k+1) i=ff ⟨jR m,b⟩ e e1 e2 e3 k (i+1):=by
  intro k i h
  conv=>lhs;unfold ff
  rw [bW]
  simp only [h,bf]
  rw [aL (by decide)]
 show ff _ _ _ _ _ (3+1) 4=_
 rw [step 3 4 rfl]
 show ff _ _ _ _ _ (2+1) 5=_
 rw [step 2 5 rfl]
 show ff _ _ _ _ _ (1+1) 6=_
 rw [step 1 6 rfl]
 show ff _ _ _ _ _ (0+1) 7=_
 rw [step 0 7 rfl]
theorem Zn:(2:Int)^(min (Int.toNat (32:Int)) IntKind.u64.bits)=((4294967296:Nat):Int):=by
 have:(2:Int)^(min (Int.toNat (32:Int)) IntKind.u64.bits)=4294967296:=by decide
 rw [this];rfl
theorem yp(d e:Nat)(hd:d<4294967296)(he:e<4294967296):IntKind.u64.wrap (IntKind.u64.wrap ((d:Int)*2^(min (Int.toNat (32:Int)) IntKind.u64.bits))+(e:Int))=((d*4294967296+e:Nat):Int):=by
 have e0:(2:Int)^(min (Int.toNat (32:Int)) IntKind.u64.bits)=((4294967296:Nat):Int):=Zn
 rw [e0,←xl,qz (by omega),←zh,qz (by omega)]
variable{a:ac}
theorem Lv(h:z.natAbs<340282366920938463463374607431768211456): ∃n,iJ (lE z)=some (n,decide (r64 z))∧(r64 z→n=z):=by
 unfold iJ we lE
 generalize hm:z.natAbs=m at h ⊢
 have i3:cN (jR m) 3=some ((m/79228162514264337593543950336%4294967296:Nat):Int):=rfl
 have i2:cN (jR m) 2=some ((m/18446744073709551616%4294967296:Nat):Int):=rfl
 have i1:cN (jR m) 1=some ((m/4294967296%4294967296:Nat):Int):=rfl
 have i0:cN (jR m) 0=some ((m%4294967296:Nat):Int):=rfl
 simp only [i3,i2,i1,i0,bf]
 rw [FS]
 unfold ff
 rw [yp _ _ (uZ _ (by decide)) (uZ _ (by decide)),yp _ _ (uZ _ (by decide)) (uZ _ (by decide))]
 have hhi:m/79228162514264337593543950336%4294967296*4294967296+m/18446744073709551616%4294967296=m/18446744073709551616:=by omega
 have hlo:m/4294967296%4294967296*4294967296+m%4294967296=m%18446744073709551616:=by
  have:=Nat.mod_mul (x:=m) (a:=4294967296) (b:=4294967296)
  rw [show 4294967296*4294967296=18446744073709551616 from rfl]at this
  rw [this,Nat.mul_comm,Nat.add_comm]
 rw [hhi,hlo]
 have bhi:m/18446744073709551616<18446744073709551616:=by omega
 have blo:m%18446744073709551616<18446744073709551616:=uZ _ (by decide)
 have hsplit:m=m/18446744073709551616*18446744073709551616+m%18446744073709551616:=by omega
 generalize m/18446744073709551616=hi at bhi hsplit ⊢
 generalize m%18446744073709551616=lo at blo hsplit ⊢
 by_cases hz:z<0
 ·have hzm:z= -(m:Int):=by omega
  have hm0:0<m:=by omega
  rw [aY (by simpa using hz),yc blo,yc bhi]
  have ew:IntKind.u64.wrap (((18446744073709551615-lo:Nat):Int)+1)=(((18446744073709551616-lo)%18446744073709551616:Nat):Int):=by rw [ue];omega
  have eh:IntKind.u64.wrap (((18446744073709551615-hi:Nat):Int)+1)=(((18446744073709551616-hi)%18446744073709551616:Nat):Int):=by rw [ue];omega
  rw [ew,eh]
  unfold lA
  simp only [hz,AH]
  by_cases hl0:lo=0
  ·subst hl0
   rw [aY (by decide)]
   simp only [bf]
   refine⟨IntKind.i64.wrap (((18446744073709551616-0)%18446744073709551616:Nat):Int),?_,fun hr=>?_⟩
   ·congr 2
    have hnr: ¬r64 z:=by unfold r64;omega
    have e0:IntKind.i64.wrap (((18446744073709551616-0)%18446744073709551616:Nat):Int)=0:=by decide
    rw [e0]
    have hne:(IntKind.i64.wrap (((18446744073709551616-hi)%18446744073709551616:Nat):Int)==0)=false:=by
     simp only [beq_eq_false_iff_ne,oU]
     rw [vN];omega
    rw [hne]
    simp [hnr]
   ·unfold r64 at hr;omega
  ·rw [aL (by simp;omega)]
   simp only [bf]
   have e0:IntKind.i64.wrap (((18446744073709551616-lo)%18446744073709551616:Nat):Int)=if lo≤9223372036854775808 then -(lo:Int)else 18446744073709551616-(lo:Int):=by
    rw [vN];split<;>omega
   refine⟨IntKind.i64.wrap (((18446744073709551616-lo)%18446744073709551616:Nat):Int),?_,fun hr=>?_⟩
   ·congr 2
    apply jS
    rw [e0]
    simp only [mi,pW,sY,kX]
    rw [vN]
    unfold r64
    constructor
    ·rintro⟨h1,h2⟩
     split at h2<;>omega
    ·intro h1
     have:hi=0:=by omega
     subst this
     have:lo≤9223372036854775808:=by omega
     rw [aY this]
     refine⟨by omega,.inr ⟨by omega,by omega⟩⟩
   ·rw [e0]
    unfold r64 at hr
    have:hi=0:=by omega
    subst this
    rw [aY (by omega)];omega
 ·have hzm:z=(m:Int):=by omega
  rw [aL (by simpa using hz)]
  unfold lA
  simp only [hz,decide_false,bf]
  have e0:IntKind.i64.wrap (lo:Int)=if lo≤9223372036854775807 then(lo:Int)else(lo:Int)-18446744073709551616:=by
   rw [vN];split<;>omega
  refine⟨IntKind.i64.wrap (lo:Int),?_,fun hr=>?_⟩
  ·congr 2
   apply jS
   rw [e0]
   simp only [mi,pW,sY,kX,F4]
   rw [vN]
   unfold r64
   constructor
   ·rintro⟨h1,h2⟩
    split at h2<;>omega
   ·intro h1
    have:hi=0:=by omega
    subst this
    rw [aY (by omega)]
    refine⟨by omega,.inl ⟨by omega,by omega⟩⟩
  ·rw [e0]
   unfold r64 at hr
   rw [aY (by omega)];omega

theorem vV(aa bb ds:List Int)(s t o:Bool)(nx:Nat→eH→Option eH)(i k j:Nat)(hij:i+j<8)(p e3 e4 c:Nat)(h1:ds[i+j]? =some (p:Int))(h2:aa[i]? =some (e3:Int))(h3:bb[j]? =some (e4:Int))(b1:p<4294967296)(b2:e3<4294967296)(b3:e4<4294967296)(b4:c<4294967296):
  jo ⟨aa,s⟩ ⟨bb,t⟩ nx i (k+1) j (c:Int) ⟨ds,o⟩=jo ⟨aa,s⟩ ⟨bb,t⟩ nx i k (j+1) (((p+e3*e4+c)/4294967296:Nat):Int) ⟨ds.set (i+j) (((p+e3*e4+c)%4294967296:Nat):Int),o⟩:=by
 conv=>lhs;unfold jo
 have hm:e3*e4≤4294967295*4294967295:=vL (by omega) (by omega)
 have hw:IntKind.i64.wrap ((i:Int)+(j:Int))=((i+j:Nat):Int):=by rw [cq (by omega) (by omega)];omega
 rw [hw,Us hij,bW,h1,bW,h2,bW,h3]
 simp only [bf]
 rw [←xl,qz (n:=e3*e4) (by omega),←zh,qz (n:=p+e3*e4) (by omega),←zh,qz (n:=p+e3*e4+c) (by omega),wJ,Ej]
 rfl
theorem PA(aa bb:eH)(ds:List Int)(o:Bool)(nx:Nat→eH→Option eH)(i j:Nat)(hi:i<4)(c:Int):jo aa bb nx i 0 j c ⟨ds,o⟩=nx (i+1) ⟨ds.set (i+4) c,o⟩:=by
 conv=>lhs;unfold jo
 have hw:IntKind.i64.wrap ((i:Int)+(4:Int))=((i+4:Nat):Int):=by rw [cq (by omega) (by omega)];omega
 rw [hw,Us (by omega)]
 rfl
theorem yn(aa bb ds:List Int)(s t o:Bool)(nx:Nat→eH→Option eH)(i:Nat)(hi:i<4)(x y0 y1 p0 p1 p2 p3:Nat)(ha:aa[i]? =some (x:Int))(h0:bb[0]? =some (y0:Int))(h1:bb[1]? =some (y1:Int))(h2:bb[2]? =some 0)(h3:bb[3]? =some 0)
  (q0:ds[i]? =some (p0:Int))(q1:ds[i+1]? =some (p1:Int))(q2:ds[i+2]? =some (p2:Int))(q3:ds[i+3]? =some (p3:Int))(bx:x<4294967296)(by0:y0<4294967296)(by1:y1<4294967296)(b0:p0<4294967296)(b1:p1<4294967296)(b2:p2<4294967296)(b3:p3<4294967296)
  (c1 c2 c3 c4:Nat)(e1:c1=(p0+x*y0+0)/4294967296)(e2:c2=(p1+x*y1+c1)/4294967296)(e3:c3=(p2+x*0+c2)/4294967296)(e4:c4=(p3+x*0+c3)/4294967296):
  jo ⟨aa,s⟩ ⟨bb,t⟩ nx i 4 0 0 ⟨ds,o⟩=nx (i+1) ⟨((((ds.set i (((p0+x*y0+0)%4294967296:Nat):Int)).set (i+1) (((p1+x*y1+c1)%4294967296:Nat):Int)).set (i+2) (((p2+x*0+c2)%4294967296:Nat):Int)).set (i+3) (((p3+x*0+c3)%4294967296:Nat):Int)).set (i+4) ((c4:Nat):Int),o⟩:=by
 have m0:x*y0≤4294967295*4294967295:=vL (by omega) (by omega)
 have m1:x*y1≤4294967295*4294967295:=vL (by omega) (by omega)
 have k1:c1<4294967296:=by omega
 have k2:c2<4294967296:=by omega
 have k3:c3<4294967296:=by omega
 rw [show(0:Int)=((0:Nat):Int)from rfl,vV aa bb ds s t o nx i 3 0 (by omega) p0 x y0 0 q0 ha h0 b0 bx by0 (by omega),←e1]
 rw [vV aa bb _ s t o nx i 2 1 (by omega) p1 x y1 c1 (by rw [GH (by omega)];exact q1) ha h1 b1 bx by1 k1,←e2]
 rw [vV aa bb _ s t o nx i 1 2 (by omega) p2 x 0 c2 (by rw [GH (by omega),GH (by omega)];exact q2) ha h2 b2 bx (by omega) k2,←e3]
 rw [vV aa bb _ s t o nx i 0 3 (by omega) p3 x 0 c3 (by rw [GH (by omega),GH (by omega),GH (by omega)];exact q3) ha h3 b3 bx (by omega) k3,←e4]
 rw [PA _ _ _ _ _ _ _ hi]
 rfl
theorem aao(m:Nat):jR m=[((m%4294967296:Nat):Int),((m/4294967296%4294967296:Nat):Int),((m/4294967296/4294967296%4294967296:Nat):Int),((m/4294967296/4294967296/4294967296%4294967296:Nat):Int),0,0,0,0]:=by
 unfold jR
 rw [CU,CU]
theorem Mb{p0 p1 q0 q1:Nat}(hp0:p0<4294967296)(hp1:p1<4294967296)(hq0:q0<4294967296)(hq1:q1<4294967296)(s t:Bool)(m:Nat)(hm:m=(p1*4294967296+p0)*(q1*4294967296+q0))(hlt:m<340282366920938463463374607431768211456):
  fb ⟨[(p0:Int),(p1:Int),0,0,0,0,0,0],s⟩ ⟨[(q0:Int),(q1:Int),0,0,0,0,0,0],t⟩ 4 0 ⟨List.replicate 8 0,false⟩=some ⟨jR m,(s !=t)&&decide (m≠0)⟩:=by
 have hA:p0*q0≤4294967295*4294967295:=vL (by omega) (by omega)
 have hC:p0*q1≤4294967295*4294967295:=vL (by omega) (by omega)
 have hD:p1*q0≤4294967295*4294967295:=vL (by omega) (by omega)
 have hE:p1*q1≤4294967295*4294967295:=vL (by omega) (by omega)
 have hme:m=4294967296*(4294967296*(p1*q1)+p1*q0+p0*q1)+p0*q0:=by
  rw [hm]
  simp only [uL,Nat.mul_add]
  have h1:p1*4294967296*(q1*4294967296)=4294967296*(4294967296*(p1*q1)):=by
   rw [Nat.mul_mul_mul_comm,Nat.mul_comm (p1*q1),Nat.mul_assoc]
  have h2:p1*4294967296*q0=4294967296*(p1*q0):=by rw [Nat.mul_right_comm,Nat.mul_comm]
  have h3:p0*(q1*4294967296)=4294967296*(p0*q1):=by rw [←Nat.mul_assoc,Nat.mul_comm]
  rw [h1,h2,h3];omega
 obtain⟨c1,e1⟩: ∃c,c=(0+p0*q0+0)/4294967296:=⟨_,rfl⟩
 obtain⟨c2,e2⟩: ∃c,c=(0+p0*q1+c1)/4294967296:=⟨_,rfl⟩
 have k1:c1<4294967296:=by omega
 have k2:c2<4294967296:=by omega
 obtain⟨d1,f1⟩: ∃c,c=(0+p0*q1+c1)%4294967296:=⟨_,rfl⟩
 have l1:d1<4294967296:=by omega
 obtain⟨c3,e3⟩: ∃c,c=(d1+p1*q0+0)/4294967296:=⟨_,rfl⟩
 have k3:c3<4294967296:=by omega
 obtain⟨c4,e4⟩: ∃c,c=(c2+p1*q1+c3)/4294967296:=⟨_,rfl⟩
 have k4:c4<4294967296:=by omega
 obtain⟨d0,f0⟩: ∃c,c=(0+p0*q0+0)%4294967296:=⟨_,rfl⟩
 obtain⟨g1,f2⟩: ∃c,c=(d1+p1*q0+0)%4294967296:=⟨_,rfl⟩
 obtain⟨g2,f3⟩: ∃c,c=(c2+p1*q1+c3)%4294967296:=⟨_,rfl⟩
 have l0:d0<4294967296:=by omega
 have l2:g1<4294967296:=by omega
 have l3:g2<4294967296:=by omega
 have z: ∀x:Nat,0+x*0+0=0:=fun x=>by omega
 -- row 0
 conv=>lhs;unfold fb
 rw [yn _ _ _ s t false _ 0 (by omega) p0 q0 q1 0 0 0 0 rfl rfl rfl rfl rfl rfl rfl rfl rfl hp0 hq0 hq1 (by omega) (by omega) (by omega) (by omega) c1 c2 0 0 e1 e2 (by omega) (by omega)]
 rw [←f0,←f1,show(0+p0*0+c2)%4294967296=c2 from by omega,show(0+p0*0+0)%4294967296=0 from by omega]
 show fb _ _ 3 1 ⟨[(d0:Int),(d1:Int),(c2:Int),0,0,0,0,0],false⟩=_
 -- row 1
 conv=>lhs;unfold fb
 rw [yn _ _ _ s t false _ 1 (by omega) p1 q0 q1 d1 c2 0 0 rfl rfl rfl rfl rfl rfl rfl rfl rfl hp1 hq0 hq1 l1 k2 (by omega) (by omega) c3 c4 0 0 e3 e4 (by omega) (by omega)]
 rw [←f2,←f3,show(0+p1*0+c4)%4294967296=c4 from by omega,show(0+p1*0+0)%4294967296=0 from by omega]
 show fb _ _ 2 2 ⟨[(d0:Int),(g1:Int),(g2:Int),(c4:Int),0,0,0,0],false⟩=_
 -- row 2
 conv=>lhs;unfold fb
 rw [yn _ _ _ s t false _ 2 (by omega) 0 q0 q1 g2 c4 0 0 rfl rfl rfl rfl rfl rfl rfl rfl rfl (by omega) hq0 hq1 l3 k4 (by omega) (by omega) 0 0 0 0 (by omega) (by omega) (by omega) (by omega)]
 rw [show(g2+0*q0+0)%4294967296=g2 from by omega,show(c4+0*q1+0)%4294967296=c4 from by omega]
 show fb _ _ 1 3 ⟨[(d0:Int),(g1:Int),(g2:Int),(c4:Int),0,0,0,0],false⟩=_
 -- row 3
 conv=>lhs;unfold fb
 rw [yn _ _ _ s t false _ 3 (by omega) 0 q0 q1 c4 0 0 0 rfl rfl rfl rfl rfl rfl rfl rfl rfl (by omega) hq0 hq1 k4 (by omega) (by omega) (by omega) 0 0 0 0 (by omega) (by omega) (by omega) (by omega)]
 rw [show(c4+0*q0+0)%4294967296=c4 from by omega,show(0+0*q1+0)%4294967296=0 from by omega]
 show fb _ _ 0 4 ⟨[(d0:Int),(g1:Int),(g2:Int),(c4:Int),0,0,0,0],false⟩=_
 have hd:[(d0:Int),(g1:Int),(g2:Int),(c4:Int),0,0,0,0]=jR m:=by
  rw [aao]
  generalize p0*q0=A at*
  generalize p0*q1=C at*
  generalize p1*q0=D at*
  generalize p1*q1=E at*
  have r1:m/4294967296=4294967296*E+D+C+c1:=by omega
  have r2:m/4294967296/4294967296=c2+E+c3:=by rw [r1];omega
  have r3:m/4294967296/4294967296/4294967296=c4:=by rw [r2];omega
  have w0:m%4294967296=d0:=by omega
  have w1:(4294967296*E+D+C+c1)%4294967296=g1:=by omega
  have w2:(c2+E+c3)%4294967296=g2:=f3.symm
  have w3:c4%4294967296=c4:=by omega
  rw [r3,r2,r1,w0,w1,w2,w3]
 rw [hd]
 unfold fb
 cases hst:(s !=t)with
 |false=>rfl
 |true=>
  simp only [ep]
  rw [Ea hlt]
  simp
theorem S5(hx:x.natAbs≤9223372036854775808)(hy:y.natAbs≤9223372036854775808):ur (lE x) (lE y)=some (lE (x*y)):=by
 have hpr:=Kh x y
 have hna:(x*y).natAbs=x.natAbs*y.natAbs:=Int.natAbs_mul x y
 have hle:x.natAbs*y.natAbs≤9223372036854775808*9223372036854775808:=vL hx hy
 unfold ur lE
 rw [vz (m:=x.natAbs) (by omega),vz (m:=y.natAbs) (by omega)]
 rw [Mb (m:=x.natAbs*y.natAbs) (by omega) (by omega) (by omega) (by omega) _ _ (by congr 1<;>omega) (by omega)]
 rw [hna]
 congr 2
 apply jS
 simp only [mi,kX]
 generalize x.natAbs*y.natAbs=m at*
 generalize (decide (x<0) !=decide (y<0))=b at*
 rw [hpr]
 cases b with
 |true=>simp only [ep,true_and];omega
 |false=>simp only [fL,d7,false_and];constructor;exact False.elim;omega

theorem Z1(a b:Int):cN [a,b,0,0,0,0,0,0] 1=some b:=rfl
theorem Z2(a b:Int):cN [a,b,0,0,0,0,0,0] 0=some a:=rfl
theorem ZJ(a b:Int):((List.replicate 8 (0:Int)).set 0 a).set 1 b=[a,b,0,0,0,0,0,0]:=rfl
theorem PJ(p0 p1 q0 q1:Nat)(s t:Bool)(hp0:p0<4294967296)(hp1:p1<4294967296)(hq0:q0<4294967296)(hq1:q1<4294967296)(p q:Nat)(hp:p1*4294967296+p0=p)(hq:q1*4294967296+q0=q)(h0:q≠0):
  nY ⟨[(p0:Int),(p1:Int),0,0,0,0,0,0],s⟩ ⟨[(q0:Int),(q1:Int),0,0,0,0,0,0],t⟩=some ⟨jR (p/q),(s !=t)&&(((p/q:Nat):Int) !=0)⟩:=by
 unfold nY
 rw [Z1,Z2,Z1,Z2]
 rw [bf,bf,bf,bf]
 rw [yp _ _ hp1 hp0,yp _ _ hq1 hq0,hp,hq]
 have hn:nz (q:Int)=some ():=by
  unfold nz
  rw [aL (by omega)]
 have hle:p/q≤p:=Nat.div_le_self _ _
 have ht:((p:Nat):Int).tdiv (q:Int)=((p/q:Nat):Int):=rfl
 rw [hn,bf,ht,qz (by omega),Ej,wJ,ZJ,vz (by omega)]
theorem Lx(hx:x.natAbs≤9223372036854775808)(hy:y.natAbs≤9223372036854775808)(h0:y≠0):nY (lE x) (lE y)=some (lE (x.tdiv y)):=by
 have hq:=Kf x y
 have hna:(x.tdiv y).natAbs=x.natAbs/y.natAbs:=Int.natAbs_tdiv x y
 unfold lE
 rw [vz (m:=x.natAbs) (by omega),vz (m:=y.natAbs) (by omega)]
 rw [PJ _ _ _ _ _ _ (by omega) (by omega) (by omega) (by omega) x.natAbs y.natAbs (by omega) (by omega) (by omega),hna]
 generalize x.natAbs/y.natAbs=m at*
 have hf:((decide (x<0) !=decide (y<0))&&((m:Int) !=0))=decide (x.tdiv y<0):=by
  apply jS
  rw [hq]
  generalize (decide (x<0) !=decide (y<0))=b
  cases b with
  |true=>simp only [uM,qD,oU,kX,ep];omega
  |false=>simp only [D0,fL,d7,kX,false_iff];omega
 rw [hf]
variable{r:cu}{v:ac}
theorem yo(h:z.natAbs<340282366920938463463374607431768211456):((iJ (lE z)).bind fun r=>if(!r.2)=true then some (zV,(140:Int))else(kj r.1).bind fun v=>some (v,(0:Int)))=some (if r64 z then(iV z,0)else(zV,140)):=by
 obtain⟨n,h1,h2⟩:=Lv h
 rw [h1]
 simp only [bf]
 by_cases hr:r64 z
 ·rw [aY hr,h2 hr,aL (by simp [hr])];rfl
 ·rw [aL hr,aY (by simp [hr])]
theorem NT(v:ac)(h:fH v=true):pu v=some ((v.Kind==0)||(v.Kind==2)):=by
 unfold pu
 rw [fP,h];rfl
theorem zG(h:r64 x):x.natAbs≤9223372036854775808:=by unfold r64 at h;omega
variable{tag:Int}
theorem Pe(h: ¬((a.Kind=0∨a.Kind=2)∧(b.Kind=0∨b.Kind=2))):w8 tag a b=(zV,2):=aL h
theorem SX(h:(a.Kind=0∨a.Kind=2)∧(b.Kind=0∨b.Kind=2))(h2:a.Kind=0∨b.Kind=0):w8 tag a b=(zV,0):=by
 unfold w8
 rw [aY h,aY h2]
theorem Wc(ht:tag=12∨tag=13∨tag=14∨tag=15)(ha:Pl a)(hb:Pl b)(h:(a.Kind=0∨a.Kind=2)∧(b.Kind=0∨b.Kind=2))(h2: ¬(a.Kind=0∨b.Kind=0)):w8 tag a b=Gg tag a.N b.N:=by
 unfold w8
 rw [aY h,aL h2,We ht ha.r64 hb.r64]
def ZM(tag:Int):Int:=if tag=12 then 43 else if tag=13 then 45 else if tag=14 then 42 else 47
theorem acA(hx:r64 x)(hy:r64 y):((fI x).bind fun r4=>(fI y).bind fun r5=>(mK r4 r5).bind fun r6=>(iJ r6).bind fun r7=>if(!r7.2)=true then some (zV,(140:Int))else(kj r7.1).bind fun r8=>some (r8,(0:Int)))=some (Gg 12 x y):=by
 rw [jl hx,jl hy,bf,bf,Pi (zG hx) (zG hy),bf,pK (WK _ _)]
 have:=zG hx
 have:=zG hy
 exact yo (by omega)
theorem acz(hx:r64 x)(hy:r64 y):((fI x).bind fun r9=>(fI y).bind fun r10=>(sw r10).bind fun r11=>(mK r9 r11).bind fun r12=>(iJ r12).bind fun r13=>if(!r13.2)=true then some (zV,(140:Int))else(kj r13.1).bind fun r14=>some (r14,(0:Int)))=some (Gg 13 x y):=by
 have h1:=zG hx
 have h2:=zG hy
 rw [jl hx,jl hy,bf,bf,Qs (by omega),bf,Pi h1 (by rw [Int.natAbs_neg];exact h2),bf,pK (WJ _ _),←Int.sub_eq_add_neg]
 exact yo (by omega)
theorem acy(hx:r64 x)(hy:r64 y):((fI x).bind fun r15=>(fI y).bind fun r16=>(ur r15 r16).bind fun r17=>(iJ r17).bind fun r18=>if(!r18.2)=true then some (zV,(140:Int))else(kj r18.1).bind fun r19=>some (r19,(0:Int)))=some (Gg 14 x y):=by
 have h1:=zG hx
 have h2:=zG hy
 rw [jl hx,jl hy,bf,bf,S5 h1 h2,bf,pK (WI _ _)]
 have h3:x.natAbs*y.natAbs≤85070591730234615865843651857942052864:=vL h1 h2
 exact yo (by rw [Int.natAbs_mul];omega)
theorem acx(hx:r64 x)(hy:r64 y)(h0:y≠0):((fI x).bind fun r20=>(fI y).bind fun r21=>(nY r20 r21).bind fun r22=>(iJ r22).bind fun r23=>if(!r23.2)=true then some (zV,(140:Int))else(kj r23.1).bind fun r24=>some (r24,(0:Int)))=some (Gg 15 x y):=by
 have h1:=zG hx
 have h2:=zG hy
 rw [jl hx,jl hy,bf,bf,Lx h1 h2 h0,bf,pK (z:=x.tdiv y) (by rw [OU,aL h0])]
 have h3:(x.tdiv y).natAbs=x.natAbs/y.natAbs:=Int.natAbs_tdiv _ _
 have h4:x.natAbs/y.natAbs≤x.natAbs:=Nat.div_le_self _ _
 exact yo (by omega)
theorem Xm(ht:tag=12∨tag=13∨tag=14∨tag=15)(ha:Pl a)(hb:Pl b):iU (ZM tag) a b=some (w8 tag a b):=by
 have hra:=ha.r64
 have hrb:=hb.r64
 unfold iU
 rw [fP,fP,ha.right,hb.right,NT a ha.right,NT b hb.right]
 rw [bf,aY (by decide),bf,bf,aL (by decide),bf,bf]
 by_cases h1:a.Kind=0∨a.Kind=2
 ·have e1:((a.Kind==0)||(a.Kind==2))=true:=by simpa using h1
  rw [e1,aY (by decide)]
  by_cases h2:b.Kind=0∨b.Kind=2
  ·have e2:((b.Kind==0)||(b.Kind==2))=true:=by simpa using h2
   rw [e2,bf,aL (by decide)]
   by_cases h3:a.Kind=0∨b.Kind=0
   ·rw [SX ⟨h1,h2⟩ h3,aY (by simpa using h3)];rfl
   ·rw [Wc ht ha hb ⟨h1,h2⟩ h3,aL (by simpa using h3)]
    rcases ht with rfl|rfl|rfl|rfl
    ·rw [aY (by decide)]
     exact acA hra hrb
    ·rw [aL (by decide),aY (by decide)]
     exact acz hra hrb
    ·rw [aL (by decide),aL (by decide),aY (by decide)]
     exact acy hra hrb
    ·rw [aL (by decide),aL (by decide),aL (by decide)]
     by_cases h0:b.N=0
     ·rw [aY (by simpa using h0),G1 (by rw [OU,aY h0])];rfl
     ·rw [aL (by simpa using h0)]
      exact acx hra hrb h0
  ·have e2:((b.Kind==0)||(b.Kind==2))=false:=by simpa using h2
   rw [e2,bf,aY (by decide),Pe (fun h=>h2 h.2)];rfl
 ·have e1:((a.Kind==0)||(a.Kind==2))=false:=by simpa using h1
  rw [e1,aL (by decide),bf,aY (by decide),Pe (fun h=>h1 h.1)];rfl

variable{α:Type}{xs:List α}
theorem Hd{s:xb}{x:UInt8}{xs:List UInt8}(h:s.drop i=x::xs):PY s (i:Int)=some (x.toNat:Int):=by
 unfold PY
 rw [bW]
 have:s[i]? =some x:=by
  have h2:(s.drop i)[0]? =some x:=by rw [h];rfl
  rw [wU]at h2
  exact h2
 rw [this];rfl
theorem Ho{s:List α}{x:α}(h:s.drop i=x::xs):s.drop (i+1)=xs:=by
 rw [←pV,h];rfl
theorem Y0(a b:ac): ∀(xs ys:List UInt8) (i n:Nat),a.S.drop i=xs→b.S.drop i=ys→a.S.length=i+xs.length→b.S.length=i+ys.length→xs.length<n→a.S.length≤100000→lU a b n (i:Int)=some (Lib.compareBytes xs ys):=by
 intro xs
 induction xs with
 |nil=>
  intro ys i n h1 h2 l1 l2 hn _
  obtain⟨m,rfl⟩: ∃m,n=m+1:=⟨n-1,by simp at hn;omega⟩
  simp only [pQ,yZ]at l1
  unfold lU
  have e1:decide ((i:Int)<(a.S.length:Int))=false:=by simp;omega
  rw [e1,D0,aL (by decide)]
  cases ys with
  |nil=>
   simp only [pQ,yZ]at l2
   rw [aL (by simp;omega)];rfl
  |cons y ys=>
   simp only [iN]at l2
   rw [aY (by simp;omega),aY (by simp;omega)];rfl
 |cons x xs ih=>
  intro ys i n h1 h2 l1 l2 hn hl
  obtain⟨m,rfl⟩: ∃m,n=m+1:=⟨n-1,by simp at hn;omega⟩
  simp only [iN]at l1 hn
  unfold lU
  have e1:decide ((i:Int)<(a.S.length:Int))=true:=by simp;omega
  rw [e1,uM]
  cases ys with
  |nil=>
   simp only [pQ,yZ]at l2
   rw [aL (by simp;omega),aY (by simp;omega),aL (by simp;omega)];rfl
  |cons y ys=>
   simp only [iN]at l2
   rw [aY (by simp;omega),Hd h1,Hd h2]
   simp only [bf]
   unfold Lib.compareBytes
   by_cases h:x=y
   ·subst h
    have hlt: ¬x<x:=by rw [NJ];omega
    rw [aL (by simp),aL hlt,aL hlt,cq (by omega) (by omega)]
    exact ih ys (i+1) m (Ho h1) (Ho h2) (by omega) (by omega) (by omega) hl
   ·have hne:x.toNat≠y.toNat:=fun hh=>h (UInt8.toNat_inj.1 hh)
    rw [aY (by simp;omega)]
    by_cases hlt:x<y
    ·have:=NJ.1 hlt
     rw [aY hlt,aY (by simp;omega)]
    ·have h3: ¬x.toNat<y.toNat:=fun hh=>hlt (NJ.2 hh)
     have h4:y<x:=NJ.2 (by omega)
     rw [aL hlt,aY h4,aL (by simp;omega)]
theorem Pl.short(h:Pl v):v.S.length≤40:=by
 cases h with
 |z=>simp [zV]
 |b b=>simp [bV]
 |i n h=>simp [iV]
 |s s h=>exact h
def sg(x y:Int):Int:=if x<y then -1 else if y<x then 1 else 0
theorem Nr(x y:Int):iM x y=some (sg x y):=by
 unfold iM nE sg
 simp only [DX,bf,fL,d7,kX]
 by_cases h1:x<y
 ·rw [aY h1,aY h1]
 ·rw [aL h1,aL h1]
  by_cases h2:y<x
  ·rw [aY h2,aY h2]
  ·rw [aL h2,aL h2]
theorem Ja(x y:Int):gD x y=some (sg x y):=by
 unfold gD kV sg
 simp only [DX,bf,fL,d7,kX]
 by_cases h1:x<y
 ·rw [aY h1,aY h1]
 ·rw [aL h1,aL h1]
  by_cases h2:y<x
  ·rw [aY h2,aY h2]
  ·rw [aL h2,aL h2]
theorem V1(x y z:Int):mY [x,y,z]=some (if x≠0 then x else if y≠0 then y else z):=by
 unfold mY fW fW fW fW
 by_cases h1:x=0<;>by_cases h2:y=0<;>by_cases h3:z=0<;>simp [h1,h2,h3]
theorem Jb(ha:Pl a)(hb:Pl b):FE a b=if sg a.Kind b.Kind≠0 then sg a.Kind b.Kind else if sg a.N b.N≠0 then sg a.N b.N else Lib.compareBytes a.S b.S:=by
 unfold FE lu
 rw [ha.plain_eq,hb.plain_eq,bf,aY (by decide),bf,bf,aL (by decide),Nr,Ja,bf,bf]
 have:pe a.S b.S=some (Lib.compareBytes a.S b.S):=rfl
 rw [this,bf,V1];rfl
theorem Q7(x:Int):sg x x=0:=by unfold sg;rw [aL (by omega),aL (by omega)]
theorem NY(h:x≠y):sg x y=(if x<y then -1 else 1)∧sg x y≠0:=by
 unfold sg
 by_cases h1:x<y
 ·rw [aY h1,aY h1];exact⟨rfl,by decide⟩
 ·rw [aL h1,aL h1,aY (by omega)];exact⟨rfl,by decide⟩
theorem Y3(ha:Pl a)(hb:Pl b)(h:a.Kind≠b.Kind):FE a b=if a.Kind<b.Kind then -1 else 1:=by
 rw [Jb ha hb,aY (NY h).2,(NY h).1]
theorem Y2(ha:Pl a)(hb:Pl b)(h:a.Kind=b.Kind)(h2:a.N≠b.N):FE a b=if a.N<b.N then -1 else 1:=by
 rw [Jb ha hb,h,Q7,aL (by decide),aY (NY h2).2,(NY h2).1]
theorem Y1(ha:Pl a)(hb:Pl b)(h:a.Kind=b.Kind)(h2:a.N=b.N):FE a b=Lib.compareBytes a.S b.S:=by
 rw [Jb ha hb,h,Q7,aL (by decide),h2,Q7,aL (by decide)]
theorem Cb(ha:Pl a)(hb:Pl b):oY a b=some (FE a b):=by
 unfold oY
 rw [jp,jp,ha.plain,hb.plain,bf,aY (by decide),bf,bf,aL (by decide)]
 by_cases h1:a.Kind=b.Kind
 ·rw [aL (by simpa using h1)]
  by_cases h2:a.N=b.N
  ·rw [aL (by simpa using h2),Y1 ha hb h1 h2]
   have h4:=ha.short
   have h5:=mO (n:=41) (by omega)
   exact Y0 a b a.S b.S 0 iz rfl rfl (by omega) (by omega) (by omega) (by omega)
  ·rw [aY (by simpa using h2),Y2 ha hb h1 h2]
   by_cases h3:a.N<b.N
   ·rw [aY h3,aY (by simpa using h3)]
   ·rw [aL h3,aL (by simpa using h3)]
 ·rw [aY (by simpa using h1),Y3 ha hb h1]
  by_cases h3:a.Kind<b.Kind
  ·rw [aY h3,aY (by simpa using h3)]
  ·rw [aL h3,aL (by simpa using h3)]
theorem uS(b:Bool):kF b=some (bV b):=by cases b<;>rfl
theorem V8(ha:Pl a)(hb:Pl b):tu a b=some (if a.Kind≠0∧b.Kind≠0∧a.Kind≠b.Kind then 2 else 0):=by
 unfold tu
 rw [fP,fP,ha.right,hb.right,bf,aY (by decide),bf,bf,aL (by decide)]
 rw [jp,jp,ha.plain,hb.plain,bf,aY (by decide),bf,bf]
 by_cases h:a.Kind≠0∧b.Kind≠0∧a.Kind≠b.Kind
 ·rw [aY h,aY (by simp [h])]
 ·rw [aL h,aL (by simp;intro h1 h2;exact Classical.byContradiction fun h3=>h ⟨h1,h2,h3⟩)]
theorem JZ(ha:Pl a)(hb:Pl b)(f:Int→Bool):((tu a b).bind fun r=>if(((r !=(0:Int))||(a.Kind==(0:Int)))||(b.Kind==(0:Int)))=true then some ((⟨(0:Int),(0:Int),(0:Int),[]⟩:ac),r)else(oY a b).bind fun r1=>(kF (f r1)).bind fun r2=>some (r2,(0:Int)))=some (eC f a b):=by
 rw [V8 ha hb,bf]
 by_cases h0:a.Kind=0∨b.Kind=0
 ·have hne: ¬(a.Kind≠0∧b.Kind≠0∧a.Kind≠b.Kind):=fun h=>h0.elim h.1 h.2.1
  have e:eC f a b=(zV,0):=aY h0
  rw [aL hne,e,aY (by rcases h0 with h|h<;>simp [h])];rfl
 ·have h1:a.Kind≠0:=fun h=>h0 (.inl h)
  have h2:b.Kind≠0:=fun h=>h0 (.inr h)
  by_cases h3:a.Kind=b.Kind
  ·have hne: ¬(a.Kind≠0∧b.Kind≠0∧a.Kind≠b.Kind):=fun h=>h.2.2 h3
   have e:eC f a b=(bV (f (FE a b)),0):=by unfold eC;rw [aL h0,aY h3]
   rw [aL hne,e,aL (by simp [h1,h2]),Cb ha hb,bf,uS];rfl
  ·have hp:a.Kind≠0∧b.Kind≠0∧a.Kind≠b.Kind:=⟨h1,h2,h3⟩
   have e:eC f a b=(zV,2):=by unfold eC;rw [aL h0,aL h3]
   rw [aY hp,e,aY (by simp)];rfl
theorem xG(ha:Pl a)(hb:Pl b):rA a b=some (eC (fun c=>c==0) a b):=JZ ha hb _
theorem ri(ha:Pl a)(hb:Pl b):mL a b=some (eC (fun c=>decide (c<0)) a b):=JZ ha hb _
theorem B2(ha:Pl a)(hb:Pl b):qb a b=some (if a.Kind≤1∧b.Kind≤1 then 0 else 2):=by
 unfold qb
 rw [fP,fP,ha.right,hb.right,bf,aY (by decide),bf,bf,aL (by decide)]
 by_cases h:a.Kind≤1∧b.Kind≤1
 ·rw [aY h,aL (by simp;omega)]
 ·rw [aL h,aY (by simp;omega)]
theorem A7(h:Tu a):i9 a=some (Gq a,0):=by
 cases h with
 |z=>rfl
 |b b=>cases b<;>rfl
theorem Il(ha:Tu a)(hb:Tu b):sN a b=some (FJ a b,0):=by
 cases ha with
 |z=>cases hb with
  |z=>rfl
  |b b=>cases b<;>rfl
 |b x=>cases hb with
  |z=>cases x<;>rfl
  |b b=>cases x<;>cases b<;>rfl
theorem Kc(ha:Tu a)(hb:Tu b):xF a b=some (Tm a b,0):=by
 cases ha with
 |z=>cases hb with
  |z=>rfl
  |b b=>cases b<;>rfl
 |b x=>cases hb with
  |z=>cases x<;>rfl
  |b b=>cases x<;>cases b<;>rfl
theorem Ik(ha:Pl a):i9 a=some (if a.Kind≤1 then(Gq a,0)else(zV,2)):=by
 by_cases h:a.Kind≤1
 ·rw [aY h];exact A7 ((iY ha).2 h)
 ·rw [aL h]
  unfold i9
  rw [B2 ha ha,aL (fun k=>h k.1)];rfl
theorem Im(ha:Pl a)(hb:Pl b):sN a b=some (if a.Kind≤1∧b.Kind≤1 then(FJ a b,0)else(zV,2)):=by
 by_cases h:a.Kind≤1∧b.Kind≤1
 ·rw [aY h];exact Il ((iY ha).2 h.1) ((iY hb).2 h.2)
 ·rw [aL h]
  unfold sN
  rw [B2 ha hb,aL h];rfl
theorem Kd(ha:Pl a)(hb:Pl b):xF a b=some (if a.Kind≤1∧b.Kind≤1 then(Tm a b,0)else(zV,2)):=by
 by_cases h:a.Kind≤1∧b.Kind≤1
 ·rw [aY h];exact Kc ((iY ha).2 h.1) ((iY hb).2 h.2)
 ·rw [aL h]
  unfold xF
  rw [B2 ha hb,aL h];rfl
theorem E2{f:Int→Bool}{x y:ac}:((i9 (eC f x y).1).bind fun r=>some (r.1,(eC f x y).2))=some (E3 (eC f x y)):=by
 unfold E3
 by_cases h0:(eC f x y).2=0
 ·rw [aY h0,A7 (rF f x y h0),bf,h0]
 ·rw [aL h0,Cl f x y h0];rfl
theorem Gi{k:Nat}(h:pk tag=some k)(hk:k≠0)(ha:Pl a)(hb:Pl b):EO tag a b=some (Cd tag a b):=by
 have op: ∀t,t=12∨t=13∨t=14∨t=15→iU (ZM t) a b=some (w8 t a b):=fun t ht=>Xm ht ha hb
 rcases Rh h hk with rfl|rfl|rfl|rfl|rfl|rfl|rfl|rfl|rfl|rfl|rfl|rfl|rfl|rfl|rfl|rfl
 ·have h2:iU 45 (iV 0) a=some (w8 13 (iV 0) a):=Xm (tag:=13) (.inr (.inl rfl)) (.i 0 ⟨by decide,by decide⟩) ha
  show(iU 45 (iV 0) a).bind _=_
  rw [h2];rfl
 ·show(i9 a).bind _=some (if a.Kind≤1 then(Gq a,0)else(zV,2))
  rw [Ik ha];rfl
 ·show(kF (a.Kind==0)).bind _=some (bV (a.Kind==0),0)
  rw [uS];rfl
 ·show(kF (a.Kind !=0)).bind _=some (bV (a.Kind !=0),0)
  rw [uS];rfl
 ·show(iU 43 a b).bind _=some (w8 12 a b)
  rw [show iU 43 a b=some (w8 12 a b)from op 12 (.inl rfl)];rfl
 ·show(iU 45 a b).bind _=some (w8 13 a b)
  rw [show iU 45 a b=some (w8 13 a b)from op 13 (.inr (.inl rfl))];rfl
 ·show(iU 42 a b).bind _=some (w8 14 a b)
  rw [show iU 42 a b=some (w8 14 a b)from op 14 (.inr (.inr (.inl rfl)))];rfl
 ·show(iU 47 a b).bind _=some (w8 15 a b)
  rw [show iU 47 a b=some (w8 15 a b)from op 15 (.inr (.inr (.inr rfl)))];rfl
 ·show((rA a b).bind fun r=>some (r.1,r.2)).bind _=some (eC (fun c=>c==0) a b)
  rw [xG ha hb];rfl
 ·show((rA a b).bind fun r=>(i9 r.1).bind fun r4=>some (r4.1,r.2)).bind _=some (E3 (eC (fun c=>c==0) a b))
  rw [xG ha hb,bf,E2];rfl
 ·show((mL a b).bind fun r=>some (r.1,r.2)).bind _=some (eC (fun c=>decide (c<0)) a b)
  rw [ri ha hb];rfl
 ·show((mL b a).bind fun r=>(i9 r.1).bind fun r4=>some (r4.1,r.2)).bind _=some (E3 (eC (fun c=>decide (c<0)) b a))
  rw [ri hb ha,bf,E2];rfl
 ·show((mL b a).bind fun r=>some (r.1,r.2)).bind _=some (eC (fun c=>decide (c<0)) b a)
  rw [ri hb ha];rfl
 ·show((mL a b).bind fun r=>(i9 r.1).bind fun r4=>some (r4.1,r.2)).bind _=some (E3 (eC (fun c=>decide (c<0)) a b))
  rw [ri ha hb,bf,E2];rfl
 ·show(sN a b).bind _=some (if a.Kind≤1∧b.Kind≤1 then(FJ a b,0)else(zV,2))
  rw [Im ha hb];rfl
 ·show(xF a b).bind _=some (if a.Kind≤1∧b.Kind≤1 then(Tm a b,0)else(zV,2))
  rw [Kd ha hb];rfl

theorem XV(h:pk tag=some 1)(a b c:ac):Cd tag a b=Cd tag a c:=by
 have h4:tag=4∨tag=5∨tag=6∨tag=7:=by
  unfold pk at h
  repeat' split at h
  all_goals simp at h
  omega
 rcases h4 with rfl|rfl|rfl|rfl<;>rfl
theorem aan(h:pk tag=some 1)(a b c:ac):dz tag a b=dz tag a c:=by
 unfold dz
 rw [XV h a b c]
theorem FV(nx:List ac→ac→Option (ac×Int))(m:bo)(own:List ac)(x a b:ac){k:Nat}(h:pk m.Tag=some k)(hk:k≠0)(ha:Pl a)(hb:Pl b)(hl:own.length≤60000):rh nx m own x a b=if(dz m.Tag a b).2=0 then nx (own++[(dz m.Tag a b).1]) x else some (dz m.Tag a b):=by
 unfold rh
 rw [Gi h hk ha hb,bf]
 rcases vy h hk ha hb with⟨h1,_,h3⟩|⟨h1,h2⟩|⟨h1,h2,_⟩
 ·rw [h3]at h1 ⊢
  rw [aY h1,aL (by simp [h1]),aL (by simp [h1]),co (by simp;omega)];rfl
 ·rw [h1,h2];rfl
 ·rw [h1,h2];rfl
theorem PF(r:List ac)(x:ac)(t:Tr):t.wf→Tl t→yd r t→ ∀(rest:List bo) (own:List ac),own.length+t.size≤50000→
  ((ev r t).2≠0∧c0 r (t.flat own.length++rest) own x=some (ev r t))∨
  ((ev r t).2=0∧ ∃w:List ac,w.length+1=t.size∧c0 r (t.flat own.length++rest) own x=c0 r rest (own++w++[(ev r t).1]) x):=by
 induction t with
 |lf n=>
  intro⟨h1,h2,h3,h4⟩ hr hc rest own hl
  simp only [Tr.flat,Tr.size,vO,jY]at hl ⊢
  refine .inr ?_
  have e1:(gX n (-1) (-1)).Tag=n.Tag:=rfl
  have ev0:(ev r (.lf n))=if n.Tag=1 then(n.Value,0)else((r[n.Col.toNat]?).getD zV,0):=rfl
  rcases Zh h1 with ht|ht
  ·rw [ev0,aY ht]
   refine⟨rfl,[],rfl,?_⟩
   rw [c0]
   rw [e1,aY (by simp [ht]),co (by simp;omega)]
   simp only [bf,rn]
   rfl
  ·rw [ev0,aL (by simp [ht])]
   refine⟨rfl,[],rfl,?_⟩
   have hb:=Nq h2 ht
   obtain⟨_,v,hv,_⟩:=hc ht
   have e2:(gX n (-1) (-1)).Col=n.Col:=rfl
   rw [c0]
   rw [e1,aL (by simp [ht]),aY (by simp [ht]),e2,gO n.Col.toNat (by omega),hv]
   simp only [bf,rn,GB]
   rw [co (by simp;omega)]
   rfl
 |un n a ih=>
  intro⟨⟨h1,h2,h3,h4⟩,ha⟩ hr hc rest own hl
  have hap:=a.size_pos
  simp only [Tr.flat,Tr.size,jG]at hl ⊢
  obtain⟨m,hm⟩: ∃m,m=gX n (((own.length+a.size:Nat):Int)-1) (-1):=⟨_,rfl⟩
  rw [←hm]
  rw [OW]
  rcases ih ha hr hc ([m]++rest) own (by omega)with⟨hx,he⟩|⟨hx,w,hw,he⟩
  ·rw [jf hx]
   exact .inl ⟨hx,he⟩
  ·rw [he,nj hx]
   have hpl:Pl (ev r a).1:=by
    rcases nh r a ha hr hc with⟨_,h⟩|h|h
    ·exact h
    ·rw [h]at hx;cases hx
    ·rw [h]at hx;cases hx
   generalize (ev r a).1=v at hpl ⊢
   simp only [vO,jY]
   have e1:m.Tag=n.Tag:=by rw [hm];rfl
   have eL:m.L=((own.length+a.size:Nat):Int)-1:=by rw [hm];rfl
   have eR:m.R= -1:=by rw [hm];rfl
   have n1:n.Tag≠1:=fun h=>by rw [h]at h1;simp [pk]at h1
   have n2:n.Tag≠2:=fun h=>by rw [h]at h1;simp [pk]at h1
   have hstep:c0 r (m::rest) (own++w++[v]) x=if(dz n.Tag v v).2=0 then c0 r rest (own++w++[v]++[(dz n.Tag v v).1]) x else some (dz n.Tag v v):=by
    rw [c0]
    rw [e1,aL (by simpa using n1),aL (by simpa using n2)]
    rw [eL,eR,gO (own++w).length (by simp;omega),si (dy _),zL]
    simp only [F5,bf]
    rw [aL (by decide),show(⟨0,0,0,[]⟩:ac)=zV from rfl,FV _ m _ x v zV (by rw [e1];exact h1) (by decide) hpl .z (by simp;omega),e1,aan h1 v _ v]
   rw [hstep]
   by_cases hb:(dz n.Tag v v).2=0
   ·rw [aY hb]
    exact .inr ⟨hb,w++[v],by simp;omega,by simp⟩
   ·rw [aL hb]
    exact .inl ⟨hb,rfl⟩
 |bi n a b iha ihb=>
  intro⟨⟨h1,h2,h3,h4⟩,ha,hb⟩ ⟨hra,hrb⟩ ⟨hca,hcb⟩ rest own hl
  have hap:=a.size_pos
  have hbp:=b.size_pos
  simp only [Tr.flat,Tr.size,jG]at hl ⊢
  obtain⟨m,hm⟩: ∃m,m=gX n (((own.length+a.size:Nat):Int)-1) (((own.length+a.size+b.size:Nat):Int)-1):=⟨_,rfl⟩
  rw [←hm]
  rw [OX]
  rcases iha ha hra hca (b.flat (own.length+a.size)++([m]++rest)) own (by omega)with⟨hx,he⟩|⟨hx,w,hw,he⟩
  ·rw [jf hx]
   exact .inl ⟨hx,he⟩
  ·rw [he,nj hx]
   have hpl:Pl (ev r a).1:=by
    rcases nh r a ha hra hca with⟨_,h⟩|h|h
    ·exact h
    ·rw [h]at hx;cases hx
    ·rw [h]at hx;cases hx
   generalize (ev r a).1=v at hpl ⊢
   have hl2:(own++w++[v]).length=own.length+a.size:=by simp;omega
   rw [←hl2]
   rcases ihb hb hrb hcb ([m]++rest) (own++w++[v]) (by rw [hl2];omega)with⟨hy,he2⟩|⟨hy,w2,hw2,he2⟩
   ·rw [jf hy]
    exact .inl ⟨hy,he2⟩
   ·rw [he2,nj hy]
    have hpl2:Pl (ev r b).1:=by
     rcases nh r b hb hrb hcb with⟨_,h⟩|h|h
     ·exact h
     ·rw [h]at hy;cases hy
     ·rw [h]at hy;cases hy
    generalize (ev r b).1=u at hpl2 ⊢
    simp only [vO,jY]
    have e1:m.Tag=n.Tag:=by rw [hm];rfl
    have eL:m.L=((own.length+a.size:Nat):Int)-1:=by rw [hm];rfl
    have eR:m.R=((own.length+a.size+b.size:Nat):Int)-1:=by rw [hm];rfl
    have n1:n.Tag≠1:=fun h=>by rw [h]at h1;simp [pk]at h1
    have n2:n.Tag≠2:=fun h=>by rw [h]at h1;simp [pk]at h1
    have hstep:c0 r (m::rest) (own++w++[v]++w2++[u]) x=if(dz n.Tag v u).2=0 then c0 r rest (own++w++[v]++w2++[u]++[(dz n.Tag v u).1]) x else some (dz n.Tag v u):=by
     rw [c0]
     rw [e1,aL (by simpa using n1),aL (by simpa using n2)]
     rw [eL,eR,gO (own++w).length (by simp;omega)]
     have g1:(own++w++[v]++w2++[u])[(own++w).length]? =some v:=by
      rw [jG,jG,si (dy _),zL];rfl
     rw [g1]
     simp only [bf]
     rw [aY (by rw [kX];omega),gO (own++w++[v]++w2).length (by simp;omega)]
     have g2:(own++w++[v]++w2++[u])[(own++w++[v]++w2).length]? =some u:=by
      rw [si (dy _),zL];rfl
     rw [g2]
     simp only [bf]
     rw [FV _ m _ x v u (by rw [e1];exact h1) (by decide) hpl hpl2 (by simp;omega),e1]
    rw [hstep]
    by_cases hb:(dz n.Tag v u).2=0
    ·rw [aY hb]
     exact .inr ⟨hb,w++[v]++w2++[u],by simp;omega,by simp⟩
    ·rw [aL hb]
     exact .inl ⟨hb,rfl⟩
theorem zI(e:bG)(r:List ac)(x:ac): ∀ns:List bo,(∀n∈ns,n.Tag=2→0≤n.Col)→rf e r ns x=if tU r ns then c0 r e.Nodes [] x else some (zV,2)
 |[],_=>rfl
 |n::ns,hc=>by
  unfold rf
  rw [zI e r x ns fun m hm=>hc m (kN _ hm)]
  have hcons:tU r (n::ns)=((!(n.Tag==2)||zc r n.Col)&&tU r ns):=rfl
  rw [hcons]
  by_cases ht:n.Tag=2
  ·have h0:=hc n (kO ..) ht
   have e0:(n.Tag==2)=true:=by simp [ht]
   rw [e0,aY rfl]
   by_cases h:(r.length:Int)≤n.Col
   ·have hb:zc r n.Col=false:=by unfold zc;rw [Bool.and_eq_false_iff];left;simp;omega
    simp [h,hb,zV]
   ·have hlt:n.Col.toNat<r.length:=by omega
    have e1:cN r n.Col=some r[n.Col.toNat]:=by rw [gO n.Col.toNat (by omega),oO hlt]
    have hb:zc r n.Col=mM r[n.Col.toNat]:=by
     unfold zc
     rw [oO hlt]
     have:decide (n.Col<(r.length:Int))=true:=by simp;omega
     rw [this];rfl
    rw [aY (by simpa using h),e1,hb]
    simp only [bf,jp]
    cases mM r[n.Col.toNat]<;>simp [zV]
  ·have e0:(n.Tag==2)=false:=by simp [ht]
   rw [e0]
   simp
theorem Gj(e:bG)(r:List ac)(he:If e.Nodes)(hr:TT r):Aa e r=some (oS r e.Nodes):=by
 unfold Aa oS
 rw [xD e,bf]
 cases ht:mA e.Nodes with
 |none=>
  have:j5 e.Nodes=false:=by unfold j5;rw [ht];rfl
  rw [this,aY (by decide)];rfl
 |some t=>
  have:j5 e.Nodes=true:=by unfold j5;rw [ht];rfl
  rw [this,aL (by decide)]
  obtain⟨hw,hN,hs⟩:=j8 ht
  rw [zI e r _ e.Nodes (fun n hn h2=>(Eh hw 0 (by rw [←hN];exact hn) h2).1)]
  cases hc:tU r e.Nodes with
  |false=>rfl
  |true=>
   simp only [ep]
   have hct:=ww hr t hw 0 (by rw [←hN];exact hc)
   have hrt:=A6 t 0 (by rw [←hN];exact he)
   have h:=PF r zV t hw hrt hct [] [] (by simp;omega)
   rw [rn,pQ,←hN]at h
   rcases h with⟨_,h2⟩|⟨h1,w,h2,h3⟩
   ·exact h2
   ·have h4:c0 r e.Nodes [] zV=some (ev r t):=by
     rw [h3]
     unfold c0
     rw [jY,gO w.length (by rw [cq (by simp<;>omega) (by simp<;>omega)];simp),si (dy _),zL]
     show some ((ev r t).1,(0:Int))=_
     rw [←h1]
    exact h4

theorem BB(h:m<79228162514264337593543950336):jR m=[((m%4294967296:Nat):Int),((m/4294967296%4294967296:Nat):Int),((m/18446744073709551616:Nat):Int),0,0,0,0,0]:=by
 unfold jR
 rw [CO (show m/18446744073709551616<4294967296 by omega),Nat.div_eq_of_lt h]
 rfl
theorem SS(P Q c:Nat)(h:c≤1):(P+Q+c)/4294967296=P/4294967296+Q/4294967296+(P%4294967296+Q%4294967296+c)/4294967296∧(P+Q+c)%4294967296=(P%4294967296+Q%4294967296+c)%4294967296:=by omega
theorem Pc(P Q c:Nat)(h:Q+c≤P)(hc:c≤1):(P-Q-c)/4294967296=P/4294967296-Q/4294967296-(1-(P%4294967296+4294967296-Q%4294967296-c)/4294967296)∧(P-Q-c)%4294967296=(P%4294967296+4294967296-Q%4294967296-c)%4294967296∧Q/4294967296+(1-(P%4294967296+4294967296-Q%4294967296-c)/4294967296)≤P/4294967296∧1-(P%4294967296+4294967296-Q%4294967296-c)/4294967296≤1:=by omega
theorem acf(P Q c:Nat)(h:Q+c≤P)(hc:c≤1)(hP:P<2147483648):(P+4294967296-Q-c)%4294967296=P-Q-c:=by omega
variable{l:List cu}
theorem XW(hp:p<39614081257132168796771975168)(hq:q<39614081257132168796771975168)(s:Bool):ii ⟨jR p,s⟩ ⟨jR q,s⟩=some ⟨jR (p+q),s&&decide (p+q≠0)⟩:=by
 have dp:p/4294967296/4294967296=p/18446744073709551616:=by rw [CU]
 have dq:q/4294967296/4294967296=q/18446744073709551616:=by rw [CU]
 have ds:(p+q)/4294967296/4294967296=(p+q)/18446744073709551616:=by rw [CU]
 have hd:jR (p+q)=[(((p%4294967296+q%4294967296+0)%4294967296:Nat):Int),(((p/4294967296%4294967296+q/4294967296%4294967296+(p%4294967296+q%4294967296+0)/4294967296)%4294967296:Nat):Int),(((p/18446744073709551616+q/18446744073709551616+(p/4294967296%4294967296+q/4294967296%4294967296+(p%4294967296+q%4294967296+0)/4294967296)/4294967296)%4294967296:Nat):Int),0,0,0,0,0]:=by
  rw [BB (by omega)]
  have b1:p/18446744073709551616<2147483648:=by omega
  have b2:q/18446744073709551616<2147483648:=by omega
  obtain⟨e1,e0⟩:=SS p q 0 (by decide)
  rw [yZ]at e1 e0
  rw [←ds,e1,e0,←dp,←dq]
  rw [←dp]at b1
  rw [←dq]at b2
  obtain⟨e2,e3⟩:=SS (p/4294967296) (q/4294967296) ((p%4294967296+q%4294967296+0)/4294967296) (by clear ds dp dq e1 e0;omega)
  rw [e2,e3]
  have l:=Nat.div_le_div_right (c:=4294967296) (show p/4294967296%4294967296+q/4294967296%4294967296+(p%4294967296+q%4294967296+0)/4294967296≤8589934591 by omega)
  rw [show 8589934591/4294967296=1 from rfl]at l
  have ll:=Nat.add_le_add (Nat.add_le_add (Nat.le_of_lt_succ b1) (Nat.le_of_lt_succ b2)) l
  rw [CO (Nat.lt_of_le_of_lt ll (by decide))]
 have sd:=hd
 rw [BB (m:=p) (by omega),BB (m:=q) (by omega)]
 unfold ii
 generalize hp0:p%4294967296=p0 at sd ⊢
 generalize hp1:p/4294967296%4294967296=p1 at sd ⊢
 generalize hp2:p/18446744073709551616=p2 at sd ⊢
 generalize hq0:q%4294967296=q0 at sd ⊢
 generalize hq1:q/4294967296%4294967296=q1 at sd ⊢
 generalize hq2:q/18446744073709551616=q2 at sd ⊢
 have c1:(p0+q0+0)/4294967296≤1:=by omega
 generalize hc:(p0+q0+0)/4294967296=c at sd c1 ⊢
 have c2:(p1+q1+c)/4294967296≤1:=by omega
 generalize hcc:(p1+q1+c)/4294967296=cc at sd c2 ⊢
 have c3:(p2+q2+cc)/4294967296=0:=by omega
 rw [show((0:Int))=((0:Nat):Int)from rfl]
 rw [iA _ _ _ s s 7 0 (by omega) p0 q0 0 rfl rfl (by omega) (by omega) (by omega),hc]
 rw [iA _ _ _ s s 6 1 (by omega) p1 q1 c rfl rfl (by omega) (by omega) (by omega),hcc]
 rw [iA _ _ _ s s 5 2 (by omega) p2 q2 cc rfl rfl (by omega) (by omega) (by omega),c3]
 rw [iA _ _ _ s s 4 3 (by omega) 0 0 0 rfl rfl (by omega) (by omega) (by omega)]
 rw [show(0+0+0)/4294967296=0 from rfl]
 rw [iA _ _ _ s s 3 4 (by omega) 0 0 0 rfl rfl (by omega) (by omega) (by omega)]
 rw [show(0+0+0)/4294967296=0 from rfl]
 rw [iA _ _ _ s s 2 5 (by omega) 0 0 0 rfl rfl (by omega) (by omega) (by omega)]
 rw [show(0+0+0)/4294967296=0 from rfl]
 rw [iA _ _ _ s s 1 6 (by omega) 0 0 0 rfl rfl (by omega) (by omega) (by omega)]
 rw [show(0+0+0)/4294967296=0 from rfl]
 rw [iA _ _ _ s s 0 7 (by omega) 0 0 0 rfl rfl (by omega) (by omega) (by omega)]
 have he:=Ba ⟨[(p0:Int),(p1:Int),(p2:Int),0,0,0,0,0],s⟩ ⟨[(q0:Int),(q1:Int),(q2:Int),0,0,0,0,0],s⟩ (7+1) (((0+0+0)/4294967296:Nat):Int) (p+q) (by omega) s
 rw [sd]at he
 rw [sd]
 exact he
theorem Rg(hp:p<39614081257132168796771975168)(hq:q≤p)(s u:Bool)(hsu:(s==u)=false):ii ⟨jR p,s⟩ ⟨jR q,u⟩=some ⟨jR (p-q),s&&decide (p-q≠0)⟩:=by
 have dp:p/4294967296/4294967296=p/18446744073709551616:=by rw [CU]
 have dq:q/4294967296/4294967296=q/18446744073709551616:=by rw [CU]
 have ds:(p-q)/4294967296/4294967296=(p-q)/18446744073709551616:=by rw [CU]
 have hd:jR (p-q)=[(((p%4294967296+4294967296-q%4294967296-0)%4294967296:Nat):Int),(((p/4294967296%4294967296+4294967296-q/4294967296%4294967296-(1-(p%4294967296+4294967296-q%4294967296-0)/4294967296))%4294967296:Nat):Int),(((p/18446744073709551616+4294967296-q/18446744073709551616-(1-(p/4294967296%4294967296+4294967296-q/4294967296%4294967296-(1-(p%4294967296+4294967296-q%4294967296-0)/4294967296))/4294967296))%4294967296:Nat):Int),0,0,0,0,0]:=by
  rw [BB (by omega)]
  have b1:p/18446744073709551616<2147483648:=by omega
  obtain⟨e1,e0,le,l1⟩:=Pc p q 0 hq (by decide)
  rw [Nat.sub_zero]at e1 e0
  rw [←ds,e1,e0,←dp,←dq]
  rw [←dp]at b1
  obtain⟨e2,e3,le2,l2⟩:=Pc (p/4294967296) (q/4294967296) (1-(p%4294967296+4294967296-q%4294967296-0)/4294967296) le l1
  rw [e2,e3]
  rw [acf _ _ _ le2 l2 b1]
 have sd:=hd
 rw [BB (m:=p) (by omega),BB (m:=q) (by omega)]
 unfold ii
 have hge:(p/18446744073709551616+4294967296-q/18446744073709551616-(1-(p/4294967296%4294967296+4294967296-q/4294967296%4294967296-(1-(p%4294967296+4294967296-q%4294967296-0)/4294967296))/4294967296))/4294967296=1:=by omega
 generalize hp0:p%4294967296=p0 at sd hge ⊢
 generalize hp1:p/4294967296%4294967296=p1 at sd hge ⊢
 generalize hp2:p/18446744073709551616=p2 at sd hge ⊢
 generalize hq0:q%4294967296=q0 at sd hge ⊢
 generalize hq1:q/4294967296%4294967296=q1 at sd hge ⊢
 generalize hq2:q/18446744073709551616=q2 at sd hge ⊢
 have c1:1-(p0+4294967296-q0-0)/4294967296≤1:=by omega
 generalize hc:1-(p0+4294967296-q0-0)/4294967296=c at sd hge c1 ⊢
 have c2:1-(p1+4294967296-q1-c)/4294967296≤1:=by omega
 generalize hcc:1-(p1+4294967296-q1-c)/4294967296=cc at sd hge c2 ⊢
 rw [show((0:Int))=((0:Nat):Int)from rfl]
 rw [iB _ _ _ s u s hsu 7 0 (by omega) p0 q0 0 rfl rfl (by omega) (by omega) (by omega),hc]
 rw [iB _ _ _ s u s hsu 6 1 (by omega) p1 q1 c rfl rfl (by omega) (by omega) (by omega),hcc]
 rw [iB _ _ _ s u s hsu 5 2 (by omega) p2 q2 cc rfl rfl (by omega) (by omega) (by omega),hge]
 rw [show 1-1=0 from rfl]
 rw [iB _ _ _ s u s hsu 4 3 (by omega) 0 0 0 rfl rfl (by omega) (by omega) (by omega)]
 rw [show 1-(0+4294967296-0-0)/4294967296=0 from rfl]
 rw [iB _ _ _ s u s hsu 3 4 (by omega) 0 0 0 rfl rfl (by omega) (by omega) (by omega)]
 rw [show 1-(0+4294967296-0-0)/4294967296=0 from rfl]
 rw [iB _ _ _ s u s hsu 2 5 (by omega) 0 0 0 rfl rfl (by omega) (by omega) (by omega)]
 rw [show 1-(0+4294967296-0-0)/4294967296=0 from rfl]
 rw [iB _ _ _ s u s hsu 1 6 (by omega) 0 0 0 rfl rfl (by omega) (by omega) (by omega)]
 rw [show 1-(0+4294967296-0-0)/4294967296=0 from rfl]
 rw [iB _ _ _ s u s hsu 0 7 (by omega) 0 0 0 rfl rfl (by omega) (by omega) (by omega)]
 have he:=Ba ⟨[(p0:Int),(p1:Int),(p2:Int),0,0,0,0,0],s⟩ ⟨[(q0:Int),(q1:Int),(q2:Int),0,0,0,0,0],u⟩ (7+1) ((1-(0+4294967296-0-0)/4294967296:Nat):Int) (p-q) (by omega) s
 rw [sd]at he
 rw [sd]
 exact he
theorem ZR(hp:p<39614081257132168796771975168)(hq:q<39614081257132168796771975168)(s t:Bool):tt ⟨jR p,s⟩ ⟨jR q,t⟩=some (decide (p<q)):=by
 rw [BB (m:=p) (by omega),BB (m:=q) (by omega)]
 unfold tt
 obtain⟨f,hf⟩: ∃f,iz=f+9:=⟨iz-9,by have:=mO (n:=9) (by omega);omega⟩
 rw [hf]
 rw [show(7:Int)=((7:Nat):Int)from rfl,iC _ _ s t (f+8) 7 (by omega) 0 0 rfl rfl,aY rfl]
 rw [show((7:Nat):Int)-1=((6:Nat):Int)from rfl,iC _ _ s t (f+7) 6 (by omega) 0 0 rfl rfl,aY rfl]
 rw [show((6:Nat):Int)-1=((5:Nat):Int)from rfl,iC _ _ s t (f+6) 5 (by omega) 0 0 rfl rfl,aY rfl]
 rw [show((5:Nat):Int)-1=((4:Nat):Int)from rfl,iC _ _ s t (f+5) 4 (by omega) 0 0 rfl rfl,aY rfl]
 rw [show((4:Nat):Int)-1=((3:Nat):Int)from rfl,iC _ _ s t (f+4) 3 (by omega) 0 0 rfl rfl,aY rfl]
 rw [show((3:Nat):Int)-1=((2:Nat):Int)from rfl,iC _ _ s t (f+3) 2 (by omega) _ _ rfl rfl]
 by_cases h2:((p/18446744073709551616:Nat):Int)=((q/18446744073709551616:Nat):Int)
 ·rw [aY h2,show((2:Nat):Int)-1=((1:Nat):Int)from rfl,iC _ _ s t (f+2) 1 (by omega) _ _ rfl rfl]
  by_cases h1:((p/4294967296%4294967296:Nat):Int)=((q/4294967296%4294967296:Nat):Int)
  ·rw [aY h1,show((1:Nat):Int)-1=((0:Nat):Int)from rfl,iC _ _ s t (f+1) 0 (by omega) _ _ rfl rfl]
   by_cases h0:((p%4294967296:Nat):Int)=((q%4294967296:Nat):Int)
   ·rw [aY h0]
    unfold lz
    rw [aL (by decide)]
    congr 1
    symm
    rw [F4];omega
   ·rw [aL h0]
    congr 1
    apply jS
    simp only [kX];omega
  ·rw [aL h1]
   congr 1
   apply jS
   simp only [kX];omega
 ·rw [aL h2]
  congr 1
  apply jS
  simp only [kX];omega
theorem S8(hx:x.natAbs<39614081257132168796771975168)(hy:y.natAbs<39614081257132168796771975168):mK (lE x) (lE y)=some (lE (x+y)):=by
 unfold mK lE
 rw [ZR hx hy]
 simp only [bf]
 by_cases h:(decide (x<0)==decide (y<0))=true
 ·have hs:decide (y<0)=decide (x<0):=(eq_of_beq h).symm
  have hne:(decide (x<0) !=decide (y<0))=false:=by rw [hs];simp
  rw [hne]
  simp only [fL,d7,bf]
  rw [hs,XW hx hy]
  congr 2
  ·congr 1
   have:(decide (x<0)=true↔decide (y<0)=true):=by rw [hs]
   simp only [kX]at this
   omega
  ·apply jS
   have:(decide (x<0)=true↔decide (y<0)=true):=by rw [hs]
   simp only [kX]at this
   simp only [mi,kX]
   omega
 ·have hb:(decide (x<0)==decide (y<0))=false:=by simpa using h
  have hne:(decide (x<0) !=decide (y<0))=true:=by simp only [bne,hb];rfl
  rw [hne]
  simp only [ep,bf]
  have hxy: ¬(x<0↔y<0):=by
   intro hi
   have:decide (x<0)=decide (y<0):=by simp only [CL];exact hi
   rw [this]at hb;simp at hb
  by_cases hlt:x.natAbs<y.natAbs
  ·rw [aY (by simpa using hlt)]
   have hb' :(decide (y<0)==decide (x<0))=false:=by
    cases q1:decide (x<0)<;>cases q2:decide (y<0)<;>simp_all
   rw [Rg hy (by omega) _ _ hb']
   congr 2
   ·congr 1;omega
   ·apply jS
    simp only [mi,kX]
    omega
  ·rw [aL (by simpa using hlt)]
   rw [Rg hx (by omega) _ _ hb]
   congr 2
   ·congr 1;omega
   ·apply jS
    simp only [mi,kX]
    omega
def pr(z:Int):ac:=⟨4,z/18446744073709551616,z%18446744073709551616,[]⟩
def Be(z:Int):Prop:=z.natAbs<1208925819614629174706176
theorem HA(m:Nat)(h:m<79228162514264337593543950336)(b:Bool):nZ ((m/18446744073709551616:Nat):Int) ((m%18446744073709551616:Nat):Int) ⟨List.replicate 8 0,b⟩=some ⟨jR m,b⟩:=by
 rw [BB h]
 unfold nZ
 rw [Ej,wJ,Ej,wJ]
 have e1:m%18446744073709551616%4294967296=m%4294967296:=by omega
 have e2:m%18446744073709551616/4294967296=m/4294967296%4294967296:=by omega
 have e3:m/18446744073709551616%4294967296=m/18446744073709551616:=by omega
 have e4:m/18446744073709551616/4294967296=0:=by omega
 rw [e1,e2,e3,e4]
 rfl
theorem S9(h:Be z):rz (pr z).N (pr z).U=some (lE z):=by
 unfold Be at h
 unfold rz pr lE
 simp only []
 by_cases hz:z<0
 ·rw [aY (by rw [kX];omega),y5 hz]
  obtain⟨u,hu⟩:=D5 (show 0≤z%18446744073709551616 by omega)
  have hul:u<18446744073709551616:=by omega
  have hn:IntKind.u64.wrap (z/18446744073709551616)=((18446744073709551616-(-(z/18446744073709551616)).toNat:Nat):Int):=by rw [ue];omega
  rw [hu,yc hul,hn,yc (by omega)]
  have elow:IntKind.u64.wrap (((18446744073709551615-u:Nat):Int)+1)=((z.natAbs%18446744073709551616:Nat):Int):=by rw [ue];omega
  rw [elow]
  have:=HA z.natAbs (by omega) true
  by_cases hl:z.natAbs%18446744073709551616=0
  ·rw [aY (by rw [hl];rfl)]
   have ehigh:IntKind.u64.wrap (((18446744073709551615-(18446744073709551616-(-(z/18446744073709551616)).toNat):Nat):Int)+1)=((z.natAbs/18446744073709551616:Nat):Int):=by rw [ue];omega
   rw [ehigh]
   exact this
  ·rw [aL (by rw [sY];omega)]
   have ehigh:((18446744073709551615-(18446744073709551616-(-(z/18446744073709551616)).toNat):Nat):Int)=((z.natAbs/18446744073709551616:Nat):Int):=by omega
   rw [ehigh]
   exact this
 ·rw [aL (by rw [kX];omega),xc hz]
  have e1:z%18446744073709551616=((z.natAbs%18446744073709551616:Nat):Int):=by omega
  have e2:IntKind.u64.wrap (z/18446744073709551616)=((z.natAbs/18446744073709551616:Nat):Int):=by rw [ue];omega
  rw [e1,e2]
  exact HA z.natAbs (by omega) false
theorem NW(h:Be z):yz (lE z)=some (pr z,0):=by
 unfold Be at h
 unfold yz we lE pr
 generalize hm:z.natAbs=m at h ⊢
 have i3:cN (jR m) 3=some ((m/79228162514264337593543950336%4294967296:Nat):Int):=rfl
 have i2:cN (jR m) 2=some ((m/18446744073709551616%4294967296:Nat):Int):=rfl
 have i1:cN (jR m) 1=some ((m/4294967296%4294967296:Nat):Int):=rfl
 have i0:cN (jR m) 0=some ((m%4294967296:Nat):Int):=rfl
 simp only [i3,i2,i1,i0,bf]
 rw [FS]
 unfold ff
 rw [yp _ _ (uZ _ (by decide)) (uZ _ (by decide)),yp _ _ (uZ _ (by decide)) (uZ _ (by decide))]
 have hhi:m/79228162514264337593543950336%4294967296*4294967296+m/18446744073709551616%4294967296=m/18446744073709551616:=by omega
 have hlo:m/4294967296%4294967296*4294967296+m%4294967296=m%18446744073709551616:=by
  have:=Nat.mod_mul (x:=m) (a:=4294967296) (b:=4294967296)
  rw [show 4294967296*4294967296=18446744073709551616 from rfl]at this
  rw [this,Nat.mul_comm,Nat.add_comm]
 rw [hhi,hlo]
 have bhi:m/18446744073709551616<18446744073709551616:=by omega
 have blo:m%18446744073709551616<18446744073709551616:=uZ _ (by decide)
 by_cases hz:z<0
 ·rw [aY (by simpa using hz),yc blo,yc bhi]
  have ew:IntKind.u64.wrap (((18446744073709551615-m%18446744073709551616:Nat):Int)+1)=z%18446744073709551616:=by rw [ue];omega
  rw [ew]
  unfold lA
  simp only [hz,AH]
  by_cases hl0:z%18446744073709551616=0
  ·rw [aY (by rw [hl0];rfl)]
   have eh:IntKind.i64.wrap (IntKind.u64.wrap (((18446744073709551615-m/18446744073709551616:Nat):Int)+1))=z/18446744073709551616:=by rw [vN,ue];omega
   rw [eh,y5 (show z/18446744073709551616<0 by omega)]
   rfl
  ·rw [aL (by simpa using hl0)]
   have eh:IntKind.i64.wrap ((18446744073709551615-m/18446744073709551616:Nat):Int)=z/18446744073709551616:=by rw [vN];omega
   rw [eh,y5 (show z/18446744073709551616<0 by omega)]
   rfl
 ·rw [aL (by simpa using hz)]
  unfold lA
  simp only [hz,decide_false]
  have eh:IntKind.i64.wrap ((m/18446744073709551616:Nat):Int)=z/18446744073709551616:=by rw [vN];omega
  have el:((m%18446744073709551616:Nat):Int)=z%18446744073709551616:=by omega
  rw [eh,el,xc (show¬z/18446744073709551616<0 by omega)]
  rfl
theorem yy(z:Int):fH (pr z)=true:=by unfold fH dF pr;rfl
theorem Gh(h:fH v=true)(hk:v.Kind=2)(hr:r64 v.N):sM zV v=some (pr v.N,0):=by
 unfold sM ru pu
 have hz:fH zV=true:=rfl
 simp only [fP,h,hz,bf,mw,BW,ep,fL,d7,uM]
 have e1:(zV.Kind==0)=true:=rfl
 have e2:(v.Kind==0)=false:=by rw [hk];rfl
 have e3:(v.Kind==2)=true:=by rw [hk];rfl
 simp only [e1,e2,e3,Bool.true_or,Bool.or_true,mw,fL,d7,ep]
 have hs:Be v.N:=by unfold r64 at hr;unfold Be;omega
 rw [jl hr,bf,NW hs]
 rfl
theorem Ii(h:fH v=true)(hk:v.Kind=2)(hr:r64 v.N)(hz:Be z)(hz2:Be (z+v.N)):sM (pr z) v=some (pr (z+v.N),0):=by
 unfold sM ru pu
 simp only [fP,h,yy,bf,mw,BW,ep,fL,d7,uM]
 have e1:((pr z).Kind==0)=false:=rfl
 have e4:((pr z).Kind==4)=true:=rfl
 have e2:(v.Kind==0)=false:=by rw [hk];rfl
 have e3:(v.Kind==2)=true:=by rw [hk];rfl
 simp only [e1,e2,e3,e4,Bool.or_true,mw,fL,d7,ep]
 have hx:z.natAbs<39614081257132168796771975168:=by unfold Be at hz;omega
 have hy:v.N.natAbs<39614081257132168796771975168:=by unfold r64 at hr;omega
 rw [jl hr,S9 hz,bf,bf,S8 hx hy,bf,NW hz2]
 rfl
theorem J0(h:Be z):vj (pr z)=some (if r64 z then(iV z,0)else(zV,140)):=by
 unfold vj ru
 simp only [fP,yy,bf,mw,fL,d7,uM]
 have e1:((pr z).Kind==0)=false:=rfl
 have e4:((pr z).Kind==4)=true:=rfl
 simp only [e1,e4,Bool.or_true,mw,fL,d7]
 obtain⟨n,h1,h2⟩:=Lv (z:=z) (by unfold Be at h;omega)
 rw [S9 h,bf,h1,bf]
 by_cases hr:r64 z
 ·rw [aY hr,y5 hr,aL (by simp),h2 hr]
  rfl
 ·rw [aL hr,xc hr]
  rfl
theorem Ij:vj zV=some (zV,0):=rfl
theorem FH{kind:Int}(h:fH v=true)(hk:v.Kind=0∨v.Kind=kind):pO kind [v]=some 0:=by
 unfold pO j7 j7
 rw [nT,h]
 simp only [ep,bf]
 rw [aL (by decide),aL]
 simp
 omega
theorem HU(hr:r64 v.N):q7 v=some (pr v.N):=by
 unfold r64 at hr
 unfold q7 pr
 have e:(2:Int)^(min (Int.toNat (63:Int)) IntKind.i64.bits)=9223372036854775808:=by decide
 rw [e,ue]
 congr 2
 rw [Int.fdiv_eq_ediv_of_nonneg _ (by decide)]
 omega
theorem Rf(hx:Be x)(hy:Be y)(hs:Be (x+y)):wy (pr x) (pr y)=some (pr (x+y),0):=by
 unfold Be at hx hy hs
 unfold wy pr Lt
 simp only []
 rw [aY (by omega),bf]
 simp only []
 rw [aY (by rw [ue,ue];omega),bf]
 simp only []
 have eh:IntKind.i64.wrap ((IntKind.u64.wrap (x/18446744073709551616)+IntKind.u64.wrap (y/18446744073709551616)+(x%18446744073709551616+y%18446744073709551616+0)/18446744073709551616)%18446744073709551616)=(x+y)/18446744073709551616:=by
  rw [vN,ue,ue]
  omega
 rw [eh]
 have rx:r64 (x/18446744073709551616):=by unfold r64;omega
 have ry:r64 (y/18446744073709551616):=by unfold r64;omega
 have rs:r64 ((x+y)/18446744073709551616):=by unfold r64;omega
 obtain⟨a1,a2⟩:=yk rx rs
 obtain⟨b1,b2⟩:=yk ry rs
 rw [Je a2 b2,a1,b1]
 have hno:((decide (x/18446744073709551616<0) !=decide ((x+y)/18446744073709551616<0))&&(decide (y/18446744073709551616<0) !=decide ((x+y)/18446744073709551616<0)))=false:=by
  rw [rR]
  intro h
  simp only [mi,qD,oU,CL]at h
  omega
 have el:(x%18446744073709551616+y%18446744073709551616+0)%18446744073709551616=(x+y)%18446744073709551616:=by omega
 rw [hno,aL (by simp),el]
theorem Qt(h:fH v=true)(hk:v.Kind=2)(hr:r64 v.N):sU zV v=some (pr v.N,0):=by
 unfold sU
 rw [FH (v:=zV) rfl (.inl rfl),FH h (.inr hk),bf,bf,aL (by decide),aL (by decide),aL (by rw [hk];decide),aY (by rfl),HU hr]
 rfl
theorem S6(h:fH v=true)(hk:v.Kind=2)(hr:r64 v.N)(hz:Be z)(hz2:Be (z+v.N)):sU (pr z) v=some (pr (z+v.N),0):=by
 unfold sU
 have hs:Be v.N:=by unfold r64 at hr;unfold Be;omega
 rw [FH (kind:=4) (yy z) (.inr rfl),FH h (.inr hk),bf,bf,aL (by decide),aL (by decide),aL (by rw [hk];decide),aL (by show¬((4:Int)==0)=true;decide),HU hr,bf,Rf hz hs hz2]
 rfl
theorem Wn(h:Be z):yS (pr z)=some (if r64 z then(iV z,0)else(zV,140)):=by
 unfold Be at h
 unfold yS
 rw [FH (kind:=4) (yy z) (.inr rfl),bf,aL (by decide),aL (by show¬((4:Int)==0)=true;decide)]
 have e:oC (IntKind.i64.wrap (pr z).U)=some (iV (IntKind.i64.wrap (z%18446744073709551616))):=rfl
 have hw:r64 (IntKind.i64.wrap (z%18446744073709551616)):=oZ _
 rw [e,bf,HU (v:=iV (IntKind.i64.wrap (z%18446744073709551616))) hw,bf]
 by_cases hr:r64 z
 ·have:IntKind.i64.wrap (z%18446744073709551616)=z:=by unfold r64 at hr;rw [vN];omega
  rw [aY hr,this,aY (by simp [iV])]
 ·rw [aL hr,aL]
  ·rfl
  ·intro hh
   have hh:=Js hh
   unfold pr iV at hh
   simp only [ac.mk.injEq,true_and,and_true]at hh
   refine hr ?_
   have h1:=hh.1
   unfold r64 at hw ⊢
   generalize IntKind.i64.wrap (z%18446744073709551616)=w at hh hw h1
   omega

theorem zK{a b:cu}(ha:kD a=true)(hb:kD b=true):pJ a b=some (eG a b):=by rw [EJ,ha,hb];rfl

theorem yN{r:List ac}{ns:List bo}(he:If ns)(hr:TT r):((oS r ns).2=0∧Pl (oS r ns).1)∨((oS r ns).2≠0∧(oS r ns).2≠140∧(oS r ns).1=zV)∨oS r ns=(zV,140):=by
 unfold oS
 cases ht:mA ns with
 |none=>right;left;exact⟨show(200:Int)≠0 by decide,show(200:Int)≠140 by decide,rfl⟩
 |some t=>
  obtain⟨hw,hN,hs⟩:=j8 ht
  simp only []
  by_cases hc:tU r ns=true
  ·rw [aY hc]
   have hrt:Tl t:=A6 t 0 (by rw [←hN];exact he)
   have hcv:yd r t:=ww hr t hw 0 (by rw [←hN];exact hc)
   rcases nh r t hw hrt hcv with h|h|h
   ·exact .inl h
   ·rw [h];right;left;decide
   ·exact .inr (.inr h)
  ·rw [aL hc];right;left;decide
def Bx(ns:List bo)(rows:List cu):List ac:=rows.filterMap fun r=>if(oS r ns).2=0∧(oS r ns).1.Kind≠0 then some (oS r ns).1 else none
def Dw(ns:List bo)(rows:List cu):Bool:=rows.any fun r=>(oS r ns).2 !=0&&(oS r ns).2 !=140
def Du(ns:List bo)(rows:List cu):Bool:=rows.any fun r=>(oS r ns).2==140
def rY(tag:Int)(vs:List ac):Bool:=tag==3&&vs.any fun v=>v.Kind !=2
def EK(rows:List cu):Prop:= ∀r∈rows,TT r
theorem Fv(ns:List bo)(r:cu)(t:List cu):Bx ns (r::t)=if(oS r ns).2=0∧(oS r ns).1.Kind≠0 then(oS r ns).1::Bx ns t else Bx ns t:=by
 unfold Bx
 rw [List.filterMap_cons]
 split
 ·split
  ·rename_i h;rw [aY (by simpa using h)]at*;simp_all
  ·rfl
 ·rename_i h;split
  ·rename_i h2;rw [aY h2]at h;simp at h;rw [h]
  ·rename_i h2;rw [aL h2]at h;simp at h
variable{rows:List cu}
theorem I8{ns:List bo}(he:If ns): ∀{rows:List cu},EK rows→ ∀v∈Bx ns rows,Pl v
 |[],_,v,hv=>by simp [Bx]at hv
 |r::t,hr,v,hv=>by
  rw [Fv]at hv
  have ht:EK t:=fun x hx=>hr x (kN _ hx)
  split at hv
  ·rename_i h
   rcases fk.1 hv with hv|hv
   ·subst hv
    rcases yN he (hr r (kO ..))with q|q|q
    ·exact q.2
    ·exact absurd h.1 q.1
    ·rw [q]at h;exact absurd h.1 (by decide)
   ·exact I8 he ht v hv
  ·exact I8 he ht v hv
theorem OV(ns:List bo)(rows:List cu):(Bx ns rows).length≤rows.length:=List.length_filterMap_le ..
theorem DU(a:gS)(hl:a.Arg.Nodes.length≤50000)(he:If a.Arg.Nodes): ∀(rows:List cu) (out:List ac) (fault:Int),EK rows→out.length+rows.length≤1000000→jx a rows out fault=some (if Dw a.Arg.Nodes rows then([],2)else(out++Bx a.Arg.Nodes rows,if Du a.Arg.Nodes rows then 140 else fault))
 |[],out,fault,_,_=>by
  unfold jx Dw Du Bx
  simp
 |r::t,out,fault,hr,hk=>by
  have ht:EK t:=fun x hx=>hr x (kN _ hx)
  rw [iN]at hk
  unfold jx
  rw [wr a.Arg r hl he (hr r (kO ..)),bf,Fv]
  have eb:Dw a.Arg.Nodes (r::t)=(((oS r a.Arg.Nodes).2 !=0&&(oS r a.Arg.Nodes).2 !=140)||Dw a.Arg.Nodes t):=rfl
  have ef:Du a.Arg.Nodes (r::t)=(((oS r a.Arg.Nodes).2==140)||Du a.Arg.Nodes t):=rfl
  rw [eb,ef]
  rcases yN he (hr r (kO ..))with q|q|q
  ·rw [q.1]
   simp only [Int.reduceBEq,fL,d7,Int.reduceBNe,D0,se,true_and]
   by_cases hk0:(oS r a.Arg.Nodes).1.Kind=0
   ·rw [aL (by simp [hk0]),DU a hl he t out fault ht (by omega)]
    simp only [hk0,oU,GD,d7]
   ·rw [aY (by simpa using hk0),aY hk0,co (by simp only [zO];omega),bf,DU a hl he t _ fault ht (by simp only [iI,zO];omega)]
    simp only [jG,GJ]
  ·rw [aL (by simpa using q.2.1),aY (by simpa using q.1)]
   have:((oS r a.Arg.Nodes).2 !=0&&(oS r a.Arg.Nodes).2 !=140)=true:=by simp [q.1,q.2.1]
   rw [this];simp
  ·rw [q]
   simp only [GC,ep,DU a hl he t out 140 ht (by omega),Int.reduceBNe,Bool.and_false,se,Bool.true_or]
   rw [aL (by decide: ¬((140:Int)=0∧_))]
   simp
def qI:List ac→Int
 |[]=>0
 |v::t=>v.N+qI t
def pick(tag:Int)(b v:ac):ac:=if tag=4∧val v b<0∨tag=5∧0<val v b then v else b
def vA(tag:Int):List ac→ac
 |[]=>zV
 |v::t=>t.foldl (pick tag) v
def Q0(vs:List ac):ac×Int:=if vs=[]then(zV,0)else if r64 (qI vs)then(iV (qI vs),0)else(zV,140)
def R0(tag:Int)(vs:List ac)(fault:Int):ac×Int:=
 if fault≠0 then(zV,fault)else if tag=2 then(iV (vs.length:Int),0)else if tag=3 then Q0 vs else(vA tag vs,0)
def wA(a:gS)(rows:List cu):ac×Int:=
 if a.Tag=1 then(iV (rows.length:Int),0)else if Dw a.Arg.Nodes rows||rY a.Tag (Bx a.Arg.Nodes rows)then(zV,2)else R0 a.Tag (Bx a.Arg.Nodes rows) (if Du a.Arg.Nodes rows then 140 else 0)
theorem JK(p q:List ac):qI (p++q)=qI p+qI q:=by
 induction p with
 |nil=>simp [qI]
 |cons v t ih=>simp only [vO,qI,ih];omega
theorem NX: ∀(p:List ac),(∀v∈p,r64 v.N)→(qI p).natAbs≤p.length*9223372036854775808
 |[],_=>by simp [qI]
 |v::t,h=>by
  have h1:=NX t fun x hx=>h x (kN _ hx)
  have h2:=h v (kO ..)
  unfold r64 at h2
  simp only [qI,iN]
  omega
theorem H6{p:List ac}(h: ∀v∈p,r64 v.N)(hl:p.length≤100000):Be (qI p):=by
 have:=NX p h
 unfold Be
 omega
theorem SU(tag:Int)(p:List ac)(v:ac):vA tag (p++[v])=if p=[]then v else pick tag (vA tag p) v:=by
 cases p with
 |nil=>rfl
 |cons x t=>simp [vA]
theorem ST(tag:Int): ∀(p:List ac),p≠[]→vA tag p∈p
 |[],h=>absurd rfl h
 |v::t,_=>by
  unfold vA
  have: ∀(t:List ac) (b:ac),t.foldl (pick tag) b∈b::t:=by
   intro t
   induction t with
   |nil=>intro b;simp
   |cons x t ih=>
    intro b
    simp only [List.foldl_cons]
    have:=ih (pick tag b x)
    have hp:pick tag b x=b∨pick tag b x=x:=by unfold pick;split<;>simp
    rcases hp with hp|hp<;>rw [hp]at this ⊢
    ·rcases fk.1 this with h|h
     ·rw [h];simp
     ·exact kN _ (kN _ h)
    ·exact kN _ this
  exact this t v
theorem Fi(l:List ac)(h: ¬rY 3 l=true): ∀v∈l,v.Kind=2:=by
 intro v hv
 unfold rY at h
 simp only [GC,uM,xd,CQ]at h
 simpa using h v hv
theorem CH{f:ac→Option Bool}{g:ac→Bool}(hf: ∀v,f v=some (g v))(l:List ac):dV l f=some (l.any g):=by
 have key: ∀(l:List ac) (i:Nat),∃j:Int,cV f l i=some j∧decide (0≤j)=l.any g:=by
  intro l
  induction l with
  |nil=>intro i;exact⟨-1,rfl,rfl⟩
  |cons v t ih=>
   intro i
   unfold cV
   rw [hf,bf,zg]
   by_cases hg:g v=true
   ·rw [aY hg,hg]
    exact⟨(i:Int),rfl,by simp⟩
   ·rw [aL hg,rR.2 hg,se]
    exact ih (i+1)
 obtain⟨j,h1,h2⟩:=key l 0
 unfold dV gr
 rw [h1]
 simp only [bf]
 rw [←h2]
theorem qZ{x y:ac}(hx:fH x=true)(hy:fH y=true):ik x y=some (val x y):=by
 unfold ik
 have h1:kD [x]=true:=by unfold kD;simp [hx]
 have h2:kD [y]=true:=by unfold kD;simp [hy]
 rw [zK h1 h2,bf]
 have:=ZL 0 0 0 0
 unfold eG
 simp only [eG]
 split<;>simp_all
theorem MM: ∀(l:List ac) (m:ac),(∀v∈l,fH v=true)→fH m=true→cF ik l m=some (l.foldl (pick 4) m)
 |[],m,_,_=>rfl
 |v::t,m,h,hm=>by
  have hv:=h v (kO ..)
  have ht:=fun x hx=>h x (kN v hx)
  unfold cF
  rw [qZ hv hm,bf,List.foldl_cons]
  by_cases hc:val v m<0
  ·rw [aY (by simpa using hc),MM t v ht hv]
   simp [pick,hc]
  ·rw [aL (by simpa using hc),MM t m ht hm]
   simp [pick,hc]
theorem MN: ∀(l:List ac) (m:ac),(∀v∈l,fH v=true)→fH m=true→cG ik l m=some (l.foldl (pick 5) m)
 |[],m,_,_=>rfl
 |v::t,m,h,hm=>by
  have hv:=h v (kO ..)
  have ht:=fun x hx=>h x (kN v hx)
  unfold cG
  rw [qZ hv hm,bf,List.foldl_cons]
  by_cases hc:0<val v m
  ·rw [aY (by simpa using hc),MN t v ht hv]
   simp [pick,hc]
  ·rw [aL (by simpa using hc),MN t m ht hm]
   simp [pick,hc]
theorem Z0(v:α)(t:List α):cN (v::t) (0:Int)=some v:=rfl
theorem X9{l:List ac}(h: ∀v∈l,fH v=true)(hne:l≠[]):eN l ik=some (vA 4 l):=by
 cases l with
 |nil=>exact absurd rfl hne
 |cons v t=>
  unfold eN ga
  rw [aL (by rw [iN,kX];omega),Z0,bf]
  exact MM t v (fun x hx=>h x (kN v hx)) (h v (kO ..))
theorem Ya{l:List ac}(h: ∀v∈l,fH v=true)(hne:l≠[]):eO l ik=some (vA 5 l):=by
 cases l with
 |nil=>exact absurd rfl hne
 |cons v t=>
  unfold eO gb
  rw [aL (by rw [iN,kX];omega),Z0,bf]
  exact MN t v (fun x hx=>h x (kN v hx)) (h v (kO ..))
theorem SZ(x:ac): ∀(l:List ac) (z:Int) (n:Nat),(∀v∈l,Pl v∧v.Kind=2)→z.natAbs≤n*9223372036854775808→n+l.length≤100000→m6 l x (pr z)=some (if r64 (z+qI l)then(iV (z+qI l),0)else(zV,140))
 |[],z,n,_,hz,hn=>by
  have hz2:Be z:=by unfold Be;omega
  unfold m6
  rw [Wn hz2,bf]
  simp only [qI,Int.add_zero]
 |v::t,z,n,h,hz,hn=>by
  rw [iN]at hn
  obtain⟨hv,hk⟩:=h v (kO ..)
  have hr:=hv.r64
  have hb:(z+v.N).natAbs≤(n+1)*9223372036854775808:=by unfold r64 at hr;omega
  unfold m6
  rw [S6 hv.right hk hr (z:=z) (by unfold Be;omega) (by unfold Be;omega),bf,aL (by show¬((0:Int) !=0)=true;decide)]
  have e:z+qI (v::t)=z+v.N+qI t:=by simp only [qI];omega
  rw [SZ x t (z+v.N) (n+1) (fun y hy=>h y (kN _ hy)) hb (by omega),e]
theorem Jd{l:List ac}(h: ∀v∈l,Pl v∧v.Kind=2)(hl:l.length≤90000):yT l=some (Q0 l):=by
 unfold yT
 rw [aL (by simp;omega)]
 have:pm=some zV:=rfl
 rw [this,bf]
 cases l with
 |nil=>rfl
 |cons v t=>
  obtain⟨hv,hk⟩:=h v (kO ..)
  have hr:=hv.r64
  rw [iN]at hl
  unfold m6
  rw [Qt hv.right hk hr,bf,aL (by show¬((0:Int) !=0)=true;decide)]
  rw [SZ _ t v.N 1 (fun y hy=>h y (kN _ hy)) (by unfold r64 at hr;omega) (by omega)]
  rfl
theorem zb(a:gS)(hl:a.Arg.Nodes.length≤50000)(he:If a.Arg.Nodes)(ht:a.Tag=1∨a.Tag=2∨a.Tag=3∨a.Tag=4∨a.Tag=5)(hr:EK rows)(hn:rows.length≤90000):mh a rows=some (wA a rows):=by
 unfold mh wA
 by_cases h1:a.Tag=1
 ·rw [aY (by simpa using h1),aY h1];rfl
 ·rw [aL (by simpa using h1),aL h1]
  have e:ya a rows=_:=DU a hl he rows [] 0 hr (by simp only [pQ];omega)
  rw [e,bf]
  by_cases hb:Dw a.Arg.Nodes rows=true
  ·rw [hb];rfl
  ·rw [rR.2 hb]
   simp only [fL,d7,se,jY]
   rw [aL (by split<;>decide),CH (f:=mX) (g:=fun v=>v.Kind !=2) (fun v=>rfl)]
   have eo:(if(a.Tag==(3:Int))then((some ((Bx a.Arg.Nodes rows).any fun v=>v.Kind !=2)).bind fun r2=>some r2)else some false)=some (rY a.Tag (Bx a.Arg.Nodes rows)):=by
    unfold rY
    cases (a.Tag==(3:Int))<;>rfl
   rw [eo,bf]
   by_cases ho:rY a.Tag (Bx a.Arg.Nodes rows)=true
   ·rw [ho];rfl
   ·rw [rR.2 ho]
    simp only [fL,d7]
    unfold R0
    have hpl:=I8 he hr
    have hlen:=OV a.Arg.Nodes rows
    by_cases hf:Du a.Arg.Nodes rows=true
    ·rw [hf];rfl
    ·rw [rR.2 hf]
     simp only [fL,d7,oU,GD,DX]
     by_cases h2:a.Tag=2
     ·rw [aY (by simpa using h2),aY h2];rfl
     ·rw [aL (by simpa using h2),aL h2]
      by_cases h3:a.Tag=3
      ·rw [aY (by simpa using h3),aY h3]
       rw [h3]at ho
       rw [Jd (fun v hv=>⟨hpl v hv,Fi _ ho v hv⟩) (by omega)]
       rfl
      ·rw [aL (by simpa using h3),aL h3]
       by_cases hz:Bx a.Arg.Nodes rows=[]
       ·rw [hz,aY (by rfl)];rfl
       ·rw [aL (by
         intro hh;apply hz
         have:=eq_of_beq hh
         exact uf (by omega))]
        have hrt: ∀v∈Bx a.Arg.Nodes rows,fH v=true:=fun v hv=>(hpl v hv).right
        by_cases h4:a.Tag=4
        ·rw [aY (by simpa using h4),h4,X9 hrt hz];rfl
        ·have h5:a.Tag=5:=by omega
         rw [aL (by simpa using h4),h5,Ya hrt hz];rfl

def y8(tag:Int)(vs:List ac):ac:=if tag=3∧vs≠[]then pr (qI vs)else zV
theorem Ky(tag:Int)(p q:List ac):rY tag (p++q)=(rY tag p||rY tag q):=by
 unfold rY
 rw [Gy]
 cases (tag==3)<;>rfl
theorem TU{vs:List ac}(h: ∀v∈vs,Pl v∧v.Kind=2)(hl:vs.length≤90000):vj (y8 3 vs)=some (Q0 vs):=by
 unfold y8 Q0
 by_cases hv:vs=[]
 ·rw [aL (by simp [hv]),aY hv,Ij]
 ·rw [aY ⟨rfl,hv⟩,aL hv,J0 (H6 (fun v hm=>(h v hm).1.r64) (by omega))]
theorem QZ{vs:List ac}(h: ∀v∈vs,Pl v∧v.Kind=2)(hl:vs.length≤90000)(hv:Pl v)(hk:v.Kind=2):sM (y8 3 vs) v=some (y8 3 (vs++[v]),0):=by
  have e:y8 3 (vs++[v])=pr (qI vs+v.N):=by
    unfold y8
    rw [aY ⟨rfl,by simp⟩,JK]
    simp [qI]
  rw [e]
  by_cases hn:vs=[]
  · subst hn
    have:y8 3 []=zV:=by unfold y8;simp
    rw [this,Gh hv.right hk hv.r64]
    simp [qI]
  · have:y8 3 vs=pr (qI vs):=by unfold y8;rw [aY ⟨rfl,hn⟩]
    have h1:Be (qI vs):=H6 (fun v hm=>(h v hm).1.r64) (by omega)
    have h2:Be (qI vs+v.N):=by
      have:=H6 (p:=vs++[v])
        (by
          intro w hw
          rcases vM.1 hw with q|q
          · exact(h w q).1.r64
          · simp at q;rw [q];exact hv.r64) (by simp;omega)
      rw [JK]at this
      simpa [qI] using this
    rw [this,Ii hv.right hk hv.r64 h1 h2]
theorem S3(a:gS)(nx:Int→Int→ac→ac→ac→Option (ac×Int))(vs:List ac)(hl:vs.length≤90000)(fault:Int)(x:ac)(v:ac)(c:Int)(sm:ac):mI a nx (vs.length:Int) fault x (vA a.Tag vs) (v,c) sm=nx ((vs++[v]).length:Int) fault x sm (vA a.Tag (vs++[v])):=by
 unfold mI gM
 have hw:IntKind.i64.wrap ((vs.length:Int)+1)=((vs++[v]).length:Int):=by rw [pF (by omega) (by omega)];simp
 simp only [hw,EQ,bf]
 rw [SU]
 by_cases hv:vs=[]
 ·subst hv
  simp
 ·rw [aL hv]
  have:(((vs++[v]).length:Int)==1)=false:=by
   rw [beq_eq_false_iff_ne]
   intro h
   apply hv
   simp only [iI,zO]at h
   exact uf (by omega)
  simp only [this,BW,ep]
  unfold pick
  by_cases h4:a.Tag=4
  ·rw [h4]
   by_cases hc:val v (vA 4 vs)<0
   ·simp [hc]
   ·simp [hc]
  ·by_cases h5:a.Tag=5
   ·rw [h5]
    by_cases hc:0<val v (vA 5 vs)
    ·simp [hc]
    ·simp [hc]
   ·simp [h4,h5]
theorem Ih(a:gS)(he:If a.Arg.Nodes)(ht:a.Tag≠1)(x:ac): ∀(rows:List cu) (vs:List ac) (fault:Int),EK rows→vs.length+rows.length≤90000→(∀v∈vs,Pl v)→rY a.Tag vs=false→(fault=0∨fault=140)→
  fO a rows (vs.length:Int) fault x (y8 a.Tag vs) (vA a.Tag vs)=some (if Dw a.Arg.Nodes rows||rY a.Tag (Bx a.Arg.Nodes rows)then(zV,2)else R0 a.Tag (vs++Bx a.Arg.Nodes rows) (if Du a.Arg.Nodes rows then 140 else fault))
 |[],vs,fault,_,hl,hpl,hod,hf=>by
  have e1:Dw a.Arg.Nodes []=false:=rfl
  have e2:Bx a.Arg.Nodes []=[]:=rfl
  have e3:Du a.Arg.Nodes []=false:=rfl
  have e4:rY a.Tag []=false:=by unfold rY;simp
  rw [e1,e2,e3,e4,rn]
  simp only [Bool.or_self,fL,d7]
  unfold fO R0
  rcases hf with hf|hf
  ·rw [hf]
   simp only [oU,GD,DX,fL,d7]
   by_cases h2:a.Tag=2
   ·rw [aY (by simpa using h2),aY h2];rfl
   ·rw [aL (by simpa using h2),aL h2]
    by_cases h3:a.Tag=3
    ·rw [aY (by simpa using h3),aY h3]
     rw [h3]at hod ⊢
     simp only [pQ]at hl
     rw [TU (fun v hv=>⟨hpl v hv,Fi _ (by simpa using hod) v hv⟩) (by omega)]
     rfl
    ·rw [aL (by simpa using h3),aL h3]
  ·rw [hf];rfl
 |r::t,vs,fault,hr,hl,hpl,hod,hf=>by
  have htl:EK t:=fun x hx=>hr x (kN _ hx)
  have hr1:=hr r (kO ..)
  rw [iN]at hl
  unfold fO
  rw [Gj a.Arg r he hr1,bf,Fv]
  have eb:Dw a.Arg.Nodes (r::t)=(((oS r a.Arg.Nodes).2 !=0&&(oS r a.Arg.Nodes).2 !=140)||Dw a.Arg.Nodes t):=rfl
  have ef:Du a.Arg.Nodes (r::t)=(((oS r a.Arg.Nodes).2==140)||Du a.Arg.Nodes t):=rfl
  rw [eb,ef]
  rcases yN he hr1 with q|q|q
  ·rw [aL (by rw [q.1];decide)]
   have e0:((oS r a.Arg.Nodes).2 !=0&&(oS r a.Arg.Nodes).2 !=140)=false:=by rw [q.1];rfl
   have e1:((oS r a.Arg.Nodes).2==140)=false:=by rw [q.1];rfl
   have e2:((oS r a.Arg.Nodes).2 !=0)=false:=by rw [q.1];rfl
   rw [e0,e1,e2]
   simp only [se]
   by_cases hk0:(oS r a.Arg.Nodes).1.Kind=0
   ·rw [aL (by simp [hk0]),aY (by simpa using hk0)]
    have hn2: ¬((oS r a.Arg.Nodes).2=0∧(oS r a.Arg.Nodes).1.Kind≠0):=fun h=>h.2 hk0
    simp only [aL hn2]
    unfold gM
    exact Ih a he ht x t vs fault htl (by omega) hpl hod hf
   ·have hc2:(oS r a.Arg.Nodes).2=0∧(oS r a.Arg.Nodes).1.Kind≠0:=⟨q.1,hk0⟩
    rw [aY hc2]
    by_cases hodd:a.Tag=3∧(oS r a.Arg.Nodes).1.Kind≠2
    ·rw [aY (by simp [hodd.1,hodd.2,hk0])]
     have:rY a.Tag ((oS r a.Arg.Nodes).1::Bx a.Arg.Nodes t)=true:=by
      unfold rY
      simp [hodd.1,hodd.2]
     rw [this,Bool.or_true];rfl
    ·rw [aL (by simp only [mi,sY,qD,oU];intro h;exact hodd ⟨h.1.1,h.2⟩),aL (by simpa using hk0)]
     have ho1:rY a.Tag [(oS r a.Arg.Nodes).1]=false:=by
      unfold rY
      simp only [zg,List.any_nil,Bool.or_false]
      rw [rR]
      intro h
      simp only [mi,sY,qD,oU]at h
      exact hodd h
     have ho:rY a.Tag ((oS r a.Arg.Nodes).1::Bx a.Arg.Nodes t)=rY a.Tag (Bx a.Arg.Nodes t):=by
      have:=Ky a.Tag [(oS r a.Arg.Nodes).1] (Bx a.Arg.Nodes t)
      rw [ho1,se]at this
      exact this
     have hvs:rY a.Tag (vs++[(oS r a.Arg.Nodes).1])=false:=by rw [Ky,hod,ho1];rfl
     have hpl2: ∀v∈vs++[(oS r a.Arg.Nodes).1],Pl v:=by
      intro v hv
      rcases vM.1 hv with h|h
      ·exact hpl v h
      ·simp at h;rw [h];exact q.2
     have ih:=Ih a he ht x t (vs++[(oS r a.Arg.Nodes).1]) fault htl (by simp only [iI,zO];omega) hpl2 hvs hf
     rw [ho]
     rw [jG,GJ]at ih
     rw [←ih]
     have hpair:oS r a.Arg.Nodes=((oS r a.Arg.Nodes).1,(oS r a.Arg.Nodes).2):=rfl
     by_cases h3:a.Tag=3
     ·rw [aY (by simpa using h3)]
      have hk2:(oS r a.Arg.Nodes).1.Kind=2:=by
       rcases Classical.em ((oS r a.Arg.Nodes).1.Kind=2)with h|h
       ·exact h
       ·exact absurd ⟨h3,h⟩ hodd
      have hod3: ¬rY 3 vs=true:=by rw [←h3,hod];simp
      have st:=QZ (fun v hv=>⟨hpl v hv,Fi _ hod3 v hv⟩) (by omega) q.2 hk2
      rw [←h3]at st
      rw [st,bf]
      rw [hpair]
      exact S3 a _ vs (by omega) fault x _ _ _
     ·rw [aL (by simpa using h3)]
      have es:y8 a.Tag (vs++[(oS r a.Arg.Nodes).1])=y8 a.Tag vs:=by
       unfold y8
       rw [aL (fun h=>h3 h.1),aL (fun h=>h3 h.1)]
      rw [es,hpair]
      exact S3 a _ vs (by omega) fault x _ _ _
  ·rw [aL (by simpa using q.2.1),aY (by simp [q.1])]
   have:((oS r a.Arg.Nodes).2 !=0&&(oS r a.Arg.Nodes).2 !=140)=true:=by simp [q.1,q.2.1]
   rw [this]
   simp only [Bool.true_or,ep]
   rfl
  ·rw [q,aL (by decide: ¬((140:Int)=0∧_)),aY (by rfl)]
   unfold gM
   have ih:=Ih a he ht x t vs 140 htl (by omega) hpl hod (.inr rfl)
   rw [ih]
   simp
theorem z8(a:gS)(he:If a.Arg.Nodes)(hr:EK rows)(hn:rows.length≤90000):rW a rows=some (wA a rows):=by
 unfold rW wA
 by_cases h1:a.Tag=1
 ·rw [aY (by simpa using h1),aY h1];rfl
 ·rw [aL (by simpa using h1),aL h1]
  have e:y8 a.Tag []=zV:=by unfold y8;simp
  have:=Ih a he h1 zV rows [] 0 hr (by simp only [pQ];omega) (by simp) (by unfold rY;simp) (.inl rfl)
  rw [e,jY]at this
  exact this

def nb(r:Nat):Nat:=if r%2=1 then(r/2)^^^2197175160 else r/2
def nb8(r:Nat):Nat:=nb (nb (nb (nb (nb (nb (nb (nb r)))))))
def Ws:List Int:=(List.range 256).map fun i=>(nb8 i:Int)

def oc(r:cu)(c:List Int):Bool:=decide (c.length≤16)&&c.all fun e=>decide (0≤e)&&decide (e<(r.length:Int))
theorem vG{f:Int→Option Bool}{g:Int→Bool}(hf: ∀v,f v=some (g v)): ∀(l:List Int) (i:Nat),∃j:Int,fy f l i=some j∧decide (0≤j)=l.any g
 |[],i=>⟨-1,rfl,rfl⟩
 |e::l,i=>by
  unfold fy
  rw [hf,bf]
  cases h:g e with
  |true=>exact⟨(i:Int),by simp,by simp [h]⟩
  |false=>
   obtain⟨j,h1,h2⟩:=vG hf l (i+1)
   exact⟨j,by simpa using h1,by rw [h2];simp [h]⟩
theorem jX{f:Int→Option Bool}{g:Int→Bool}(hf: ∀v,f v=some (g v))(l:List Int):cB l f=some (l.any g):=by
 unfold cB lw
 obtain⟨j,h1,h2⟩:=vG hf l 0
 rw [h1,bf,h2]
theorem Mq(r:cu)(c:List Int):Dz r c=some (oc r c):=by
 unfold Dz oc
 rw [jX (f:=yr r) (g:=fun c=>(decide (c<(0:Int)))||(decide ((r.length:Int)≤c))) (fun v=>rfl)]
 by_cases h:c.length≤16
 ·rw [aY (by rw [kX];omega),bf,bf,y5 h,uM]
  congr 1
  induction c with
  |nil=>rfl
  |cons e c ih=>
   rw [zg,zM,Bool.not_or,ih (by simp at h;omega)]
   congr 1
   rw [AC];simp only [Dn,Bool.or_eq_false_iff,mi,kX,F4];omega
 ·rw [aL (by rw [kX];omega),bf,xc h,D0]
theorem El(r:cu): ∀(c:List Int) (out:cu),(∀e∈c,0≤e∧e<(r.length:Int))→out.length+c.length≤1000→
  ∃t:cu,t.length=out.length+c.length∧(∀v∈t,v∈out∨v∈r)∧mn r c out=some t∧uR r c out=some t
 |[],out,_,_=>⟨out,rfl,fun v hv=> .inl hv,rfl,rfl⟩
 |e::c,out,h,hl=>by
  obtain⟨h1,h2⟩:=h e (kO ..)
  obtain⟨n,rfl⟩:=D5 h1
  have hn:n<r.length:=by omega
  rw [iN]at hl
  obtain⟨t,g1,g2,g3,g4⟩:=El r c (out++[r[n]]) (fun e he=>h e (kN _ he)) (by simp;omega)
  have hi:cN r (n:Int)=some r[n]:=by rw [bW];exact oO hn
  refine⟨t,by rw [g1];simp;omega,fun v hv=>?_,?_,?_⟩
  ·rcases g2 v hv with g|g
   ·rcases vM.1 g with g|g
    ·exact .inl g
    ·rw [zN.1 g];exact .inr (List.getElem_mem hn)
   ·exact .inr g
  ·unfold mn
   rw [hi,bf,co (by simp;omega),bf]
   exact g3
  ·unfold uR
   rw [hi,bf,co (by simp;omega),bf]
   exact g4
theorem Wf(h:xs.length≤68719476736):app [] xs=some xs:=by rw [co (by simpa using h)];rfl

def Bh(l:List cu)(c:List Int):Bool:=decide (c.length≤16)&&c.all (fun e=>decide (0≤e))&&l.all (fun r=>oc r c)
def wx(l:List cu)(c:List Int):Int:=if o7 l then(if Bh l c then 0 else 2)else 150
theorem Dj(c:List Int): ∀l:List cu,p9 c l=some (if l.all (fun r=>oc r c)then 0 else 2)
 |[]=>rfl
 |r::l=>by
  unfold p9
  rw [Mq,bf,Dj c l,zM]
  cases oc r c<;>rfl
theorem Gb(h:l.length≤8000)(c:List Int):yu l c=some (wx l c):=by
 unfold yu wx
 rw [sr,HV l h,bf]
 cases o7 l with
 |false=>simp
 |true=>
  rw [aY rfl,aL (by decide),jX (f:=ul) (g:=fun c=>decide (c<(0:Int))) (fun v=>rfl),aY rfl]
  have hn:c.all (fun e=>decide (0≤e))= !c.any (fun e=>decide (e<(0:Int))):=by
   rw [List.not_any_eq_all_not]
   congr 1
   funext e
   rw [AC];simp only [kX,Dn,F4];omega
  unfold Bh
  by_cases hc:c.length≤16
  ·rw [aY (by simp;omega),bf,bf,y5 hc,hn,Dj]
   cases c.any (fun e=>decide (e<(0:Int)))<;>cases l.all (fun r=>oc r c)<;>rfl
  ·rw [aL (by simp;omega),bf,xc hc];rfl
theorem yF(h:Bh l c=true)(hr:r∈l):oc r c=true:=by
 unfold Bh at h
 rw [mi,jZ]at h
 exact h.2 r hr
theorem Lq(h:wx l c=0):o7 l=true∧Bh l c=true:=by
 unfold wx at h
 cases h1:o7 l<;>cases h2:Bh l c<;>simp_all
def gA(c:List Int)(r:cu):cu:=(nX r c).getD []
theorem AW(h:oc r c=true):nX r c=some (gA c r)∧(gA c r).length=c.length∧ ∀v∈gA c r,v∈r:=by
 unfold oc at h
 rw [mi,kX,jZ]at h
 obtain⟨t,g1,g2,g3,g4⟩:=El r c [] (fun e he=>by have:=h.2 e he;rw [mi,kX,kX]at this;exact this) (by simp;omega)
 have e:nX r c=some t:=g3
 unfold gA
 rw [e]
 exact⟨rfl,by simpa using g1,fun v hv=>(g2 v hv).elim (fun h=>by cases h) id⟩
def xV(c:List Int)(a b:cu):Int:=Jo (eG (gA c a) (gA c b)) (eG a b)
theorem KU(c:List Int):Dm (xV c):=
 have h:=Dm.lex je je
 ⟨fun x y=>h.rng (gA c x,x) (gA c y,y),fun x y=>h.anti (gA c x,x) (gA c y,y),fun x y=>(h.eq (gA c x,x) (gA c y,y)).trans ⟨fun e=>(Prod.mk.injEq ..▸e).2,fun e=>by rw [e]⟩,fun x y z=>h.trans (gA c x,x) (gA c y,y) (gA c z,z)⟩
theorem LH{a b:cu}(ha:oc a c=true)(hb:oc b c=true):mF c a b=some (xV c a b):=by
 unfold mF
 rw [(AW ha).1,(AW hb).1]
 simp only [bf,wd,Cx,XY]
 unfold xV Jo
 congr 1
 by_cases h:eG (gA c a) (gA c b)=0
 ·by_cases h2:eG a b=0<;>simp [h,h2]
 ·simp [h]
theorem LF{a b:cu}(ha:oc a c=true)(hb:oc b c=true):ge c a b=some (decide (gA c a=gA c b)):=by
 unfold ge
 rw [(AW ha).1,(AW hb).1]
 simp only [bf,ss]
theorem Ff{α:Type}{lt lt' :α→α→Bool}(x:α): ∀l:List α,(∀y∈l,lt y x=lt' y x)→IF lt x l=IF lt' x l
 |[],_=>rfl
 |y::l,h=>by
  unfold IF
  rw [h y (kO ..),Ff x l fun z hz=>h z (kN _ hz)]
theorem C6{α:Type}{lt lt' :α→α→Bool}: ∀l:List α,(∀x∈l,∀y∈l,lt x y=lt' x y)→zB lt l=zB lt' l
 |[],_=>rfl
 |x::l,h=>by
  unfold zB
  rw [←C6 l fun y hy z hz=>h y (kN _ hy) z (kN _ hz)]
  exact Ff x _ fun y hy=>h y (kN _ ((tG lt l).mem_iff.1 hy)) x (kO ..)
theorem JN [DecidableEq α]{f:α→α→Int}(h:Dm f){c:α×α→Option Int}{l:List α}(hc: ∀x∈l,∀y∈l,c (x,y)=some (f x y))(hl:l.length≤1099511627776):zp c l=some (uP f l):=by
 have hg:=yi h (c:=fun p=>some (f p.1 p.2)) (fun _ _=>rfl) hl
 have hlt: ∀x∈l,∀y∈l,uU c x y=uU (fun p:α×α=>some (f p.1 p.2)) x y:=fun x hx y hy=>by unfold uU;rw [hc x hx y hy]
 have hg' :Ay c l:=⟨hl,fun x hx y hy=>by rw [hc x hx y hy];rfl,fun x hx=>by rw [hlt x hx x hx];exact hg.irr x hx,
  fun x hx y hy z hz h1 h2=>by rw [hlt x hx y hy]at h1;rw [hlt y hy z hz]at h2;rw [hlt x hx z hz];exact hg.tr x hx y hy z hz h1 h2,
  fun x hx y hy h1 h2=>by rw [hlt x hx y hy]at h1;rw [hlt y hy x hx]at h2;exact hg.anti x hx y hy h1 h2⟩
 rw [Eo hg',C6 l hlt]
 rfl
def vf(al:cu→cu→Bool):Nat→List cu→List (List cu)
 |0,_=>[]
 |_+1,[]=>[]
 |k+1,x::t=>(x::t.takeWhile (al x))::vf al k (t.dropWhile (al x))
theorem Ez{Sg:Type}{alike:cu→cu→Option Bool}{al:cu→cu→Bool}(yld:List cu→Sg→Option (Bool×Sg))(nx:Sg→List cu→Option Sg)(s:Sg)(x:cu)(t:List cu)(hal: ∀y∈t,alike x y=some (al x y))(ht:t.length≤8000):
  ∀(rest pre:List cu) (fuel:Nat),t=pre++rest→rest.length<fuel→nm alike yld nx s (x::t) fuel ((1+pre.length:Nat):Int)=(yld (x::(pre++rest.takeWhile (al x))) s).bind fun r=>if(!r.1)then some r.2 else nx r.2 (rest.dropWhile (al x))
 |rest,pre,0,_,h=>by omega
 |[],pre,fuel+1,e,_=>by
  rw [rn]at e
  subst e
  unfold nm
  rw [aL (by simp;omega),bf,aL (by decide),show(0:Int)=((0:Nat):Int)from rfl,lN (by omega) (by simp;omega),bf]
  rw [lN (by simp;omega) (dy _)]
  simp only [bf,List.takeWhile_nil,List.dropWhile_nil,rn,y4]
  rw [sf (by simp;omega),sf (dy _),DY (by simp;omega)]
 |b::rest,pre,fuel+1,e,hf=>by
  have hlen:t.length=pre.length+rest.length+1:=by rw [e];simp;omega
  have hb:cN (x::t) ((1+pre.length:Nat):Int)=some b:=by
   rw [bW,Nat.add_comm,NO,e]
   simp
  unfold nm
  rw [aY (by simp;omega),show cN (x::t) 0=some x from rfl,bf,hb,bf,hal b (by rw [e];simp),bf,bf]
  cases hb2:al x b with
  |true=>
   rw [aY rfl,cq (by omega) (by omega),show(((1+pre.length:Nat):Int)+1)=((1+(pre++[b]).length:Nat):Int) by simp;omega]
   rw [Ez yld nx s x t hal ht rest (pre++[b]) fuel (by rw [e];simp) (by simp at hf;omega)]
   simp [List.takeWhile_cons,List.dropWhile_cons,hb2]
  |false=>
   rw [aL (by decide),show(0:Int)=((0:Nat):Int)from rfl,lN (by omega) (by simp;omega),bf]
   rw [lN (by simp;omega) (dy _)]
   simp only [bf,y4]
   rw [sf (l:=x::t) (dy _)]
   have e1:(x::t).take (1+pre.length)=x::pre:=by rw [Nat.add_comm,List.take_succ_cons,e];simp
   have e2:(x::t).drop (1+pre.length)=b::rest:=by rw [Nat.add_comm,List.drop_succ_cons,e];simp
   rw [e1,e2]
   simp [List.takeWhile_cons,List.dropWhile_cons,hb2]
def Hf(c:List Int)(y:List cu):ie:=⟨gA c (y.headD []),y⟩
def Gv(c:List Int)(a b:cu):Bool:=decide (gA c a=gA c b)
theorem EA(c:List Int): ∀(k fuel:Nat) (l:List cu) (out:List ie),(∀r∈l,oc r c=true)→l.length≤k→l.length<fuel→out.length+l.length≤8000→
  j9 (ge c) (Dh (fun x s=>ke c x s)) fuel out l=some (out++(vf (Gv c) k l).map (Hf c))
 |k,0,l,out,_,_,h,_=>by omega
 |k,fuel+1,[],out,_,_,_,_=>by
  unfold j9
  rw [aL (by simp)]
  cases k<;>simp [vf]
 |0,fuel+1,x::t,out,_,h,_,_=>by simp at h
 |k+1,fuel+1,x::t,out,h,hk,hf,ho=>by
  simp only [iN]at hk hf ho
  have hx:=h x (kO ..)
  have hsub: ∀r∈t.dropWhile (Gv c x),r∈t:=fun r hr=>(Ju _).subset hr
  have hdl:(t.dropWhile (Gv c x)).length≤t.length:=(Ju _).length_le
  have htl:(t.takeWhile (Gv c x)).length≤t.length:=(List.takeWhile_sublist _).length_le
  unfold j9
  rw [aY (by simp),show(1:Int)=((1+([]:List cu).length:Nat):Int)from rfl,
   Ez (al:=Gv c) _ _ out x t (fun y hy=>LF hx (h y (kN _ hy))) (by omega) t [] iz rfl (by unfold iz;omega)]
  rw [jY]
  have hb:ke c (x::t.takeWhile (Gv c x)) out=some (out++[Hf c (x::t.takeWhile (Gv c x))]):=by
   unfold ke eY
   rw [show cN (x::t.takeWhile (Gv c x)) 0=some x from rfl,bf,(AW hx).1,bf,Wf (by simp;omega),bf,bf,co (by simp;omega)]
   rfl
  have hb2:Dh (fun x s=>ke c x s) (x::t.takeWhile (Gv c x)) out=some (true,out++[Hf c (x::t.takeWhile (Gv c x))]):=by
   show Option.map _ (ke c (x::t.takeWhile (Gv c x)) out)=_
   rw [hb];rfl
  rw [hb2]
  simp only [bf,mw,fL,d7]
  have ih:=EA c k fuel (t.dropWhile (Gv c x)) (out++[Hf c (x::t.takeWhile (Gv c x))]) (fun r hr=>h r (kN _ (hsub r hr))) (by omega) (by omega) (by simp;omega)
  rw [ih]
  simp [vf]
theorem Ge(h:BM l)(c:List Int):th l c=some (if wx l c=0 then((vf (Gv c) l.length (uP (xV c) l)).map (Hf c),0)else([],wx l c)):=by
 unfold th
 have hlen:=h.len
 rw [Gb h.len,bf]
 by_cases ha:wx l c=0
 ·obtain⟨_,hok⟩:=Lq ha
  rw [aL (by simp [ha]),aY ha,zu l (fun r hr=>by have:=h.row r hr;omega) (by omega),bf]
  rw [JN (KU c) (fun x hx y hy=>LH (yF hok hx) (yF hok hy)) (by omega),bf]
  unfold EH
  rw [bf]
  unfold wb
  have hl:=vY (xV c) l
  show((j9 (ge c) (Dh fun x s=>ke c x s) iz [] (uP (xV c) l)).bind fun xs1=>some (xs1,(0:Int)))=_
  rw [EA c l.length iz (uP (xV c) l) [] (fun r hr=>yF hok ((nW _ _).mem_iff.1 hr)) (by omega) (by unfold iz;omega) (by simp;omega)]
  rfl
 ·rw [aY (by simp [ha]),aL ha]
theorem GZ(al:cu→cu→Bool): ∀(k:Nat) (l:List cu),l.length≤k→(vf al k l).flatten=l
 |0,l,h=>by
  have:l=[]:=uf (by omega)
  subst this
  rfl
 |k+1,[],_=>rfl
 |k+1,x::t,h=>by
  have hdl:(t.dropWhile (al x)).length≤t.length:=(Ju _).length_le
  unfold vf
  rw [List.flatten_cons,GZ al k _ (by simp at h;omega),vO,List.takeWhile_append_dropWhile]
theorem Ey(al:cu→cu→Bool): ∀(k:Nat) (l:List cu) (y:List cu),y∈vf al k l→ ∃x t,y=x::t∧x∈l∧ ∀z∈t,z∈l∧al x z=true
 |0,l,y,h=>by cases h
 |k+1,[],y,h=>by cases h
 |k+1,x::t,y,h=>by
  unfold vf at h
  rcases fk.1 h with rfl|h
  ·exact⟨x,_,rfl,kO ..,fun z hz=>⟨kN _ ((List.takeWhile_sublist _).subset hz),by simpa using jZ.1 (List.all_takeWhile (p:=al x) (l:=t)) z hz⟩⟩
  ·obtain⟨x',t',e,h1,h2⟩:=Ey al k _ y h
   have hsub: ∀r∈t.dropWhile (al x),r∈t:=fun r hr=>(Ju _).subset hr
   exact⟨x',t',e,kN _ (hsub _ h1),fun z hz=>⟨kN _ (hsub _ (h2 z hz).1),(h2 z hz).2⟩⟩
theorem Ox{a b:cu}(h:xV c a b≤0):eG (gA c a) (gA c b)≤0:=by
 unfold xV Jo at h
 split at h
 ·exact h
 ·rename_i h2;simp at h2;omega
theorem OZ(c:List Int)(x:cu): ∀t:List cu,sG (xV c) (x::t)→ ∀z∈t.dropWhile (Gv c x),eG (gA c x) (gA c z)<0
 |[],_,z,hz=>by cases hz
 |b::t,hs,z,hz=>by
  have hs' :=BX.1 hs
  have hs2:=BX.1 hs'.2
  rw [List.dropWhile_cons]at hz
  split at hz
  ·exact OZ c x t (BX.2 ⟨fun w hw=>hs'.1 w (kN _ hw),hs2.2⟩) z hz
  ·rename_i hb
   have hlt:eG (gA c x) (gA c b)<0:=by
    have h1:=Ox (hs'.1 b (kO ..))
    rcases Int.lt_or_eq_of_le h1 with h|h
    ·exact h
    ·exact absurd (y5 ((je.eq _ _).1 h)) hb
   rcases fk.1 hz with rfl|hz
   ·exact hlt
   ·exact je.lt (Int.le_of_lt hlt) (Ox (hs2.1 z hz)) (.inl hlt)
theorem GY(c:List Int): ∀(k:Nat) (l:List cu),sG (xV c) l→((vf (Gv c) k l).map (Hf c)).Pairwise (fun a b=>eG a.Key b.Key<0)
 |0,l,_=>List.Pairwise.nil
 |k+1,[],_=>List.Pairwise.nil
 |k+1,x::t,hs=>by
  unfold vf
  rw [AB]
  have hs' :=BX.1 hs
  refine BX.2 ⟨fun g hg=>?_,GY c k _ (hs'.2.sublist (Ju _))⟩
  obtain⟨y,hy,rfl⟩:=ui.1 hg
  obtain⟨x',t',rfl,h1,_⟩:=Ey _ _ _ y hy
  exact OZ c x t hs x' h1

theorem kM{tl:List α}{y:α}(h:xs.drop i=y::tl):cN xs (i:Int)=some y∧i<xs.length∧xs.drop (i+1)=tl:=by
 have hi:i<xs.length:=by
  rcases m8 i xs.length with h1|h1
  ·exact h1
  ·rw [AG h1]at h;cases h
 rw [wV hi]at h
 injection h with h1 h2
 exact⟨by rw [bW,oO hi,h1],hi,h2⟩
theorem tR(h:xs.drop i=[]):xs.length≤i:=F3.1 h
theorem vF{f:gG→Option Bool}{g:gG→Bool}(hf: ∀v,f v=some (g v)): ∀(l:List gG) (i:Nat),∃j:Int,dE f l i=some j∧decide (0≤j)=l.any g
 |[],i=>⟨-1,rfl,rfl⟩
 |e::l,i=>by
  unfold dE
  rw [hf,bf]
  cases h:g e with
  |true=>exact⟨(i:Int),by simp,by simp [h]⟩
  |false=>
   obtain⟨j,h1,h2⟩:=vF hf l (i+1)
   exact⟨j,by simpa using h1,by rw [h2];simp [h]⟩
theorem ze{f:gG→Option Bool}{g:gG→Bool}(hf: ∀v,f v=some (g v))(l:List gG):ez l f=some (l.any g):=by
 unfold ez il
 obtain⟨j,h1,h2⟩:=vF hf l 0
 rw [h1,bf,h2]
theorem sH(l:List Int)(h:l.length≤68719476736):cy l=some l:=by
 unfold cy
 rw [co (by simpa using h)];rfl
theorem Td(n:Int)(h0:0≤n)(h:n≤68719476736):lH n=some []:=by
 unfold lH mC
 rw [aL (by simp;omega)]
 have e:IntKind.i64.wrap (n-IntKind.i64.wrap ((0:Int)-0))=n:=by
  rw [cq (n:=(0:Int)-0) (by omega) (by omega),cq (by omega) (by omega)];omega
 rw [e]
 by_cases hp:0<n
 ·rw [aY (by simpa using hp)]
  unfold WG nQ
  rw [aY hp]
  simp only [bf]
  rw [aY ⟨h0,h⟩]
  simp only [bf]
  rw [show dA (List.replicate n.toNat (0:Int)) 0 0=some []from by unfold dA;rw [aY (by simp;omega)];simp]
  rfl
 ·rw [aL (by simpa using hp)];rfl
theorem LI(a b:List Int)(ha:a.length≤8000)(hb:b.length≤8000):iT [a,b]=some (a++b):=by
 unfold iT
 simp only [jj]
 rw [cq (n:=(0:Int)+(a.length:Int)) (by omega) (by omega),aL (by simp),cq (by omega) (by omega),aL (by simp;omega),Td _ (by omega) (by omega)]
 simp only [bf,ji]
 rw [co (by simp;omega)]
 simp only [bf,jY]
 rw [co (by omega)]
 rfl
structure ic(n:aj):Prop where
 cond:n.Cond.Nodes.length≤5000
 kinds:n.Kinds.length≤5000
 keys:n.Keys.length≤5000
 aggs:n.Aggs.length≤5000
 items:n.Items.length≤5000
 order:n.Order.length≤5000
 args: ∀g∈n.Aggs,g.Arg.Nodes.length≤5000
 exprs: ∀e∈n.Items,e.Nodes.length≤5000
def HY(e:bG)(kinds:List Int):Bool:=(fF e kinds).2==0&&((fF e kinds).1==1||(fF e kinds).1==0)
theorem xP(e:bG)(kinds:List Int)(h:e.Nodes.length≤5000):rD e kinds=some (HY e kinds):=by
 unfold rD
 rw [wq e kinds (by omega)]
 rfl
theorem lR(e:bG)(kinds:List Int):uo e kinds=some (HY e kinds):=by
 unfold uo HY
 rw [ly e kinds]
 simp only [bf,Bool.or_comm]
def Pg(a:gS)(kinds:List Int):Int×Bool:=
 if a.Tag=1 then(2,a.Arg.Nodes.length==0)else if a.Tag=2 then(2,(fF a.Arg kinds).2==0)else if a.Tag=3 then(2,(fF a.Arg kinds).2==0&&((fF a.Arg kinds).1==2||(fF a.Arg kinds).1==0))else if a.Tag=4∨a.Tag=5 then((fF a.Arg kinds).1,(fF a.Arg kinds).2==0)else(0,false)
theorem Ol(n:Nat):((n:Int)==0)=(n==0):=by rw [AC];simp
theorem IC(a:gS)(kinds:List Int)(h:a.Arg.Nodes.length≤5000):yH a kinds=some (Pg a kinds):=by
 unfold yH Pg sE
 by_cases h1:a.Tag=1
 ·rw [aY (by simp [h1]),aY h1,Ol]
 rw [aL (by simpa using h1),aL h1,wq _ _ (by omega)]
 simp only [bf]
 by_cases h2:a.Tag=2
 ·rw [aY (by simp [h2]),aY h2]
 rw [aL (by simpa using h2),aL h2]
 by_cases h3:a.Tag=3
 ·rw [aY (by simp [h3]),aY h3]
 rw [aL (by simpa using h3),aL h3]
 by_cases h4:a.Tag=4
 ·rw [aY (by simp [h4]),aY (by simp [h4]),aY (.inl h4)]
 rw [aL (by simpa using h4)]
 by_cases h5:a.Tag=5
 ·rw [aY (by simp [h5]),aY (.inr h5)]
 rw [aL (by simpa using h5),aL (by omega)]
def BK(a:gS)(kinds:List Int):Int×Bool:=(kT a kinds).getD (0,false)
theorem pt(a:gS)(kinds:List Int):kT a kinds=some (BK a kinds):=by
 unfold BK kT
 rw [ly]
 simp only [bf]
 repeat' split
 all_goals rfl
theorem DV(a:gS)(kinds:List Int):(Pg a kinds).2=(BK a kinds).2∧((Pg a kinds).2=true→(Pg a kinds).1=(BK a kinds).1):=by
 unfold BK kT Pg
 rw [ly]
 simp only [bf]
 by_cases h1:a.Tag=1
 ·simp [h1,Ol]
 by_cases h2:a.Tag=2
 ·by_cases he:(fF a.Arg kinds).2=0<;>simp [h2,he]
 by_cases h3:a.Tag=3
 ·by_cases he:(fF a.Arg kinds).2=0
  ·by_cases h0:(fF a.Arg kinds).1=0
   ·simp [h3,he,h0]
   ·by_cases h02:(fF a.Arg kinds).1=2<;>simp [h3,he,h0,h02]
  ·simp [h3,he]
 by_cases h4:a.Tag=4
 ·by_cases he:(fF a.Arg kinds).2=0<;>simp [h4,he]
 by_cases h5:a.Tag=5
 ·by_cases he:(fF a.Arg kinds).2=0<;>simp [h5,he]
 have:a.Tag<1∨5<a.Tag:=by omega
 simp [h1,h2,h3,h4,h5,this]
def BN(p:Option (List Int×Bool))(q:Option (List Int×Bool))(last:Bool):Prop:=
 ∃k o k',p=some (k,o&&last)∧q=some (k',o)∧(o=true→k=k')
theorem GX(c:aE)(n:aj)(a b:List Int)(hn:ic n)(hop:n.Op=1):BN (fR c n) (bt n a b) true:=by
 have h:=hn.kinds
 have key: ∀(tl:List Int) (i:Nat) (fu:Nat) (ok:Bool),n.Kinds.drop i=tl→tl.length<fu→dn n fu ok (i:Int)=some (n.Kinds,((((ok&&tl.all fun k=>decide (1≤k)&&decide (k≤3))&&(decide ((0:Int)≤n.Table)))&&(decide (n.Table≤(3:Int))))&&(decide ((1:Int)≤(n.Kinds.length:Int))))&&(decide ((n.Kinds.length:Int)≤(4:Int)))):=by
  intro tl
  induction tl with
  |nil=>
   intro i fu ok hd hf
   obtain⟨fu,rfl⟩: ∃k,fu=k+1:=⟨fu-1,by omega⟩
   have:=tR hd
   rw [dn,aL (by simp;omega)]
   simp
  |cons x tl ih=>
   intro i fu ok hd hf
   simp only [iN]at hf
   obtain⟨fu,rfl⟩: ∃k,fu=k+1:=⟨fu-1,by omega⟩
   obtain⟨h1,h2,h3⟩:=kM hd
   rw [dn,aY (by simp;omega),h1,cq (by omega) (by omega)]
   simp only [bf]
   have e:((i:Int)+1)=((i+1:Nat):Int):=by omega
   rw [e]
   have e2:((if ok=true then some (decide ((1:Int)≤x))else some false).bind fun t=>(if t=true then some (decide (x≤(3:Int)))else some false).bind fun t1=>dn n fu t1 ((i+1:Nat):Int))=dn n fu (ok&&(decide (1≤x)&&decide (x≤3))) ((i+1:Nat):Int):=by
    cases ok<;>by_cases hx:(1:Int)≤x<;>simp [hx]
   rw [e2,ih (i+1) fu _ h3 (by omega)]
   simp only [zM,Gx]
 have hr:bt n a b=dn n iz true (0:Int):=by unfold bt;rw [aY (by simp [hop])]
 rw [hr,show((0:Int))=((0:Nat):Int)from rfl,key n.Kinds 0 iz true rfl (xh (xn _) (mO (by omega)))]
 unfold fR
 have hc:cB n.Kinds js=some (n.Kinds.any fun k=> !(((k==(1:Int))||(k==(2:Int)))||(k==(3:Int)))):=jX (fun v=>rfl) _
 rw [hc]
 simp only [bf]
 have e3:(!(n.Kinds.any fun k=> !(((k==(1:Int))||(k==(2:Int)))||(k==(3:Int)))))=n.Kinds.all fun k=>decide (1≤k)&&decide (k≤3):=by
  rw [List.not_any_eq_all_not]
  congr 1
  funext k
  rw [Bool.not_not,AC]
  simp;omega
 rw [e3]
 refine⟨n.Kinds,_,n.Kinds,?_,rfl,fun _=>rfl⟩
 cases h4:(n.Kinds.all fun k=>decide (1≤k)&&decide (k≤3))<;>by_cases t1:0≤n.Table<;>by_cases t2:n.Table<4<;>by_cases l1:(1:Int)≤(n.Kinds.length:Int)<;>by_cases l2:(n.Kinds.length:Int)≤4<;>simp [t1,t2,l1,l2]<;>omega
theorem PX(c:aE)(n:aj)(a b:List Int)(hn:ic n)(hop:n.Op=2)(ha:cN c.kinds n.A=some a)(hb:cN c.kinds n.B=some b)(hal:a.length≤16)(hbl:b.length≤16):BN (gN c n) (bt n a b) true:=by
 unfold gN bt
 rw [ha,hb,aL (by simp [hop]),aY (by simp [hop])]
 simp only [bf]
 rw [LI _ _ (by omega) (by omega),co (by simp;omega)]
 simp only [bf,jY]
 rw [co (by omega)]
 simp only [bf]
 rw [xP _ _ hn.cond,lR]
 exact⟨_,HY n.Cond (a++b),_,by simp,rfl,fun _=>rfl⟩
theorem KY(c:aE)(n:aj)(a b:List Int)(hn:ic n)(hop:n.Op=3)(ha:cN c.kinds n.A=some a):BN (fS c n) (bt n a b) true:=by
 unfold fS bt
 rw [ha,aL (by simp [hop]),aL (by simp [hop]),aY (by simp [hop])]
 simp only [bf]
 rw [xP _ _ hn.cond,lR]
 exact⟨_,HY n.Cond a,_,by simp,rfl,fun _=>rfl⟩
theorem Gu(c:aE)(n:aj)(a b:List Int)(hop:n.Op=6)(ha:cN c.kinds n.A=some a):BN (eV c n) (bt n a b) true:=by
 unfold eV bt
 rw [ha,aL (by simp [hop]),aL (by simp [hop]),aL (by simp [hop]),aL (by simp [hop]),aL (by simp [hop]),aY (by simp [hop])]
 exact⟨_,true,_,rfl,rfl,fun _=>rfl⟩
theorem Ip(c:aE)(n:aj)(a b:List Int)(hn:ic n)(hop:n.Op=5)(ha:cN c.kinds n.A=some a):BN (fq c n) (bt n a b) true:=by
 have h:=hn.items
 have hr:bt n a b=dK n a iz [] true (0:Int):=by unfold bt;rw [aL (by simp [hop]),aL (by simp [hop]),aL (by simp [hop]),aL (by simp [hop]),aY (by simp [hop])]
 have key: ∀(tl:List bG) (i:Nat) (fu:Nat) (out:List Int) (ok:Bool),n.Items.drop i=tl→i+tl.length=n.Items.length→tl.length<fu→out.length=i→dK n a fu out ok (i:Int)=some (out++tl.map (fun e=>(fF e a).1),((ok&&tl.all fun e=>(fF e a).2==0)&&(decide ((1:Int)≤(n.Items.length:Int))))&&(decide ((n.Items.length:Int)≤(16:Int)))):=by
  intro tl
  induction tl with
  |nil=>
   intro i fu out ok hd hi hf ho
   obtain⟨fu,rfl⟩: ∃k,fu=k+1:=⟨fu-1,by omega⟩
   simp only [pQ,yZ]at hi
   rw [dK,aL (by simp;omega)]
   simp [ho,hi]
  |cons x tl ih=>
   intro i fu out ok hd hi hf ho
   simp only [iN]at hf hi
   obtain⟨fu,rfl⟩: ∃k,fu=k+1:=⟨fu-1,by omega⟩
   obtain⟨h1,h2,h3⟩:=kM hd
   rw [dK,aY (by simp;omega),h1]
   simp only [bf]
   rw [ly]
   simp only [bf]
   rw [co (by simp;omega),cq (by omega) (by omega)]
   simp only [bf]
   have e:((i:Int)+1)=((i+1:Nat):Int):=by omega
   rw [e,ih (i+1) fu _ _ h3 (by omega) (by omega) (by simp [ho])]
   simp [Gx]
 rw [hr,show((0:Int))=((0:Nat):Int)from rfl,key n.Items 0 iz [] true rfl (by simp) (xh (xn _) (mO (by omega))) rfl]
 unfold fq
 have key2: ∀(tl:List bG) (out:List Int) (ok:Bool),(∀e∈tl,e.Nodes.length≤5000)→out.length+tl.length≤5000→fg c n tl out ok=some (out++tl.map (fun e=>(fF e a).1),ok&&tl.all fun e=>(fF e a).2==0):=by
  intro tl
  induction tl with
  |nil=>intro out ok _ _;simp [fg]
  |cons x tl ih=>
   intro out ok he hl
   simp only [iN]at hl
   rw [fg,ha]
   simp only [bf]
   rw [wq _ _ (by have:=he x (kO ..);omega)]
   simp only [bf]
   rw [co (by simp;omega)]
   simp only [bf]
   rw [ih _ _ (fun e h=>he e (kN _ h)) (by simp;omega)]
   simp [Gx]
 rw [key2 n.Items [] _ hn.exprs (by simp;omega)]
 refine⟨_,_,_,?_,rfl,fun _=>rfl⟩
 simp only [wH,uM]
 congr 2
 cases (n.Items.all fun e=>(fF e a).2==0)<;>simp
def Yf(a:List Int)(e:Int):Int:=(a[e.toNat]?).getD 0
def Iv(a:List Int)(e:Int):Bool:=decide (e<0)||decide ((a.length:Int)≤e)
theorem RN{a:List Int}{e:Int}(h:Iv a e=false):cN a e=some (Yf a e):=by
 simp [Iv]at h
 rw [gO e.toNat (by omega),oO (by omega)]
 unfold Yf
 rw [oO (by omega)];rfl
theorem MS(c:aE)(n:aj)(a b:List Int)(hn:ic n)(hop:n.Op=4)(ha:cN c.kinds n.A=some a):BN (gy c n) (bt n a b) true:=by
 have hK:=hn.keys
 have hA:=hn.aggs
 have hr:bt n a b=dM n a iz [] (0:Int):=by unfold bt;rw [aL (by simp [hop]),aL (by simp [hop]),aL (by simp [hop]),aY (by simp [hop])]
 have key3: ∀(tl:List gS) (i:Nat) (fu:Nat) (out:List Int) (ok:Bool),n.Aggs.drop i=tl→i+tl.length=n.Aggs.length→tl.length<fu→out.length≤5000+i→dL n a fu out ok (i:Int)=some (out++tl.map (fun e=>(BK e a).1),(((ok&&tl.all fun e=>(BK e a).2)&&(decide ((n.Keys.length:Int)≤(3:Int))))&&(decide ((n.Aggs.length:Int)≤(12:Int))))&&(decide ((0:Int)<((out.length+tl.length:Nat):Int)))):=by
  intro tl
  induction tl with
  |nil=>
   intro i fu out ok hd hi hf ho
   obtain⟨fu,rfl⟩: ∃k,fu=k+1:=⟨fu-1,by omega⟩
   simp only [pQ,yZ]at hi
   rw [dL,aL (by simp;omega)]
   simp
  |cons x tl ih=>
   intro i fu out ok hd hi hf ho
   simp only [iN]at hf hi
   obtain⟨fu,rfl⟩: ∃k,fu=k+1:=⟨fu-1,by omega⟩
   obtain⟨h1,h2,h3⟩:=kM hd
   rw [dL,aY (by simp;omega),h1]
   simp only [bf]
   rw [pt]
   simp only [bf]
   rw [co (by simp;omega),cq (by omega) (by omega)]
   simp only [bf]
   have e:((i:Int)+1)=((i+1:Nat):Int):=by omega
   rw [e,ih (i+1) fu _ _ h3 (by omega) (by omega) (by simp;omega)]
   simp only [AB,zM,Gx,jG,iI,iN,pQ,vO,jY]
   rw [show out.length+(0+1)+tl.length=out.length+(tl.length+1)from by omega]
 have key2: ∀(tl:List Int) (i:Nat) (fu:Nat) (out:List Int),n.Keys.drop i=tl→i+tl.length=n.Keys.length→tl.length<fu→out.length=i→dM n a fu out (i:Int)=if tl.any (Iv a)then some ([],false)else dL n a iz (out++tl.map (Yf a)) true 0:=by
  intro tl
  induction tl with
  |nil=>
   intro i fu out hd hi hf ho
   obtain⟨fu,rfl⟩: ∃k,fu=k+1:=⟨fu-1,by omega⟩
   simp only [pQ,yZ]at hi
   rw [dM,aL (by simp;omega)]
   simp
  |cons x tl ih=>
   intro i fu out hd hi hf ho
   simp only [iN]at hf hi
   obtain⟨fu,rfl⟩: ∃k,fu=k+1:=⟨fu-1,by omega⟩
   obtain⟨h1,h2,h3⟩:=kM hd
   rw [dM,aY (by simp;omega),h1]
   simp only [bf]
   cases hx:Iv a x with
   |true=>
    have hx' :(decide (x<0)||decide ((a.length:Int)≤x))=true:=hx
    rw [aY hx',aY (by simp [hx])]
   |false=>
    have hx' : ¬(decide (x<0)||decide ((a.length:Int)≤x))=true:=by rw [show(decide (x<0)||decide ((a.length:Int)≤x))=Iv a x from rfl,hx];decide
    rw [aL hx',RN hx]
    simp only [bf]
    rw [co (by simp;omega),cq (by omega) (by omega)]
    simp only [bf]
    have e:((i:Int)+1)=((i+1:Nat):Int):=by omega
    rw [e,ih (i+1) fu _ h3 (by omega) (by omega) (by simp [ho])]
    simp [hx]
 rw [hr,show((0:Int))=((0:Nat):Int)from rfl,key2 n.Keys 0 iz [] rfl (by simp) (xh (xn _) (mO (by omega))) rfl]
 rw [show((0:Int))=((0:Nat):Int)from rfl,key3 n.Aggs 0 iz _ true rfl (by simp) (xh (xn _) (mO (by omega))) (by simp;omega)]
 unfold gy
 rw [ha,cq (by omega) (by omega)]
 simp only [bf]
 have hp:sD n.Keys a=some (!(n.Keys.any (Iv a))):=by
  unfold sD
  rw [jX (f:=qe a) (g:=Iv a) (fun v=>rfl)]
  rfl
 rw [hp]
 simp only [bf,jY,AK]
 have kl: ∀(tl:List gS) (out:List Int) (ok:Bool),(∀e∈tl,e.Arg.Nodes.length≤5000)→out.length+tl.length≤10000→eT a tl out ok=some (out++tl.map (fun e=>(Pg e a).1),ok&&tl.all fun e=>(Pg e a).2):=by
  intro tl
  induction tl with
  |nil=>intro out ok _ _;simp [eT]
  |cons x tl ih=>
   intro out ok he hl
   simp only [iN]at hl
   rw [eT,IC _ _ (he x (kO ..))]
   simp only [bf]
   rw [co (by simp;omega)]
   simp only [bf]
   rw [ih _ _ (fun e h=>he e (kN _ h)) (by simp;omega)]
   simp [Gx]
 have kl1: ∀(t:Bool) (tl out:List Int),tl.any (Iv a)=false→out.length+tl.length≤5000→gj n a t tl out=eT a n.Aggs (out++tl.map (Yf a)) t:=by
  intro t tl
  induction tl with
  |nil=>intro out _ _;simp [gj]
  |cons x tl ih=>
   intro out ho hl
   simp only [iN]at hl
   simp only [zg,Bool.or_eq_false_iff]at ho
   rw [gj,RN ho.1]
   simp only [bf]
   rw [co (by simp;omega)]
   simp only [bf]
   rw [ih _ ho.2 (by simp;omega)]
   simp
 have hall:(n.Aggs.all fun e=>(Pg e a).2)=n.Aggs.all fun e=>(BK e a).2:=by
  congr 1;funext e;exact(DV e a).1
 have hmap:(n.Aggs.all fun e=>(Pg e a).2)=true→n.Aggs.map (fun e=>(Pg e a).1)=n.Aggs.map fun e=>(BK e a).1:=by
  intro h
  exact GG fun e he=>(DV e a).2 (jZ.1 h e he)
 cases hany:n.Keys.any (Iv a)with
 |true=>exact⟨[],false,[],by simp,by simp,fun _=>rfl⟩
 |false=>
  by_cases hb:((n.Keys.length≤3∧n.Aggs.length≤12)∧0<n.Keys.length+n.Aggs.length)
  ·have hb' :(((decide ((n.Keys.length:Int)≤(3:Int)))&&(decide ((n.Aggs.length:Int)≤(12:Int))))&&(decide ((0:Int)<(n.Keys.length:Int)+(n.Aggs.length:Int))))=true:=by simp;omega
   simp only [hb',ep,BW,mw,fL,d7,bf]
   rw [kl1 true n.Keys [] hany (by simp;omega),kl n.Aggs _ true hn.args (by simp;omega)]
   refine⟨n.Keys.map (Yf a)++n.Aggs.map (fun e=>(Pg e a).1),n.Aggs.all fun e=>(BK e a).2,n.Keys.map (Yf a)++n.Aggs.map (fun e=>(BK e a).1),by simp [hall],?_,fun h=>?_⟩
   ·have h1:(decide ((n.Keys.length:Int)≤(3:Int)))=true:=by simp;omega
    have h2:(decide ((n.Aggs.length:Int)≤(12:Int)))=true:=by simp;omega
    have h3:(decide ((0:Int)<((n.Keys.length+n.Aggs.length:Nat):Int)))=true:=by simp;omega
    simp only [h1,h2,h3,wH,uM]
   ·rw [hmap (by rw [hall];exact h)]
  ·have hb' :(((decide ((n.Keys.length:Int)≤(3:Int)))&&(decide ((n.Aggs.length:Int)≤(12:Int))))&&(decide ((0:Int)<(n.Keys.length:Int)+(n.Aggs.length:Int))))=false:=by rw [rR];simp;omega
   simp only [hb',ep,BW,fL,d7,bf]
   refine⟨[],false,n.Keys.map (Yf a)++n.Aggs.map (fun e=>(BK e a).1),by simp,?_,by simp⟩
   have:((((true&&n.Aggs.all fun e=>(BK e a).2)&&(decide ((n.Keys.length:Int)≤(3:Int))))&&(decide ((n.Aggs.length:Int)≤(12:Int))))&&(decide ((0:Int)<((n.Keys.length+n.Aggs.length:Nat):Int))))=false:=by rw [rR];simp;omega
   rw [this]
def QR(x y:Int):Int:=if x=0 then y else x
def JF(p:Int×Int):Bool:=(p.2==QR p.1 p.2)||p.2==0
theorem L0(c:aE)(n:aj)(a b:List Int)(hop:n.Op=7)(ha:cN c.kinds n.A=some a)(hb:cN c.kinds n.B=some b)(hal:a.length≤16):BN (gw c n) (bt n a b) true:=by
 unfold gw bt
 rw [ha,hb,aL (by simp [hop]),aL (by simp [hop]),aL (by simp [hop]),aL (by simp [hop]),aL (by simp [hop]),aL (by simp [hop]),aY (by simp [hop])]
 simp only [bf]
 by_cases hl:a.length=b.length
 ·rw [aL (by simp;omega),aL (by simp;omega),sH _ (by omega)]
  simp only [bf]
  have kc: ∀(tl pre suf:List Int) (ok:Bool),suf.length=tl.length→dC tl pre.length (pre++suf) ok=some (pre++List.zipWith QR suf tl,ok&&(suf.zip tl).all JF):=by
   intro tl
   induction tl with
   |nil=>
    intro pre suf ok h
    have:suf=[]:=uf h
    subst this
    simp [dC]
   |cons y tl ih=>
    intro pre suf ok h
    cases suf with
    |nil=>simp at h
    |cons x suf=>
     simp only [iN,Nat.add_right_cancel_iff]at h
     rw [dC,bW,si (dy _),zL]
     simp only [F5,bf]
     have step: ∀(z:Int),ir (dC tl) pre.length y ok (pre++z::suf)=some (pre++z::List.zipWith QR suf tl,ok&&((z==y||y==0)&&(suf.zip tl).all JF)):=by
      intro z
      unfold ir
      rw [bW,si (dy _),zL]
      simp only [F5,bf]
      have e1:pre++z::suf=(pre++[z])++suf:=by simp
      have e2:pre.length+1=(pre++[z]).length:=by simp
      cases ok with
      |true=>
       simp only [ep,bf,uM]
       rw [e1,e2,ih (pre++[z]) suf _ h]
       simp
      |false=>
       simp only [fL,d7,bf,D0]
       rw [e1,e2,ih (pre++[z]) suf _ h]
       simp
     by_cases hx:x=0
     ·subst hx
      rw [aY (by simp)]
      have e3:(pre++(0:Int)::suf).set ((pre.length:Int)).toNat y=pre++y::suf:=by
       rw [AE,List.set_append_right _ _ (dy _),zL];rfl
      rw [e3]
      refine(step y).trans ?_
      simp [JF,QR]
     ·rw [aL (by simpa using hx),step x]
      have:QR x y=x:=by unfold QR;rw [aL hx]
      simp only [List.zipWith_cons_cons,List.zip_cons_cons,zM,JF,this]
      have e4:(y==x)=(x==y):=by rw [AC,sY,sY];exact eq_comm
      rw [e4]
  have kr: ∀(tl tb:List Int) (i:Nat) (out:List Int) (ok:Bool),b.drop i=tb→tl.length=tb.length→out.length+tl.length≤1000→dm b tl i out ok=some (out++List.zipWith QR tl tb,ok&&(tl.zip tb).all JF):=by
   intro tl
   induction tl with
   |nil=>
    intro tb i out ok hd h _
    have:tb=[]:=uf h.symm
    subst this
    simp [dm]
   |cons x tl ih=>
    intro tb i out ok hd h hm
    cases tb with
    |nil=>simp at h
    |cons y tb=>
     simp only [iN,Nat.add_right_cancel_iff]at h hm
     obtain⟨h1,h2,h3⟩:=kM hd
     rw [dm,h1]
     simp only [bf]
     have step: ∀z:Int,ip b (dm b tl) i out ok z=some (out++z::List.zipWith QR tl tb,ok&&((y==z||y==0)&&(tl.zip tb).all JF)):=by
      intro z
      unfold ip
      rw [co (by simp;omega),h1]
      simp only [bf]
      cases ok with
      |true=>
       simp only [ep,bf,uM]
       cases hyz:y==z with
       |true=>
        simp only [mw,fL,d7,bf]
        rw [ih tb (i+1) _ _ h3 h (by simp;omega)]
        simp
       |false=>
        simp only [BW,ep,bf]
        rw [ih tb (i+1) _ _ h3 h (by simp;omega)]
        simp
      |false=>
       simp only [fL,d7,bf,D0]
       rw [ih tb (i+1) _ _ h3 h (by simp;omega)]
       simp
     by_cases hx:x=0
     ·subst hx
      rw [aY (by simp),step y]
      simp [JF,QR]
     ·rw [aL (by simpa using hx),step x]
      have:QR x y=x:=by unfold QR;rw [aL hx]
      simp only [List.zipWith_cons_cons,List.zip_cons_cons,zM,JF,this]
  have h1:=kc b [] a true hl
  rw [pQ,jY]at h1
  rw [h1,kr a b 0 [] true rfl hl (by simp;omega)]
  exact⟨_,_,_,by rw [wH],rfl,fun _=>rfl⟩
 ·rw [aY (by simp;omega),aY (by simp;omega)]
  exact⟨[],false,[],rfl,rfl,fun _=>rfl⟩
theorem MD(c:aE)(n:aj)(a b:List Int)(hn:ic n)(hop:n.Op=8)(ha:cN c.kinds n.A=some a):BN (gx c n) (bt n a b) ((c.kinds.length:Int)==IntKind.i64.wrap ((c.Logic.Nodes.length:Int)-(1:Int))):=by
 have h:=hn.order
 have hr:bt n a b=dc n a iz true (0:Int):=by unfold bt;rw [aL (by simp [hop]),aL (by simp [hop]),aL (by simp [hop]),aL (by simp [hop]),aL (by simp [hop]),aL (by simp [hop]),aL (by simp [hop])]
 have key: ∀(tl:List gG) (i:Nat) (fu:Nat) (ok:Bool),n.Order.drop i=tl→i+tl.length=n.Order.length→tl.length<fu→dc n a fu ok (i:Int)=some (a,((((ok&&tl.all fun e=>decide (0≤e.Col)&&decide (e.Col<(a.length:Int)))&&(decide ((n.Order.length:Int)≤(3:Int))))&&(decide ((-1:Int)≤n.Limit)))&&(decide (n.Limit≤(2147483647:Int))))):=by
  intro tl
  induction tl with
  |nil=>
   intro i fu ok hd hi hf
   obtain⟨fu,rfl⟩: ∃k,fu=k+1:=⟨fu-1,by omega⟩
   simp only [pQ,yZ]at hi
   rw [dc,aL (by simp;omega)]
   simp
  |cons x tl ih=>
   intro i fu ok hd hi hf
   simp only [iN]at hf hi
   obtain⟨fu,rfl⟩: ∃k,fu=k+1:=⟨fu-1,by omega⟩
   obtain⟨h1,h2,h3⟩:=kM hd
   rw [dc,aY (by simp;omega),h1,cq (by omega) (by omega)]
   simp only [bf]
   have e:((i:Int)+1)=((i+1:Nat):Int):=by omega
   rw [e]
   have e2:((if ok=true then some (decide ((0:Int)≤x.Col))else some false).bind fun t=>(if t=true then some (decide (x.Col<(a.length:Int)))else some false).bind fun t1=>dc n a fu t1 ((i+1:Nat):Int))=dc n a fu (ok&&(decide (0≤x.Col)&&decide (x.Col<(a.length:Int)))) ((i+1:Nat):Int):=by
    cases ok<;>by_cases hx:(0:Int)≤x.Col<;>simp [hx]
   rw [e2,ih (i+1) fu _ h3 (by omega) (by omega)]
   simp only [zM,Gx]
 rw [hr,show((0:Int))=((0:Nat):Int)from rfl,key n.Order 0 iz true rfl (by simp) (xh (xn _) (mO (by omega)))]
 unfold gx
 rw [ha]
 simp only [bf]
 rw [ze (f:=kK a) (g:=fun o=>(decide (o.Col<(0:Int)))||(decide ((a.length:Int)≤o.Col))) (fun v=>rfl)]
 simp only [bf]
 have e3:(!(n.Order.any fun o=>(decide (o.Col<(0:Int)))||(decide ((a.length:Int)≤o.Col))))=n.Order.all fun e=>decide (0≤e.Col)&&decide (e.Col<(a.length:Int)):=by
  rw [List.not_any_eq_all_not]
  congr 1
  funext k
  rw [AC]
  simp
 rw [e3]
 refine⟨a,_,a,?_,rfl,fun _=>rfl⟩
 cases h4:(n.Order.all fun e=>decide (0≤e.Col)&&decide (e.Col<(a.length:Int)))<;>by_cases l1:(n.Order.length:Int)≤3<;>simp [l1]

def atR(r:cu)(c:Int):ac:=(r[c.toNat]?).getD zV
def ZI(o:gG)(n:Int):Int:=if o.Desc then -n else n
def Ht:List gG→cu→cu→Int
 |[],a,b=>eG a b
 |o::t,a,b=>Jo (ZI o (val (atR a o.Col) (atR b o.Col))) (Ht t a b)
theorem TM(o:gG):Dm (fun x y=>ZI o (val x y)):=by
 have h:=sk
 unfold ZI
 cases o.Desc with
 |false=>exact h
 |true=>
  refine⟨fun x y=>?_,fun x y=>?_,fun x y=>?_,fun x y z h1 h2=>?_⟩
  ·rcases h.rng x y with q|q|q<;>simp [q]
  ·have:=h.anti x y;simp [this]
  ·simp only [ep];rw [←h.eq x y];omega
  ·simp only [ep]at h1 h2 ⊢
   have a1:=h.anti x y;have a2:=h.anti y z;have a3:=h.anti x z
   have:=h.trans z y x (by omega) (by omega)
   omega
theorem Hs: ∀order:List gG,Dm (Ht order)
 |[]=>je
 |o::t=>
  have h:=Dm.lex (TM o) (Hs t)
  ⟨fun x y=>h.rng (atR x o.Col,x) (atR y o.Col,y),fun x y=>h.anti (atR x o.Col,x) (atR y o.Col,y),fun x y=>(h.eq (atR x o.Col,x) (atR y o.Col,y)).trans ⟨fun e=>(Prod.mk.injEq ..▸e).2,fun e=>by rw [e]⟩,fun x y z=>h.trans (atR x o.Col,x) (atR y o.Col,y) (atR z o.Col,z)⟩
def Ww(order:List gG)(r:cu):Bool:=order.all fun o=>decide (0≤o.Col)&&decide (o.Col<(r.length:Int))
theorem IG{c:Int}(h:0≤c)(h2:c<(r.length:Int)):cN r c=some (atR r c):=by
 obtain⟨k,hk⟩:=D5 h
 subst hk
 have hk:k<r.length:=by omega
 unfold atR
 rw [gO k rfl]
 simp [hk]
theorem Hu(hr:kD r=true){c:Int}(h:0≤c)(h2:c<(r.length:Int)):fH (atR r c)=true:=by
 have hm:atR r c∈r:=by
  obtain⟨k,hk⟩:=D5 h
  subst hk
  have hk:k<r.length:=by omega
  unfold atR
  simp [hk]
 unfold kD at hr
 simp only [mi,jZ]at hr
 exact hr.2 _ hm
theorem TL{β:Type}(o:gG){n:Int}(h:n= -1∨n=0∨n=1)(f:Int→β):(if o.Desc then f (IntKind.i64.wrap (0-n))else f n)=f (ZI o n):=by
 unfold ZI
 cases o.Desc with
 |false=>rfl
 |true=>rcases h with h|h|h<;>subst h<;>rfl
theorem Kx{o:gG}{t:List gG}(h:Ww (o::t) r=true):0≤o.Col∧o.Col<(r.length:Int)∧Ww t r=true:=by
 unfold Ww at h ⊢
 rw [zM]at h
 simp only [mi,kX]at h
 exact⟨h.1.1,h.1.2,h.2⟩
theorem Xg{a b:cu}(ha:kD a=true)(hb:kD b=true): ∀order:List gG,Ww order a=true→Ww order b=true→ou order a b=some (Ht order a b)
 |[],_,_=>by
  unfold ou jw
  rw [zK ha hb];rfl
 |o::t,h1,h2=>by
  obtain⟨p1,p2,p3⟩:=Kx h1
  obtain⟨q1,q2,q3⟩:=Kx h2
  have ih:=Xg ha hb t p3 q3
  unfold ou at ih ⊢
  unfold jw
  rw [IG p1 p2,IG q1 q2,bf,bf,qZ (Hu ha p1 p2) (Hu hb q1 q2),bf]
  have hs:=TL o (sk.rng (atR a o.Col) (atR b o.Col)) (ot (jw a b t))
  rw [hs,ih]
  unfold ot
  show _=some (Jo _ _)
  unfold Jo
  split<;>rfl
def Nn(limit:Int)(l:List cu):List cu:=if 0≤limit∧limit<(l.length:Int)then l.take limit.toNat else l
theorem YZ(limit:Int)(l:List cu)(k:List cu→Option (List cu))(hk: ∀x,k x=some x):(if((decide ((0:Int)≤limit))&&(decide (limit<(l.length:Int))))then((dA l 0 limit).bind fun y=>k y)else k l)=some (Nn limit l):=by
 unfold Nn
 by_cases h:0≤limit∧limit<(l.length:Int)
 ·rw [aY (by simp [h.1,h.2]),aY h,lO (xs:=l) (i:=0) (j:=limit) 0 limit.toNat rfl (by omega) (lF _) (by omega),bf,hk]
  simp
 ·rw [aL (by simp only [mi,kX];exact h),aL h,hk]
structure NC(order:List gG)(l:List cu):Prop where
 right: ∀r∈l,kD r=true
 cols: ∀r∈l,Ww order r=true
theorem GR(order:List gG)(limit:Int): ∀(rows out:List cu),NC order (out++rows)→out.length+rows.length≤1000000→km order limit rows out=some (Nn limit (uP (Ht order) (out++rows)))
 |[],out,h,hl=>by
  unfold km
  rw [rn]at h ⊢
  have e:Cu order=some (ou order):=rfl
  rw [e,bf]
  rw [JN (Hs order) (fun x hx y hy=>by exact Xg (h.right x hx) (h.right y hy) order (h.cols x hx) (h.cols y hy)) (by simp at hl;omega),bf]
  exact YZ limit _ oK (fun _=>rfl)
 |r::t,out,h,hl=>by
  rw [iN]at hl
  unfold km
  have hr:=Mt (h.right r (by simp))
  rw [CJ r (by omega),bf,co (by simp;omega),bf,GR order limit t (out++[r]) (by rwa [jG,GJ]) (by simp only [iI,zO];omega)]
  rw [jG,GJ]
theorem Ct{order:List gG}(h:NC order rows)(hl:rows.length≤1000000)(limit:Int):o6 rows order limit=some (Nn limit (uP (Ht order) rows)):=by
 unfold o6
 rw [GR order limit rows [] (by simpa using h) (by simpa using hl)]
 rfl
end Go.Proofs.YtfhhakidodmdfaaGreatDoor

