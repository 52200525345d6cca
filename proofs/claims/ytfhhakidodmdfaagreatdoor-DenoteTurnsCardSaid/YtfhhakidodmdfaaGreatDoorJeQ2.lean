/- cT of this claim: M11, M12, M13, M14, M15, J1, K5, J2, J3, K6, K7, K8, L4, J4. -/
import Derived.Test.YtfhhakidodmdfaaGreatDoorJeQ1
set_option linter.all false
namespace Go.Proofs.YtfhhakidodmdfaaGreatDoor
open Go

def jF(m:Nat):List Int:=[((m%4294967296:Nat):Int),((m/4294967296%4294967296:Nat):Int),((m/18446744073709551616%4294967296:Nat):Int),((m/79228162514264337593543950336%4294967296:Nat):Int),0,0,0,0]
def lv(z:Int):eF:=⟨jF z.natAbs,decide (z<0)⟩
variable{m:Nat}
theorem vh(h:m<18446744073709551616):jF m=[((m%4294967296:Nat):Int),((m/4294967296:Nat):Int),0,0,0,0,0,0]:=by
 unfold jF
 rw [Co (show m/4294967296<4294967296 by omega),Nat.div_eq_of_lt h,Nat.div_eq_of_lt (show m<79228162514264337593543950336 by omega)]
 rfl
variable{x:Int}
theorem DY(x:Nat):((x:Int)).tmod 4294967296=((x%4294967296:Nat):Int):=rfl
theorem xD{u:Nat}(h:u<18446744073709551616):eZ .xor .u64 (if IntKind.u64.signed then -1 else IntKind.u64.max) (u:Int)=((18446744073709551615-u:Nat):Int):=by
 have e:eZ .xor .u64 (if IntKind.u64.signed then -1 else IntKind.u64.max) (u:Int)=IntKind.u64.wrap (((BitVec.ofInt 64 (if IntKind.u64.signed then -1 else IntKind.u64.max)^^^BitVec.ofInt 64 (u:Int)).toNat:Nat):Int):=rfl
 have e1:BitVec.ofInt 64 (if IntKind.u64.signed then -1 else IntKind.u64.max)=BitVec.allOnes 64:=by decide
 have e2:BitVec.ofInt 64 (u:Int)=BitVec.ofNat 64 u:=BitVec.ofInt_natCast 64 u
 rw [e,e1,e2,BitVec.allOnes_xor,BitVec.toNat_not,BitVec.toNat_ofNat,Co (by omega:u<2^64),qc (by omega)]
variable{b:ac}
theorem Lh(m:Nat)(h:m<18446744073709551616)(b:Bool):nL 0 (m:Int) ⟨List.replicate 8 0,b⟩=some ⟨jF m,b⟩:=by
 rw [vh h]
 unfold nL
 rw [DY,wk]
 rfl
variable{z:Int}
theorem i8(h:r64 z):fG z=some (lv z):=by
 unfold r64 at h
 unfold fG lv
 by_cases hz:z<0
 ·rw [aX (by simpa using hz)]
  unfold q5
  rw [aX (by decide)]
  have eu:IntKind.u64.wrap z=((18446744073709551616-z.natAbs:Nat):Int):=by rw [tG];omega
  rw [eu,xD (by omega)]
  have e1:IntKind.u64.wrap (((18446744073709551615-(18446744073709551616-z.natAbs):Nat):Int)+1)=((z.natAbs:Nat):Int):=by rw [tG];omega
  rw [e1,aM (by simp;omega)]
  have e2:IntKind.u64.wrap (-1)=((18446744073709551615:Nat):Int):=by decide
  rw [e2,xD (by omega)]
  have:=Lh z.natAbs (by omega) true
  rw [show((18446744073709551615-18446744073709551615:Nat):Int)=0 from rfl,this]
  simp [hz]
 ·rw [aM (by simpa using hz)]
  unfold q5
  rw [aM (by decide)]
  have eu:IntKind.u64.wrap z=((z.natAbs:Nat):Int):=by rw [tG];omega
  rw [eu,show IntKind.u64.wrap 0=0 from by decide,Lh z.natAbs (by omega) false]
  simp [hz]
theorem DM(h:m<340282366920938463463374607431768211456)(b:Bool):sU ⟨jF m,b⟩=some (decide (m=0)):=by
 unfold sU
 congr 1
 apply jG
 simp only [kI]
 constructor
 ·intro he
  unfold jF at he
  have he:[((m%4294967296:Nat):Int),((m/4294967296%4294967296:Nat):Int),((m/18446744073709551616%4294967296:Nat):Int),((m/79228162514264337593543950336%4294967296:Nat):Int),0,0,0,0]=[0,0,0,0,0,0,0,0]:=he
  simp only [List.cons.injEq]at he
  omega
 ·intro he;subst he;rfl
theorem PZ(h:z.natAbs<340282366920938463463374607431768211456):rR (lv z)=some (lv (-z)):=by
 unfold rR lv
 rw [DM h]
 simp only [Int.natAbs_neg]
 by_cases h1:z<0
 ·have h2: ¬(-z<0):=by omega
  simp [h1,h2]
  omega
 ·by_cases h0:z=0
  ·subst h0;simp
  ·have h2: -z<0:=by omega
   have h3: ¬z.natAbs=0:=by omega
   have h4:decide (z<0)=false:=ww h1
   have h5:decide (-z<0)=true:=wH h2
   have h6:decide (z.natAbs=0)=false:=ww h3
   rw [h4,h5,h6]
   rfl
variable{i:Nat}
theorem T0(h:i<8):Rs (i:Int) 8=some ():=by unfold Rs;rw [aX (by omega)]
variable{c:List Int}
theorem io(aa bb ds:List Int)(s t:Bool)(k i:Nat)(hi:i<8)(e1 e2 c:Nat)(h1:aa[i]? =some (e1:Int))(h2:bb[i]? =some (e2:Int))(b1:e1<4294967296)(b2:e2<4294967296)(b3:c≤1):
  gC ⟨aa,s⟩ ⟨bb,s⟩ (k+1) i (c:Int) ⟨ds,t⟩=gC ⟨aa,s⟩ ⟨bb,s⟩ k (i+1) (((e1+e2+c)/4294967296:Nat):Int) ⟨ds.set i (((e1+e2+c)%4294967296:Nat):Int),t⟩:=by
 conv=>lhs;unfold gC
 rw [aX (by simp),T0 hi,bW,h1,bW,h2]
 simp only [ba]
 rw [←Ai,qc (by omega),←Ai,qc (by omega),wk,DY]
 rfl
theorem ip(aa bb ds:List Int)(s u t:Bool)(hsu:(s==u)=false)(k i:Nat)(hi:i<8)(e1 e2 c:Nat)(h1:aa[i]? =some (e1:Int))(h2:bb[i]? =some (e2:Int))(b1:e1<4294967296)(b2:e2<4294967296)(b3:c≤1):
  gC ⟨aa,s⟩ ⟨bb,u⟩ (k+1) i (c:Int) ⟨ds,t⟩=gC ⟨aa,s⟩ ⟨bb,u⟩ k (i+1) ((1-(e1+4294967296-e2-c)/4294967296:Nat):Int) ⟨ds.set i (((e1+4294967296-e2-c)%4294967296:Nat):Int),t⟩:=by
 conv=>lhs;unfold gC
 rw [aM (by simp only [hsu];decide),T0 hi,bW,h1,bW,h2]
 simp only [ba]
 have q1:IntKind.u64.wrap ((e1:Int)+4294967296)=((e1+4294967296:Nat):Int):=by rw [Gr (by omega) (by omega)];omega
 have q2:IntKind.u64.wrap (((e1+4294967296:Nat):Int)-(e2:Int))=((e1+4294967296-e2:Nat):Int):=by rw [Gr (by omega) (by omega)];omega
 have q3:IntKind.u64.wrap (((e1+4294967296-e2:Nat):Int)-(c:Int))=((e1+4294967296-e2-c:Nat):Int):=by rw [Gr (by omega) (by omega)];omega
 rw [q1,q2,q3,wk,DY]
 have q4:IntKind.u64.wrap (1-(((e1+4294967296-e2-c)/4294967296:Nat):Int))=((1-(e1+4294967296-e2-c)/4294967296:Nat):Int):=by rw [Gr (by omega) (by omega)];omega
 rw [q4]
 rfl
theorem AD(aa bb:eF)(i:Nat)(c:Int)(m:Nat)(hm:m<340282366920938463463374607431768211456)(t:Bool):gC aa bb 0 i c ⟨jF m,t⟩=some ⟨jF m,t&&decide (m≠0)⟩:=by
 unfold gC
 cases t with
 |false=>rfl
 |true=>
  simp only [eK]
  rw [DM hm]
  simp
variable{p q:Nat}
theorem Zi(hp:p<18446744073709551616)(hq:q<18446744073709551616)(s:Bool):hM ⟨jF p,s⟩ ⟨jF q,s⟩=some ⟨jF (p+q),s&&decide (p+q≠0)⟩:=by
 have hd:jF (p+q)=[(((p%4294967296+q%4294967296+0)%4294967296:Nat):Int),(((p/4294967296+q/4294967296+(p%4294967296+q%4294967296+0)/4294967296)%4294967296:Nat):Int),(((0+0+(p/4294967296+q/4294967296+(p%4294967296+q%4294967296+0)/4294967296)/4294967296)%4294967296:Nat):Int),0,0,0,0,0]:=by
  unfold jF
  congr 1
  ·congr 1;omega
  ·congr 1
   ·congr 1;omega
   ·congr 1
    ·congr 1;omega
    ·congr 1
     have:(p+q)/79228162514264337593543950336%4294967296=0:=by omega
     rw [this];rfl
 have rD:=hd
 rw [vh hp,vh hq]
 unfold hM
 generalize hp0:p%4294967296=p0 at rD ⊢
 generalize hp1:p/4294967296=p1 at rD ⊢
 generalize hq0:q%4294967296=q0 at rD ⊢
 generalize hq1:q/4294967296=q1 at rD ⊢
 have c1:(p0+q0+0)/4294967296≤1:=by omega
 generalize hc:(p0+q0+0)/4294967296=c at rD c1 ⊢
 have c2:(p1+q1+c)/4294967296≤1:=by omega
 generalize hcc:(p1+q1+c)/4294967296=cc at rD c2 ⊢
 rw [show((0:Int))=((0:Nat):Int)from rfl]
 rw [io _ _ _ s s 7 0 (by omega) p0 q0 0 rfl rfl (by omega) (by omega) (by omega),hc]
 rw [io _ _ _ s s 6 1 (by omega) p1 q1 c rfl rfl (by omega) (by omega) (by omega),hcc]
 rw [io _ _ _ s s 5 2 (by omega) 0 0 cc rfl rfl (by omega) (by omega) (by omega)]
 have c3:(0+0+cc)/4294967296=0:=by omega
 rw [c3]
 rw [io _ _ _ s s 4 3 (by omega) 0 0 0 rfl rfl (by omega) (by omega) (by omega)]
 rw [show(0+0+0)/4294967296=0 from rfl]
 rw [io _ _ _ s s 3 4 (by omega) 0 0 0 rfl rfl (by omega) (by omega) (by omega)]
 rw [show(0+0+0)/4294967296=0 from rfl]
 rw [io _ _ _ s s 2 5 (by omega) 0 0 0 rfl rfl (by omega) (by omega) (by omega)]
 rw [show(0+0+0)/4294967296=0 from rfl]
 rw [io _ _ _ s s 1 6 (by omega) 0 0 0 rfl rfl (by omega) (by omega) (by omega)]
 rw [show(0+0+0)/4294967296=0 from rfl]
 rw [io _ _ _ s s 0 7 (by omega) 0 0 0 rfl rfl (by omega) (by omega) (by omega)]
 have he:=AD ⟨[(p0:Int),(p1:Int),0,0,0,0,0,0],s⟩ ⟨[(q0:Int),(q1:Int),0,0,0,0,0,0],s⟩ (7+1) (((0+0+0)/4294967296:Nat):Int) (p+q) (by omega) s
 rw [rD]at he
 rw [rD]
 exact he
theorem V4(hp:p<18446744073709551616)(hq:q≤p)(s u:Bool)(hsu:(s==u)=false):hM ⟨jF p,s⟩ ⟨jF q,u⟩=some ⟨jF (p-q),s&&decide (p-q≠0)⟩:=by
 have hd:jF (p-q)=[(((p%4294967296+4294967296-q%4294967296-0)%4294967296:Nat):Int),(((p/4294967296+4294967296-q/4294967296-(1-(p%4294967296+4294967296-q%4294967296-0)/4294967296))%4294967296:Nat):Int),0,0,0,0,0,0]:=by
  rw [vh (by omega)]
  congr 1
  ·congr 1;omega
  ·congr 1
   ·congr 1;omega
 have rD:=hd
 rw [vh hp,vh (m:=q) (by omega)]
 unfold hM
 have hge:(p/4294967296+4294967296-q/4294967296-(1-(p%4294967296+4294967296-q%4294967296-0)/4294967296))/4294967296=1:=by omega
 generalize hp0:p%4294967296=p0 at rD hge ⊢
 generalize hp1:p/4294967296=p1 at rD hge ⊢
 generalize hq0:q%4294967296=q0 at rD hge ⊢
 generalize hq1:q/4294967296=q1 at rD hge ⊢
 have c1:1-(p0+4294967296-q0-0)/4294967296≤1:=by omega
 generalize hc:1-(p0+4294967296-q0-0)/4294967296=c at rD hge c1 ⊢
 rw [show((0:Int))=((0:Nat):Int)from rfl]
 rw [ip _ _ _ s u s hsu 7 0 (by omega) p0 q0 0 rfl rfl (by omega) (by omega) (by omega),hc]
 rw [ip _ _ _ s u s hsu 6 1 (by omega) p1 q1 c rfl rfl (by omega) (by omega) (by omega),hge]
 rw [show 1-1=0 from rfl]
 rw [ip _ _ _ s u s hsu 5 2 (by omega) 0 0 0 rfl rfl (by omega) (by omega) (by omega)]
 rw [show 1-(0+4294967296-0-0)/4294967296=0 from rfl]
 rw [ip _ _ _ s u s hsu 4 3 (by omega) 0 0 0 rfl rfl (by omega) (by omega) (by omega)]
 rw [show 1-(0+4294967296-0-0)/4294967296=0 from rfl]
 rw [ip _ _ _ s u s hsu 3 4 (by omega) 0 0 0 rfl rfl (by omega) (by omega) (by omega)]
 rw [show 1-(0+4294967296-0-0)/4294967296=0 from rfl]
 rw [ip _ _ _ s u s hsu 2 5 (by omega) 0 0 0 rfl rfl (by omega) (by omega) (by omega)]
 rw [show 1-(0+4294967296-0-0)/4294967296=0 from rfl]
 rw [ip _ _ _ s u s hsu 1 6 (by omega) 0 0 0 rfl rfl (by omega) (by omega) (by omega)]
 rw [show 1-(0+4294967296-0-0)/4294967296=0 from rfl]
 rw [ip _ _ _ s u s hsu 0 7 (by omega) 0 0 0 rfl rfl (by omega) (by omega) (by omega)]
 have he:=AD ⟨[(p0:Int),(p1:Int),0,0,0,0,0,0],s⟩ ⟨[(q0:Int),(q1:Int),0,0,0,0,0,0],u⟩ (7+1) ((1-(0+4294967296-0-0)/4294967296:Nat):Int) (p-q) (by omega) s
 rw [rD]at he
 rw [rD]
 exact he
theorem iq(aa bb:List Int)(s t:Bool)(n:Nat)(i:Nat)(hi:i<8)(e1 e2:Int)(h1:aa[i]? =some e1)(h2:bb[i]? =some e2):
  li ⟨aa,s⟩ ⟨bb,t⟩ (n+1) (i:Int)=if e1=e2 then li ⟨aa,s⟩ ⟨bb,t⟩ n ((i:Int)-1)else some (decide (e1<e2)):=by
 conv=>lhs;unfold li
 rw [aX (by simp),bW,h1,bW,h2]
 simp only [ba]
 by_cases h:e1=e2
 ·rw [aM (by simp [h]),aX h,cv (by omega) (by omega)]
 ·rw [aX (by simpa using h),aM h]
theorem TR(hp:p<18446744073709551616)(hq:q<18446744073709551616)(s t:Bool):sW ⟨jF p,s⟩ ⟨jF q,t⟩=some (decide (p<q)):=by
 rw [vh hp,vh hq]
 unfold sW
 obtain⟨f,hf⟩: ∃f,im=f+9:=⟨im-9,by have:=mB (n:=9) (by omega);omega⟩
 rw [hf]
 rw [show(7:Int)=((7:Nat):Int)from rfl,iq _ _ s t (f+8) 7 (by omega) 0 0 rfl rfl,aX rfl]
 rw [show((7:Nat):Int)-1=((6:Nat):Int)from rfl,iq _ _ s t (f+7) 6 (by omega) 0 0 rfl rfl,aX rfl]
 rw [show((6:Nat):Int)-1=((5:Nat):Int)from rfl,iq _ _ s t (f+6) 5 (by omega) 0 0 rfl rfl,aX rfl]
 rw [show((5:Nat):Int)-1=((4:Nat):Int)from rfl,iq _ _ s t (f+5) 4 (by omega) 0 0 rfl rfl,aX rfl]
 rw [show((4:Nat):Int)-1=((3:Nat):Int)from rfl,iq _ _ s t (f+4) 3 (by omega) 0 0 rfl rfl,aX rfl]
 rw [show((3:Nat):Int)-1=((2:Nat):Int)from rfl,iq _ _ s t (f+3) 2 (by omega) 0 0 rfl rfl,aX rfl]
 rw [show((2:Nat):Int)-1=((1:Nat):Int)from rfl,iq _ _ s t (f+2) 1 (by omega) _ _ rfl rfl]
 by_cases h1:((p/4294967296:Nat):Int)=((q/4294967296:Nat):Int)
 ·rw [aX h1,show((1:Nat):Int)-1=((0:Nat):Int)from rfl,iq _ _ s t (f+1) 0 (by omega) _ _ rfl rfl]
  by_cases h0:((p%4294967296:Nat):Int)=((q%4294967296:Nat):Int)
  ·rw [aX h0]
   unfold li
   rw [aM (by decide)]
   congr 1
   symm
   rw [FK];omega
  ·rw [aM h0]
   congr 1
   apply jG
   simp only [kI];omega
 ·rw [aM h1]
  congr 1
  apply jG
  simp only [kI];omega
variable{y:Int}
theorem OV(hx:x.natAbs≤9223372036854775808)(hy:y.natAbs≤9223372036854775808):my (lv x) (lv y)=some (lv (x+y)):=by
 unfold my lv
 rw [TR (by omega) (by omega)]
 simp only [ba]
 by_cases h:(decide (x<0)==decide (y<0))=true
 ·have hs:decide (y<0)=decide (x<0):=(eq_of_beq h).symm
  have hne:(decide (x<0) !=decide (y<0))=false:=by rw [hs];simp
  rw [hne]
  simp only [fZ,d9,ba]
  rw [hs,Zi (by omega) (by omega)]
  congr 2
  ·congr 1
   have:(decide (x<0)=true↔decide (y<0)=true):=by rw [hs]
   simp only [kI]at this
   omega
  ·apply jG
   have:(decide (x<0)=true↔decide (y<0)=true):=by rw [hs]
   simp only [kI]at this
   simp only [lX,kI]
   omega
 ·have hb:(decide (x<0)==decide (y<0))=false:=by simpa using h
  have hne:(decide (x<0) !=decide (y<0))=true:=by simp only [bne,hb];rfl
  rw [hne]
  simp only [eK,ba]
  have hxy: ¬(x<0↔y<0):=by
   intro hi
   have:decide (x<0)=decide (y<0):=by simp only [Ck];exact hi
   rw [this]at hb;simp at hb
  by_cases hlt:x.natAbs<y.natAbs
  ·rw [aX (by simpa using hlt)]
   have hb' :(decide (y<0)==decide (x<0))=false:=by
    cases q1:decide (x<0)<;>cases q2:decide (y<0)<;>simp_all
   rw [V4 (by omega) (by omega) _ _ hb']
   congr 2
   ·congr 1;omega
   ·apply jG
    simp only [lX,kI]
    omega
  ·rw [aM (by simpa using hlt)]
   rw [V4 (by omega) (by omega) _ _ hb]
   congr 2
   ·congr 1;omega
   ·apply jG
    simp only [lX,kI]
    omega
theorem Fw(m:Nat)(b:Bool)(e e1 e2 e3:Int):fc ⟨jF m,b⟩ e e1 e2 e3 (8-4) 4=fc ⟨jF m,b⟩ e e1 e2 e3 0 8:=by
 have step: ∀k i,(jF m)[i]? =some 0→fc ⟨jF m,b⟩ e e1 e2 e3 (k+1) i=fc ⟨jF m,b⟩ e e1 e2 e3 k (i+1):=by
  intro k i h
  conv=>lhs;unfold fc
  rw [bW]
  simp only [h,ba]
  rw [aM (by decide)]
 show fc _ _ _ _ _ (3+1) 4=_
 rw [step 3 4 rfl]
 show fc _ _ _ _ _ (2+1) 5=_
 rw [step 2 5 rfl]
 show fc _ _ _ _ _ (1+1) 6=_
 rw [step 1 6 rfl]
 show fc _ _ _ _ _ (0+1) 7=_
 rw [step 0 7 rfl]
theorem YV:(2:Int)^(min (Int.toNat (32:Int)) IntKind.u64.bits)=((4294967296:Nat):Int):=by
 have:(2:Int)^(min (Int.toNat (32:Int)) IntKind.u64.bits)=4294967296:=by decide
 rw [this];rfl
theorem xT(d e:Nat)(hd:d<4294967296)(he:e<4294967296):IntKind.u64.wrap (IntKind.u64.wrap ((d:Int)*2^(min (Int.toNat (32:Int)) IntKind.u64.bits))+(e:Int))=((d*4294967296+e:Nat):Int):=by
 have e0:(2:Int)^(min (Int.toNat (32:Int)) IntKind.u64.bits)=((4294967296:Nat):Int):=YV
 rw [e0,←wR,qc (by omega),←Ai,qc (by omega)]
variable{a:ac}
theorem Ld(h:z.natAbs<340282366920938463463374607431768211456): ∃n,iA (lv z)=some (n,decide (r64 z))∧(r64 z→n=z):=by
 unfold iA vK lv
 generalize hm:z.natAbs=m at h ⊢
 have i3:cR (jF m) 3=some ((m/79228162514264337593543950336%4294967296:Nat):Int):=rfl
 have i2:cR (jF m) 2=some ((m/18446744073709551616%4294967296:Nat):Int):=rfl
 have i1:cR (jF m) 1=some ((m/4294967296%4294967296:Nat):Int):=rfl
 have i0:cR (jF m) 0=some ((m%4294967296:Nat):Int):=rfl
 simp only [i3,i2,i1,i0,ba]
 rw [Fw]
 unfold fc
 rw [xT _ _ (uH _ (by decide)) (uH _ (by decide)),xT _ _ (uH _ (by decide)) (uH _ (by decide))]
 have hhi:m/79228162514264337593543950336%4294967296*4294967296+m/18446744073709551616%4294967296=m/18446744073709551616:=by omega
 have hlo:m/4294967296%4294967296*4294967296+m%4294967296=m%18446744073709551616:=by
  have:=Nat.mod_mul (x:=m) (a:=4294967296) (b:=4294967296)
  rw [show 4294967296*4294967296=18446744073709551616 from rfl]at this
  rw [this,Nat.mul_comm,Nat.add_comm]
 rw [hhi,hlo]
 have bhi:m/18446744073709551616<18446744073709551616:=by omega
 have blo:m%18446744073709551616<18446744073709551616:=uH _ (by decide)
 have hsplit:m=m/18446744073709551616*18446744073709551616+m%18446744073709551616:=by omega
 generalize m/18446744073709551616=hi at bhi hsplit ⊢
 generalize m%18446744073709551616=lo at blo hsplit ⊢
 by_cases hz:z<0
 ·have hzm:z= -(m:Int):=by omega
  have hm0:0<m:=by omega
  rw [aX (by simpa using hz),xD blo,xD bhi]
  have ew:IntKind.u64.wrap (((18446744073709551615-lo:Nat):Int)+1)=(((18446744073709551616-lo)%18446744073709551616:Nat):Int):=by rw [tG];omega
  have eh:IntKind.u64.wrap (((18446744073709551615-hi:Nat):Int)+1)=(((18446744073709551616-hi)%18446744073709551616:Nat):Int):=by rw [tG];omega
  rw [ew,eh]
  unfold lj
  simp only [hz,Cj]
  by_cases hl0:lo=0
  ·subst hl0
   rw [aX (by decide)]
   simp only [ba]
   refine⟨IntKind.i64.wrap (((18446744073709551616-0)%18446744073709551616:Nat):Int),?_,fun hr=>?_⟩
   ·congr 2
    have hnr: ¬r64 z:=by unfold r64;omega
    have e0:IntKind.i64.wrap (((18446744073709551616-0)%18446744073709551616:Nat):Int)=0:=by decide
    rw [e0]
    have hne:(IntKind.i64.wrap (((18446744073709551616-hi)%18446744073709551616:Nat):Int)==0)=false:=by
     simp only [beq_eq_false_iff_ne,pE]
     rw [vu];omega
    rw [hne]
    simp [hnr]
   ·unfold r64 at hr;omega
  ·rw [aM (by simp;omega)]
   simp only [ba]
   have e0:IntKind.i64.wrap (((18446744073709551616-lo)%18446744073709551616:Nat):Int)=if lo≤9223372036854775808 then -(lo:Int)else 18446744073709551616-(lo:Int):=by
    rw [vu];split<;>omega
   refine⟨IntKind.i64.wrap (((18446744073709551616-lo)%18446744073709551616:Nat):Int),?_,fun hr=>?_⟩
   ·congr 2
    apply jG
    rw [e0]
    simp only [lX,p9,sx,kI]
    rw [vu]
    unfold r64
    constructor
    ·rintro⟨h1,h2⟩
     split at h2<;>omega
    ·intro h1
     have:hi=0:=by omega
     subst this
     have:lo≤9223372036854775808:=by omega
     rw [aX this]
     refine⟨by omega,.inr ⟨by omega,by omega⟩⟩
   ·rw [e0]
    unfold r64 at hr
    have:hi=0:=by omega
    subst this
    rw [aX (by omega)];omega
 ·have hzm:z=(m:Int):=by omega
  rw [aM (by simpa using hz)]
  unfold lj
  simp only [hz,decide_false,ba]
  have e0:IntKind.i64.wrap (lo:Int)=if lo≤9223372036854775807 then(lo:Int)else(lo:Int)-18446744073709551616:=by
   rw [vu];split<;>omega
  refine⟨IntKind.i64.wrap (lo:Int),?_,fun hr=>?_⟩
  ·congr 2
   apply jG
   rw [e0]
   simp only [lX,p9,sx,kI,FK]
   rw [vu]
   unfold r64
   constructor
   ·rintro⟨h1,h2⟩
    split at h2<;>omega
   ·intro h1
    have:hi=0:=by omega
    subst this
    rw [aX (by omega)]
    refine⟨by omega,.inl ⟨by omega,by omega⟩⟩
  ·rw [e0]
   unfold r64 at hr
   rw [aX (by omega)];omega

theorem vB(aa bb ds:List Int)(s t o:Bool)(nx:Nat→eF→Option eF)(i k j:Nat)(hij:i+j<8)(p e3 e4 c:Nat)(h1:ds[i+j]? =some (p:Int))(h2:aa[i]? =some (e3:Int))(h3:bb[j]? =some (e4:Int))(b1:p<4294967296)(b2:e3<4294967296)(b3:e4<4294967296)(b4:c<4294967296):
  jd ⟨aa,s⟩ ⟨bb,t⟩ nx i (k+1) j (c:Int) ⟨ds,o⟩=jd ⟨aa,s⟩ ⟨bb,t⟩ nx i k (j+1) (((p+e3*e4+c)/4294967296:Nat):Int) ⟨ds.set (i+j) (((p+e3*e4+c)%4294967296:Nat):Int),o⟩:=by
 conv=>lhs;unfold jd
 have hm:e3*e4≤4294967295*4294967295:=wv (by omega) (by omega)
 have hw:IntKind.i64.wrap ((i:Int)+(j:Int))=((i+j:Nat):Int):=by rw [cv (by omega) (by omega)];omega
 rw [hw,T0 hij,bW,h1,bW,h2,bW,h3]
 simp only [ba]
 rw [←wR,qc (n:=e3*e4) (by omega),←Ai,qc (n:=p+e3*e4) (by omega),←Ai,qc (n:=p+e3*e4+c) (by omega),wk,DY]
 rfl
theorem Pg(aa bb:eF)(ds:List Int)(o:Bool)(nx:Nat→eF→Option eF)(i j:Nat)(hi:i<4)(c:Int):jd aa bb nx i 0 j c ⟨ds,o⟩=nx (i+1) ⟨ds.set (i+4) c,o⟩:=by
 conv=>lhs;unfold jd
 have hw:IntKind.i64.wrap ((i:Int)+(4:Int))=((i+4:Nat):Int):=by rw [cv (by omega) (by omega)];omega
 rw [hw,T0 (by omega)]
 rfl
theorem xP(aa bb ds:List Int)(s t o:Bool)(nx:Nat→eF→Option eF)(i:Nat)(hi:i<4)(x y0 y1 p0 p1 p2 p3:Nat)(ha:aa[i]? =some (x:Int))(h0:bb[0]? =some (y0:Int))(h1:bb[1]? =some (y1:Int))(h2:bb[2]? =some 0)(h3:bb[3]? =some 0)
  (q0:ds[i]? =some (p0:Int))(q1:ds[i+1]? =some (p1:Int))(q2:ds[i+2]? =some (p2:Int))(q3:ds[i+3]? =some (p3:Int))(bx:x<4294967296)(by0:y0<4294967296)(by1:y1<4294967296)(b0:p0<4294967296)(b1:p1<4294967296)(b2:p2<4294967296)(b3:p3<4294967296)
  (c1 c2 c3 c4:Nat)(e1:c1=(p0+x*y0+0)/4294967296)(e2:c2=(p1+x*y1+c1)/4294967296)(e3:c3=(p2+x*0+c2)/4294967296)(e4:c4=(p3+x*0+c3)/4294967296):
  jd ⟨aa,s⟩ ⟨bb,t⟩ nx i 4 0 0 ⟨ds,o⟩=nx (i+1) ⟨((((ds.set i (((p0+x*y0+0)%4294967296:Nat):Int)).set (i+1) (((p1+x*y1+c1)%4294967296:Nat):Int)).set (i+2) (((p2+x*0+c2)%4294967296:Nat):Int)).set (i+3) (((p3+x*0+c3)%4294967296:Nat):Int)).set (i+4) ((c4:Nat):Int),o⟩:=by
 have m0:x*y0≤4294967295*4294967295:=wv (by omega) (by omega)
 have m1:x*y1≤4294967295*4294967295:=wv (by omega) (by omega)
 have k1:c1<4294967296:=by omega
 have k2:c2<4294967296:=by omega
 have k3:c3<4294967296:=by omega
 rw [show(0:Int)=((0:Nat):Int)from rfl,vB aa bb ds s t o nx i 3 0 (by omega) p0 x y0 0 q0 ha h0 b0 bx by0 (by omega),←e1]
 rw [vB aa bb _ s t o nx i 2 1 (by omega) p1 x y1 c1 (by rw [Gl (by omega)];exact q1) ha h1 b1 bx by1 k1,←e2]
 rw [vB aa bb _ s t o nx i 1 2 (by omega) p2 x 0 c2 (by rw [Gl (by omega),Gl (by omega)];exact q2) ha h2 b2 bx (by omega) k2,←e3]
 rw [vB aa bb _ s t o nx i 0 3 (by omega) p3 x 0 c3 (by rw [Gl (by omega),Gl (by omega),Gl (by omega)];exact q3) ha h3 b3 bx (by omega) k3,←e4]
 rw [Pg _ _ _ _ _ _ _ hi]
 rfl
theorem ZX(m:Nat):jF m=[((m%4294967296:Nat):Int),((m/4294967296%4294967296:Nat):Int),((m/4294967296/4294967296%4294967296:Nat):Int),((m/4294967296/4294967296/4294967296%4294967296:Nat):Int),0,0,0,0]:=by
 unfold jF
 rw [I0,I0]
theorem LK{p0 p1 q0 q1:Nat}(hp0:p0<4294967296)(hp1:p1<4294967296)(hq0:q0<4294967296)(hq1:q1<4294967296)(s t:Bool)(m:Nat)(hm:m=(p1*4294967296+p0)*(q1*4294967296+q0))(hlt:m<340282366920938463463374607431768211456):
  eY ⟨[(p0:Int),(p1:Int),0,0,0,0,0,0],s⟩ ⟨[(q0:Int),(q1:Int),0,0,0,0,0,0],t⟩ 4 0 ⟨List.replicate 8 0,false⟩=some ⟨jF m,(s !=t)&&decide (m≠0)⟩:=by
 have hA:p0*q0≤4294967295*4294967295:=wv (by omega) (by omega)
 have hC:p0*q1≤4294967295*4294967295:=wv (by omega) (by omega)
 have hD:p1*q0≤4294967295*4294967295:=wv (by omega) (by omega)
 have hE:p1*q1≤4294967295*4294967295:=wv (by omega) (by omega)
 have hme:m=4294967296*(4294967296*(p1*q1)+p1*q0+p0*q1)+p0*q0:=by
  rw [hm]
  simp only [um,Nat.mul_add]
  have h1:p1*4294967296*(q1*4294967296)=4294967296*(4294967296*(p1*q1)):=by
   rw [Nat.mul_mul_mul_comm,Nat.mul_comm (p1*q1),Nat.mul_assoc]
  have h2:p1*4294967296*q0=4294967296*(p1*q0):=by rw [Nat.mul_right_comm,Nat.mul_comm]
  have h3:p0*(q1*4294967296)=4294967296*(p0*q1):=by rw [←Nat.mul_assoc,Nat.mul_comm]
  rw [h1,h2,h3];omega
 obtain⟨c1,e1⟩: ∃c,c=(0+p0*q0+0)/4294967296:=⟨_,rfl⟩
 obtain⟨c2,e2⟩: ∃c,c=(0+p0*q1+c1)/4294967296:=⟨_,rfl⟩
 have k1:c1<4294967296:=by omega
 have k2:c2<4294967296:=by omega
 obtain⟨d1,f1⟩: ∃c,c=(0+p0*q1+c1)%4294967296:=⟨_,rfl⟩
 have l1:d1<4294967296:=by omega
 obtain⟨c3,e3⟩: ∃c,c=(d1+p1*q0+0)/4294967296:=⟨_,rfl⟩
 have k3:c3<4294967296:=by omega
 obtain⟨c4,e4⟩: ∃c,c=(c2+p1*q1+c3)/4294967296:=⟨_,rfl⟩
 have k4:c4<4294967296:=by omega
 obtain⟨d0,f0⟩: ∃c,c=(0+p0*q0+0)%4294967296:=⟨_,rfl⟩
 obtain⟨g1,f2⟩: ∃c,c=(d1+p1*q0+0)%4294967296:=⟨_,rfl⟩
 obtain⟨g2,f3⟩: ∃c,c=(c2+p1*q1+c3)%4294967296:=⟨_,rfl⟩
 have l0:d0<4294967296:=by omega
 have l2:g1<4294967296:=by omega
 have l3:g2<4294967296:=by omega
 have z: ∀x:Nat,0+x*0+0=0:=fun x=>by omega
 -- row 0
 conv=>lhs;unfold eY
 rw [xP _ _ _ s t false _ 0 (by omega) p0 q0 q1 0 0 0 0 rfl rfl rfl rfl rfl rfl rfl rfl rfl hp0 hq0 hq1 (by omega) (by omega) (by omega) (by omega) c1 c2 0 0 e1 e2 (by omega) (by omega)]
 rw [←f0,←f1,show(0+p0*0+c2)%4294967296=c2 from by omega,show(0+p0*0+0)%4294967296=0 from by omega]
 show eY _ _ 3 1 ⟨[(d0:Int),(d1:Int),(c2:Int),0,0,0,0,0],false⟩=_
 -- row 1
 conv=>lhs;unfold eY
 rw [xP _ _ _ s t false _ 1 (by omega) p1 q0 q1 d1 c2 0 0 rfl rfl rfl rfl rfl rfl rfl rfl rfl hp1 hq0 hq1 l1 k2 (by omega) (by omega) c3 c4 0 0 e3 e4 (by omega) (by omega)]
 rw [←f2,←f3,show(0+p1*0+c4)%4294967296=c4 from by omega,show(0+p1*0+0)%4294967296=0 from by omega]
 show eY _ _ 2 2 ⟨[(d0:Int),(g1:Int),(g2:Int),(c4:Int),0,0,0,0],false⟩=_
 -- row 2
 conv=>lhs;unfold eY
 rw [xP _ _ _ s t false _ 2 (by omega) 0 q0 q1 g2 c4 0 0 rfl rfl rfl rfl rfl rfl rfl rfl rfl (by omega) hq0 hq1 l3 k4 (by omega) (by omega) 0 0 0 0 (by omega) (by omega) (by omega) (by omega)]
 rw [show(g2+0*q0+0)%4294967296=g2 from by omega,show(c4+0*q1+0)%4294967296=c4 from by omega]
 show eY _ _ 1 3 ⟨[(d0:Int),(g1:Int),(g2:Int),(c4:Int),0,0,0,0],false⟩=_
 -- row 3
 conv=>lhs;unfold eY
 rw [xP _ _ _ s t false _ 3 (by omega) 0 q0 q1 c4 0 0 0 rfl rfl rfl rfl rfl rfl rfl rfl rfl (by omega) hq0 hq1 k4 (by omega) (by omega) (by omega) 0 0 0 0 (by omega) (by omega) (by omega) (by omega)]
 rw [show(c4+0*q0+0)%4294967296=c4 from by omega,show(0+0*q1+0)%4294967296=0 from by omega]
 show eY _ _ 0 4 ⟨[(d0:Int),(g1:Int),(g2:Int),(c4:Int),0,0,0,0],false⟩=_
 have hd:[(d0:Int),(g1:Int),(g2:Int),(c4:Int),0,0,0,0]=jF m:=by
  rw [ZX]
  generalize p0*q0=A at*
  generalize p0*q1=C at*
  generalize p1*q0=D at*
  generalize p1*q1=E at*
  have r1:m/4294967296=4294967296*E+D+C+c1:=by omega
  have r2:m/4294967296/4294967296=c2+E+c3:=by rw [r1];omega
  have r3:m/4294967296/4294967296/4294967296=c4:=by rw [r2];omega
  have w0:m%4294967296=d0:=by omega
  have w1:(4294967296*E+D+C+c1)%4294967296=g1:=by omega
  have w2:(c2+E+c3)%4294967296=g2:=f3.symm
  have w3:c4%4294967296=c4:=by omega
  rw [r3,r2,r1,w0,w1,w2,w3]
 rw [hd]
 unfold eY
 cases hst:(s !=t)with
 |false=>rfl
 |true=>
  simp only [eK]
  rw [DM hlt]
  simp
theorem SF(hx:x.natAbs≤9223372036854775808)(hy:y.natAbs≤9223372036854775808):tW (lv x) (lv y)=some (lv (x*y)):=by
 have hpr:=JR x y
 have hna:(x*y).natAbs=x.natAbs*y.natAbs:=Int.natAbs_mul x y
 have hle:x.natAbs*y.natAbs≤9223372036854775808*9223372036854775808:=wv hx hy
 unfold tW lv
 rw [vh (m:=x.natAbs) (by omega),vh (m:=y.natAbs) (by omega)]
 rw [LK (m:=x.natAbs*y.natAbs) (by omega) (by omega) (by omega) (by omega) _ _ (by congr 1<;>omega) (by omega)]
 rw [hna]
 congr 2
 apply jG
 simp only [lX,kI]
 generalize x.natAbs*y.natAbs=m at*
 generalize (decide (x<0) !=decide (y<0))=b at*
 rw [hpr]
 cases b with
 |true=>simp only [eK,true_and];omega
 |false=>simp only [fZ,d9,false_and];constructor;exact False.elim;omega

theorem ZA(a b:Int):cR [a,b,0,0,0,0,0,0] 1=some b:=rfl
theorem ZB(a b:Int):cR [a,b,0,0,0,0,0,0] 0=some a:=rfl
theorem Zh(a b:Int):((List.replicate 8 (0:Int)).set 0 a).set 1 b=[a,b,0,0,0,0,0,0]:=rfl
theorem Pq(p0 p1 q0 q1:Nat)(s t:Bool)(hp0:p0<4294967296)(hp1:p1<4294967296)(hq0:q0<4294967296)(hq1:q1<4294967296)(p q:Nat)(hp:p1*4294967296+p0=p)(hq:q1*4294967296+q0=q)(h0:q≠0):
  nK ⟨[(p0:Int),(p1:Int),0,0,0,0,0,0],s⟩ ⟨[(q0:Int),(q1:Int),0,0,0,0,0,0],t⟩=some ⟨jF (p/q),(s !=t)&&(((p/q:Nat):Int) !=0)⟩:=by
 unfold nK
 rw [ZA,ZB,ZA,ZB]
 rw [ba,ba,ba,ba]
 rw [xT _ _ hp1 hp0,xT _ _ hq1 hq0,hp,hq]
 have hn:nz (q:Int)=some ():=by
  unfold nz
  rw [aM (by omega)]
 have hle:p/q≤p:=Nat.div_le_self _ _
 have ht:((p:Nat):Int).tdiv (q:Int)=((p/q:Nat):Int):=rfl
 rw [hn,ba,ht,qc (by omega),DY,wk,Zh,vh (by omega)]
theorem Lg(hx:x.natAbs≤9223372036854775808)(hy:y.natAbs≤9223372036854775808)(h0:y≠0):nK (lv x) (lv y)=some (lv (x.tdiv y)):=by
 have hq:=JP x y
 have hna:(x.tdiv y).natAbs=x.natAbs/y.natAbs:=Int.natAbs_tdiv x y
 unfold lv
 rw [vh (m:=x.natAbs) (by omega),vh (m:=y.natAbs) (by omega)]
 rw [Pq _ _ _ _ _ _ (by omega) (by omega) (by omega) (by omega) x.natAbs y.natAbs (by omega) (by omega) (by omega),hna]
 generalize x.natAbs/y.natAbs=m at*
 have hf:((decide (x<0) !=decide (y<0))&&((m:Int) !=0))=decide (x.tdiv y<0):=by
  apply jG
  rw [hq]
  generalize (decide (x<0) !=decide (y<0))=b
  cases b with
  |true=>simp only [uE,qT,pE,kI,eK];omega
  |false=>simp only [DC,fZ,d9,kI,false_iff];omega
 rw [hf]
variable{r:cA}{v:ac}
theorem xS(h:z.natAbs<340282366920938463463374607431768211456):((iA (lv z)).bind fun r=>if(!r.2)=true then some (zV,(140:Int))else(jZ r.1).bind fun v=>some (v,(0:Int)))=some (if r64 z then(iV z,0)else(zV,140)):=by
 obtain⟨n,h1,h2⟩:=Ld h
 rw [h1]
 simp only [ba]
 by_cases hr:r64 z
 ·rw [aX hr,h2 hr,aM (by simp [hr])];rfl
 ·rw [aM hr,aX (by simp [hr])]
theorem Ny(v:ac)(h:fF v=true):o6 v=some ((v.Kind==0)||(v.Kind==2)):=by
 unfold o6
 rw [fQ,h];rfl
theorem zd(h:r64 x):x.natAbs≤9223372036854775808:=by unfold r64 at h;omega
variable{tag:Int}
theorem OR(h: ¬((a.Kind=0∨a.Kind=2)∧(b.Kind=0∨b.Kind=2))):wC tag a b=(zV,2):=aM h
theorem Sz(h:(a.Kind=0∨a.Kind=2)∧(b.Kind=0∨b.Kind=2))(h2:a.Kind=0∨b.Kind=0):wC tag a b=(zV,0):=by
 unfold wC
 rw [aX h,aX h2]
theorem VK(ht:tag=12∨tag=13∨tag=14∨tag=15)(ha:Pl a)(hb:Pl b)(h:(a.Kind=0∨a.Kind=2)∧(b.Kind=0∨b.Kind=2))(h2: ¬(a.Kind=0∨b.Kind=0)):wC tag a b=FV tag a.N b.N:=by
 unfold wC
 rw [aX h,aM h2,VM ht ha.r64 hb.r64]
def Zk(tag:Int):Int:=if tag=12 then 43 else if tag=13 then 45 else if tag=14 then 42 else 47
theorem ab8(hx:r64 x)(hy:r64 y):((fG x).bind fun r4=>(fG y).bind fun r5=>(my r4 r5).bind fun r6=>(iA r6).bind fun r7=>if(!r7.2)=true then some (zV,(140:Int))else(jZ r7.1).bind fun r8=>some (r8,(0:Int)))=some (FV 12 x y):=by
 rw [i8 hx,i8 hy,ba,ba,OV (zd hx) (zd hy),ba,pi (Wk _ _)]
 have:=zd hx
 have:=zd hy
 exact xS (by omega)
theorem ab7(hx:r64 x)(hy:r64 y):((fG x).bind fun r9=>(fG y).bind fun r10=>(rR r10).bind fun r11=>(my r9 r11).bind fun r12=>(iA r12).bind fun r13=>if(!r13.2)=true then some (zV,(140:Int))else(jZ r13.1).bind fun r14=>some (r14,(0:Int)))=some (FV 13 x y):=by
 have h1:=zd hx
 have h2:=zd hy
 rw [i8 hx,i8 hy,ba,ba,PZ (by omega),ba,OV h1 (by rw [Int.natAbs_neg];exact h2),ba,pi (Wj _ _),←Int.sub_eq_add_neg]
 exact xS (by omega)
theorem ab6(hx:r64 x)(hy:r64 y):((fG x).bind fun r15=>(fG y).bind fun r16=>(tW r15 r16).bind fun r17=>(iA r17).bind fun r18=>if(!r18.2)=true then some (zV,(140:Int))else(jZ r18.1).bind fun r19=>some (r19,(0:Int)))=some (FV 14 x y):=by
 have h1:=zd hx
 have h2:=zd hy
 rw [i8 hx,i8 hy,ba,ba,SF h1 h2,ba,pi (Wi _ _)]
 have h3:x.natAbs*y.natAbs≤85070591730234615865843651857942052864:=wv h1 h2
 exact xS (by rw [Int.natAbs_mul];omega)
theorem ab5(hx:r64 x)(hy:r64 y)(h0:y≠0):((fG x).bind fun r20=>(fG y).bind fun r21=>(nK r20 r21).bind fun r22=>(iA r22).bind fun r23=>if(!r23.2)=true then some (zV,(140:Int))else(jZ r23.1).bind fun r24=>some (r24,(0:Int)))=some (FV 15 x y):=by
 have h1:=zd hx
 have h2:=zd hy
 rw [i8 hx,i8 hy,ba,ba,Lg h1 h2 h0,ba,pi (z:=x.tdiv y) (by rw [Oy,aM h0])]
 have h3:(x.tdiv y).natAbs=x.natAbs/y.natAbs:=Int.natAbs_tdiv _ _
 have h4:x.natAbs/y.natAbs≤x.natAbs:=Nat.div_le_self _ _
 exact xS (by omega)
theorem WN(ht:tag=12∨tag=13∨tag=14∨tag=15)(ha:Pl a)(hb:Pl b):iH (Zk tag) a b=some (wC tag a b):=by
 have hra:=ha.r64
 have hrb:=hb.r64
 unfold iH
 rw [fQ,fQ,ha.right,hb.right,Ny a ha.right,Ny b hb.right]
 rw [ba,aX (by decide),ba,ba,aM (by decide),ba,ba]
 by_cases h1:a.Kind=0∨a.Kind=2
 ·have e1:((a.Kind==0)||(a.Kind==2))=true:=by simpa using h1
  rw [e1,aX (by decide)]
  by_cases h2:b.Kind=0∨b.Kind=2
  ·have e2:((b.Kind==0)||(b.Kind==2))=true:=by simpa using h2
   rw [e2,ba,aM (by decide)]
   by_cases h3:a.Kind=0∨b.Kind=0
   ·rw [Sz ⟨h1,h2⟩ h3,aX (by simpa using h3)];rfl
   ·rw [VK ht ha hb ⟨h1,h2⟩ h3,aM (by simpa using h3)]
    rcases ht with rfl|rfl|rfl|rfl
    ·rw [aX (by decide)]
     exact ab8 hra hrb
    ·rw [aM (by decide),aX (by decide)]
     exact ab7 hra hrb
    ·rw [aM (by decide),aM (by decide),aX (by decide)]
     exact ab6 hra hrb
    ·rw [aM (by decide),aM (by decide),aM (by decide)]
     by_cases h0:b.N=0
     ·rw [aX (by simpa using h0),GE (by rw [Oy,aX h0])];rfl
     ·rw [aM (by simpa using h0)]
      exact ab5 hra hrb h0
  ·have e2:((b.Kind==0)||(b.Kind==2))=false:=by simpa using h2
   rw [e2,ba,aX (by decide),OR (fun h=>h2 h.2)];rfl
 ·have e1:((a.Kind==0)||(a.Kind==2))=false:=by simpa using h1
  rw [e1,aM (by decide),ba,aX (by decide),OR (fun h=>h1 h.1)];rfl

variable{α:Type}{xs:List α}
theorem GR{s:wF}{x:UInt8}{xs:List UInt8}(h:s.drop i=x::xs):PD s (i:Int)=some (x.toNat:Int):=by
 unfold PD
 rw [bW]
 have:s[i]? =some x:=by
  have h2:(s.drop i)[0]? =some x:=by rw [h];rfl
  rw [wM]at h2
  exact h2
 rw [this];rfl
theorem G4{s:List α}{x:α}(h:s.drop i=x::xs):s.drop (i+1)=xs:=by
 rw [←pD,h];rfl
theorem Yt(a b:ac): ∀(xs ys:List UInt8) (i n:Nat),a.S.drop i=xs→b.S.drop i=ys→a.S.length=i+xs.length→b.S.length=i+ys.length→xs.length<n→a.S.length≤100000→lL a b n (i:Int)=some (Lib.compareBytes xs ys):=by
 intro xs
 induction xs with
 |nil=>
  intro ys i n h1 h2 l1 l2 hn _
  obtain⟨m,rfl⟩: ∃m,n=m+1:=⟨n-1,by simp at hn;omega⟩
  simp only [oC,wG]at l1
  unfold lL
  have e1:decide ((i:Int)<(a.S.length:Int))=false:=by simp;omega
  rw [e1,DC,aM (by decide)]
  cases ys with
  |nil=>
   simp only [oC,wG]at l2
   rw [aM (by simp;omega)];rfl
  |cons y ys=>
   simp only [gX]at l2
   rw [aX (by simp;omega),aX (by simp;omega)];rfl
 |cons x xs ih=>
  intro ys i n h1 h2 l1 l2 hn hl
  obtain⟨m,rfl⟩: ∃m,n=m+1:=⟨n-1,by simp at hn;omega⟩
  simp only [gX]at l1 hn
  unfold lL
  have e1:decide ((i:Int)<(a.S.length:Int))=true:=by simp;omega
  rw [e1,uE]
  cases ys with
  |nil=>
   simp only [oC,wG]at l2
   rw [aM (by simp;omega),aX (by simp;omega),aM (by simp;omega)];rfl
  |cons y ys=>
   simp only [gX]at l2
   rw [aX (by simp;omega),GR h1,GR h2]
   simp only [ba]
   unfold Lib.compareBytes
   by_cases h:x=y
   ·subst h
    have hlt: ¬x<x:=by rw [Nq];omega
    rw [aM (by simp),aM hlt,aM hlt,cv (by omega) (by omega)]
    exact ih ys (i+1) m (G4 h1) (G4 h2) (by omega) (by omega) (by omega) hl
   ·have hne:x.toNat≠y.toNat:=fun hh=>h (UInt8.toNat_inj.1 hh)
    rw [aX (by simp;omega)]
    by_cases hlt:x<y
    ·have:=Nq.1 hlt
     rw [aX hlt,aX (by simp;omega)]
    ·have h3: ¬x.toNat<y.toNat:=fun hh=>hlt (Nq.2 hh)
     have h4:y<x:=Nq.2 (by omega)
     rw [aM hlt,aX h4,aM (by simp;omega)]
theorem Pl.short(h:Pl v):v.S.length≤40:=by
 cases h with
 |z=>simp [zV]
 |b b=>simp [bV]
 |i n h=>simp [iV]
 |s s h=>exact h
def sg(x y:Int):Int:=if x<y then -1 else if y<x then 1 else 0
theorem M0(x y:Int):iD x y=some (sg x y):=by
 unfold iD nm sg
 simp only [yR,ba,fZ,d9,kI]
 by_cases h1:x<y
 ·rw [aX h1,aX h1]
 ·rw [aM h1,aM h1]
  by_cases h2:y<x
  ·rw [aX h2,aX h2]
  ·rw [aM h2,aM h2]
theorem IK(x y:Int):gw x y=some (sg x y):=by
 unfold gw kN sg
 simp only [yR,ba,fZ,d9,kI]
 by_cases h1:x<y
 ·rw [aX h1,aX h1]
 ·rw [aM h1,aM h1]
  by_cases h2:y<x
  ·rw [aX h2,aX h2]
  ·rw [aM h2,aM h2]
theorem VB(x y z:Int):mK [x,y,z]=some (if x≠0 then x else if y≠0 then y else z):=by
 unfold mK fW fW fW fW
 by_cases h1:x=0<;>by_cases h2:y=0<;>by_cases h3:z=0<;>simp [h1,h2,h3]
theorem IL(ha:Pl a)(hb:Pl b):Ff a b=if sg a.Kind b.Kind≠0 then sg a.Kind b.Kind else if sg a.N b.N≠0 then sg a.N b.N else Lib.compareBytes a.S b.S:=by
 unfold Ff lb
 rw [ha.plain_eq,hb.plain_eq,ba,aX (by decide),ba,ba,aM (by decide),M0,IK,ba,ba]
 have:oN a.S b.S=some (Lib.compareBytes a.S b.S):=rfl
 rw [this,ba,VB];rfl
theorem QO(x:Int):sg x x=0:=by unfold sg;rw [aM (by omega),aM (by omega)]
theorem NH(h:x≠y):sg x y=(if x<y then -1 else 1)∧sg x y≠0:=by
 unfold sg
 by_cases h1:x<y
 ·rw [aX h1,aX h1];exact⟨rfl,by decide⟩
 ·rw [aM h1,aM h1,aX (by omega)];exact⟨rfl,by decide⟩
theorem Yw(ha:Pl a)(hb:Pl b)(h:a.Kind≠b.Kind):Ff a b=if a.Kind<b.Kind then -1 else 1:=by
 rw [IL ha hb,aX (NH h).2,(NH h).1]
theorem Yv(ha:Pl a)(hb:Pl b)(h:a.Kind=b.Kind)(h2:a.N≠b.N):Ff a b=if a.N<b.N then -1 else 1:=by
 rw [IL ha hb,h,QO,aM (by decide),aX (NH h2).2,(NH h2).1]
theorem Yu(ha:Pl a)(hb:Pl b)(h:a.Kind=b.Kind)(h2:a.N=b.N):Ff a b=Lib.compareBytes a.S b.S:=by
 rw [IL ha hb,h,QO,aM (by decide),h2,QO,aM (by decide)]
theorem BH(ha:Pl a)(hb:Pl b):oG a b=some (Ff a b):=by
 unfold oG
 rw [je,je,ha.plain,hb.plain,ba,aX (by decide),ba,ba,aM (by decide)]
 by_cases h1:a.Kind=b.Kind
 ·rw [aM (by simpa using h1)]
  by_cases h2:a.N=b.N
  ·rw [aM (by simpa using h2),Yu ha hb h1 h2]
   have h4:=ha.short
   have h5:=mB (n:=41) (by omega)
   exact Yt a b a.S b.S 0 im rfl rfl (by omega) (by omega) (by omega) (by omega)
  ·rw [aX (by simpa using h2),Yv ha hb h1 h2]
   by_cases h3:a.N<b.N
   ·rw [aX h3,aX (by simpa using h3)]
   ·rw [aM h3,aM (by simpa using h3)]
 ·rw [aX (by simpa using h1),Yw ha hb h1]
  by_cases h3:a.Kind<b.Kind
  ·rw [aX h3,aX (by simpa using h3)]
  ·rw [aM h3,aM (by simpa using h3)]
theorem uw(b:Bool):kh b=some (bV b):=by cases b<;>rfl
theorem VF(ha:Pl a)(hb:Pl b):sX a b=some (if a.Kind≠0∧b.Kind≠0∧a.Kind≠b.Kind then 2 else 0):=by
 unfold sX
 rw [fQ,fQ,ha.right,hb.right,ba,aX (by decide),ba,ba,aM (by decide)]
 rw [je,je,ha.plain,hb.plain,ba,aX (by decide),ba,ba]
 by_cases h:a.Kind≠0∧b.Kind≠0∧a.Kind≠b.Kind
 ·rw [aX h,aX (by simp [h])]
 ·rw [aM h,aM (by simp;intro h1 h2;exact Classical.byContradiction fun h3=>h ⟨h1,h2,h3⟩)]
theorem JK(ha:Pl a)(hb:Pl b)(f:Int→Bool):((sX a b).bind fun r=>if(((r !=(0:Int))||(a.Kind==(0:Int)))||(b.Kind==(0:Int)))=true then some ((⟨(0:Int),(0:Int),(0:Int),[]⟩:ac),r)else(oG a b).bind fun r1=>(kh (f r1)).bind fun r2=>some (r2,(0:Int)))=some (ep f a b):=by
 rw [VF ha hb,ba]
 by_cases h0:a.Kind=0∨b.Kind=0
 ·have hne: ¬(a.Kind≠0∧b.Kind≠0∧a.Kind≠b.Kind):=fun h=>h0.elim h.1 h.2.1
  have e:ep f a b=(zV,0):=aX h0
  rw [aM hne,e,aX (by rcases h0 with h|h<;>simp [h])];rfl
 ·have h1:a.Kind≠0:=fun h=>h0 (.inl h)
  have h2:b.Kind≠0:=fun h=>h0 (.inr h)
  by_cases h3:a.Kind=b.Kind
  ·have hne: ¬(a.Kind≠0∧b.Kind≠0∧a.Kind≠b.Kind):=fun h=>h.2.2 h3
   have e:ep f a b=(bV (f (Ff a b)),0):=by unfold ep;rw [aM h0,aX h3]
   rw [aM hne,e,aM (by simp [h1,h2]),BH ha hb,ba,uw];rfl
  ·have hp:a.Kind≠0∧b.Kind≠0∧a.Kind≠b.Kind:=⟨h1,h2,h3⟩
   have e:ep f a b=(zV,2):=by unfold ep;rw [aM h0,aM h3]
   rw [aX hp,e,aX (by simp)];rfl
theorem xh(ha:Pl a)(hb:Pl b):q6 a b=some (ep (fun c=>c==0) a b):=JK ha hb _
theorem qO(ha:Pl a)(hb:Pl b):mz a b=some (ep (fun c=>decide (c<0)) a b):=JK ha hb _
theorem Bz(ha:Pl a)(hb:Pl b):pN a b=some (if a.Kind≤1∧b.Kind≤1 then 0 else 2):=by
 unfold pN
 rw [fQ,fQ,ha.right,hb.right,ba,aX (by decide),ba,ba,aM (by decide)]
 by_cases h:a.Kind≤1∧b.Kind≤1
 ·rw [aX h,aM (by simp;omega)]
 ·rw [aM h,aX (by simp;omega)]
theorem AB(h:Tu a):iQ a=some (F4 a,0):=by
 cases h with
 |z=>rfl
 |b b=>cases b<;>rfl
theorem HY(ha:Tu a)(hb:Tu b):sl a b=some (Fk a b,0):=by
 cases ha with
 |z=>cases hb with
  |z=>rfl
  |b b=>cases b<;>rfl
 |b x=>cases hb with
  |z=>cases x<;>rfl
  |b b=>cases x<;>cases b<;>rfl
theorem JM(ha:Tu a)(hb:Tu b):xg a b=some (SW a b,0):=by
 cases ha with
 |z=>cases hb with
  |z=>rfl
  |b b=>cases b<;>rfl
 |b x=>cases hb with
  |z=>cases x<;>rfl
  |b b=>cases x<;>cases b<;>rfl
theorem HX(ha:Pl a):iQ a=some (if a.Kind≤1 then(F4 a,0)else(zV,2)):=by
 by_cases h:a.Kind≤1
 ·rw [aX h];exact AB ((iK ha).2 h)
 ·rw [aM h]
  unfold iQ
  rw [Bz ha ha,aM (fun k=>h k.1)];rfl
theorem H0(ha:Pl a)(hb:Pl b):sl a b=some (if a.Kind≤1∧b.Kind≤1 then(Fk a b,0)else(zV,2)):=by
 by_cases h:a.Kind≤1∧b.Kind≤1
 ·rw [aX h];exact HY ((iK ha).2 h.1) ((iK hb).2 h.2)
 ·rw [aM h]
  unfold sl
  rw [Bz ha hb,aM h];rfl
theorem JN(ha:Pl a)(hb:Pl b):xg a b=some (if a.Kind≤1∧b.Kind≤1 then(SW a b,0)else(zV,2)):=by
 by_cases h:a.Kind≤1∧b.Kind≤1
 ·rw [aX h];exact JM ((iK ha).2 h.1) ((iK hb).2 h.2)
 ·rw [aM h]
  unfold xg
  rw [Bz ha hb,aM h];rfl
theorem EH{f:Int→Bool}{x y:ac}:((iQ (ep f x y).1).bind fun r=>some (r.1,(ep f x y).2))=some (EI (ep f x y)):=by
 unfold EI
 by_cases h0:(ep f x y).2=0
 ·rw [aX h0,AB (rd f x y h0),ba,h0]
 ·rw [aM h0,BS f x y h0];rfl
theorem FX{k:Nat}(h:pk tag=some k)(hk:k≠0)(ha:Pl a)(hb:Pl b):Ep tag a b=some (BJ tag a b):=by
 have op: ∀t,t=12∨t=13∨t=14∨t=15→iH (Zk t) a b=some (wC t a b):=fun t ht=>WN ht ha hb
 rcases QY h hk with rfl|rfl|rfl|rfl|rfl|rfl|rfl|rfl|rfl|rfl|rfl|rfl|rfl|rfl|rfl|rfl
 ·have h2:iH 45 (iV 0) a=some (wC 13 (iV 0) a):=WN (tag:=13) (.inr (.inl rfl)) (.i 0 ⟨by decide,by decide⟩) ha
  show(iH 45 (iV 0) a).bind _=_
  rw [h2];rfl
 ·show(iQ a).bind _=some (if a.Kind≤1 then(F4 a,0)else(zV,2))
  rw [HX ha];rfl
 ·show(kh (a.Kind==0)).bind _=some (bV (a.Kind==0),0)
  rw [uw];rfl
 ·show(kh (a.Kind !=0)).bind _=some (bV (a.Kind !=0),0)
  rw [uw];rfl
 ·show(iH 43 a b).bind _=some (wC 12 a b)
  rw [show iH 43 a b=some (wC 12 a b)from op 12 (.inl rfl)];rfl
 ·show(iH 45 a b).bind _=some (wC 13 a b)
  rw [show iH 45 a b=some (wC 13 a b)from op 13 (.inr (.inl rfl))];rfl
 ·show(iH 42 a b).bind _=some (wC 14 a b)
  rw [show iH 42 a b=some (wC 14 a b)from op 14 (.inr (.inr (.inl rfl)))];rfl
 ·show(iH 47 a b).bind _=some (wC 15 a b)
  rw [show iH 47 a b=some (wC 15 a b)from op 15 (.inr (.inr (.inr rfl)))];rfl
 ·show((q6 a b).bind fun r=>some (r.1,r.2)).bind _=some (ep (fun c=>c==0) a b)
  rw [xh ha hb];rfl
 ·show((q6 a b).bind fun r=>(iQ r.1).bind fun r4=>some (r4.1,r.2)).bind _=some (EI (ep (fun c=>c==0) a b))
  rw [xh ha hb,ba,EH];rfl
 ·show((mz a b).bind fun r=>some (r.1,r.2)).bind _=some (ep (fun c=>decide (c<0)) a b)
  rw [qO ha hb];rfl
 ·show((mz b a).bind fun r=>(iQ r.1).bind fun r4=>some (r4.1,r.2)).bind _=some (EI (ep (fun c=>decide (c<0)) b a))
  rw [qO hb ha,ba,EH];rfl
 ·show((mz b a).bind fun r=>some (r.1,r.2)).bind _=some (ep (fun c=>decide (c<0)) b a)
  rw [qO hb ha];rfl
 ·show((mz a b).bind fun r=>(iQ r.1).bind fun r4=>some (r4.1,r.2)).bind _=some (EI (ep (fun c=>decide (c<0)) a b))
  rw [qO ha hb,ba,EH];rfl
 ·show(sl a b).bind _=some (if a.Kind≤1∧b.Kind≤1 then(Fk a b,0)else(zV,2))
  rw [H0 ha hb];rfl
 ·show(xg a b).bind _=some (if a.Kind≤1∧b.Kind≤1 then(SW a b,0)else(zV,2))
  rw [JN ha hb];rfl

theorem Xq(h:pk tag=some 1)(a b c:ac):BJ tag a b=BJ tag a c:=by
 have h4:tag=4∨tag=5∨tag=6∨tag=7:=by
  unfold pk at h
  repeat' split at h
  all_goals simp at h
  omega
 rcases h4 with rfl|rfl|rfl|rfl<;>rfl
theorem ZW(h:pk tag=some 1)(a b c:ac):dz tag a b=dz tag a c:=by
 unfold dz
 rw [Xq h a b c]
theorem Fz(nx:List ac→ac→Option (ac×Int))(m:bm)(own:List ac)(x a b:ac){k:Nat}(h:pk m.Tag=some k)(hk:k≠0)(ha:Pl a)(hb:Pl b)(hl:own.length≤60000):qN nx m own x a b=if(dz m.Tag a b).2=0 then nx (own++[(dz m.Tag a b).1]) x else some (dz m.Tag a b):=by
 unfold qN
 rw [FX h hk ha hb,ba]
 rcases vg h hk ha hb with⟨h1,_,h3⟩|⟨h1,h2⟩|⟨h1,h2,_⟩
 ·rw [h3]at h1 ⊢
  rw [aX h1,aM (by simp [h1]),aM (by simp [h1]),bY (by simp;omega)];rfl
 ·rw [h1,h2];rfl
 ·rw [h1,h2];rfl
theorem Pm(r:List ac)(x:ac)(t:Tr):t.wf→SV t→xE r t→ ∀(rest:List bm) (own:List ac),own.length+t.size≤50000→
  ((ev r t).2≠0∧db r (t.flat own.length++rest) own x=some (ev r t))∨
  ((ev r t).2=0∧ ∃w:List ac,w.length+1=t.size∧db r (t.flat own.length++rest) own x=db r rest (own++w++[(ev r t).1]) x):=by
 induction t with
 |lf n=>
  intro⟨h1,h2,h3,h4⟩ hr hc rest own hl
  simp only [Tr.flat,Tr.size,wI,kz]at hl ⊢
  refine .inr ?_
  have e1:(gQ n (-1) (-1)).Tag=n.Tag:=rfl
  have ev0:(ev r (.lf n))=if n.Tag=1 then(n.Value,0)else((r[n.Col.toNat]?).getD zV,0):=rfl
  rcases YN h1 with ht|ht
  ·rw [ev0,aX ht]
   refine⟨rfl,[],rfl,?_⟩
   rw [db]
   rw [e1,aX (by simp [ht]),bY (by simp;omega)]
   simp only [ba,sy]
   rfl
  ·rw [ev0,aM (by simp [ht])]
   refine⟨rfl,[],rfl,?_⟩
   have hb:=MZ h2 ht
   obtain⟨_,v,hv,_⟩:=hc ht
   have e2:(gQ n (-1) (-1)).Col=n.Col:=rfl
   rw [db]
   rw [e1,aM (by simp [ht]),aX (by simp [ht]),e2,gJ n.Col.toNat (by omega),hv]
   simp only [ba,sy,Gh]
   rw [bY (by simp;omega)]
   rfl
 |un n a ih=>
  intro⟨⟨h1,h2,h3,h4⟩,ha⟩ hr hc rest own hl
  have hap:=a.size_pos
  simp only [Tr.flat,Tr.size,jK]at hl ⊢
  obtain⟨m,hm⟩: ∃m,m=gQ n (((own.length+a.size:Nat):Int)-1) (-1):=⟨_,rfl⟩
  rw [←hm]
  rw [OA]
  rcases ih ha hr hc ([m]++rest) own (by omega)with⟨hx,he⟩|⟨hx,w,hw,he⟩
  ·rw [iU hx]
   exact .inl ⟨hx,he⟩
  ·rw [he,m6 hx]
   have hpl:Pl (ev r a).1:=by
    rcases m4 r a ha hr hc with⟨_,h⟩|h|h
    ·exact h
    ·rw [h]at hx;cases hx
    ·rw [h]at hx;cases hx
   generalize (ev r a).1=v at hpl ⊢
   simp only [wI,kz]
   have e1:m.Tag=n.Tag:=by rw [hm];rfl
   have eL:m.L=((own.length+a.size:Nat):Int)-1:=by rw [hm];rfl
   have eR:m.R= -1:=by rw [hm];rfl
   have n1:n.Tag≠1:=fun h=>by rw [h]at h1;simp [pk]at h1
   have n2:n.Tag≠2:=fun h=>by rw [h]at h1;simp [pk]at h1
   have hstep:db r (m::rest) (own++w++[v]) x=if(dz n.Tag v v).2=0 then db r rest (own++w++[v]++[(dz n.Tag v v).1]) x else some (dz n.Tag v v):=by
    rw [db]
    rw [e1,aM (by simpa using n1),aM (by simpa using n2)]
    rw [eL,eR,gJ (own++w).length (by simp;omega),tH (dn _),zj]
    simp only [FL,ba]
    rw [aM (by decide),show(⟨0,0,0,[]⟩:ac)=zV from rfl,Fz _ m _ x v zV (by rw [e1];exact h1) (by decide) hpl .z (by simp;omega),e1,ZW h1 v _ v]
   rw [hstep]
   by_cases hb:(dz n.Tag v v).2=0
   ·rw [aX hb]
    exact .inr ⟨hb,w++[v],by simp;omega,by simp⟩
   ·rw [aM hb]
    exact .inl ⟨hb,rfl⟩
 |bi n a b iha ihb=>
  intro⟨⟨h1,h2,h3,h4⟩,ha,hb⟩ ⟨hra,hrb⟩ ⟨hca,hcb⟩ rest own hl
  have hap:=a.size_pos
  have hbp:=b.size_pos
  simp only [Tr.flat,Tr.size,jK]at hl ⊢
  obtain⟨m,hm⟩: ∃m,m=gQ n (((own.length+a.size:Nat):Int)-1) (((own.length+a.size+b.size:Nat):Int)-1):=⟨_,rfl⟩
  rw [←hm]
  rw [OB]
  rcases iha ha hra hca (b.flat (own.length+a.size)++([m]++rest)) own (by omega)with⟨hx,he⟩|⟨hx,w,hw,he⟩
  ·rw [iU hx]
   exact .inl ⟨hx,he⟩
  ·rw [he,m6 hx]
   have hpl:Pl (ev r a).1:=by
    rcases m4 r a ha hra hca with⟨_,h⟩|h|h
    ·exact h
    ·rw [h]at hx;cases hx
    ·rw [h]at hx;cases hx
   generalize (ev r a).1=v at hpl ⊢
   have hl2:(own++w++[v]).length=own.length+a.size:=by simp;omega
   rw [←hl2]
   rcases ihb hb hrb hcb ([m]++rest) (own++w++[v]) (by rw [hl2];omega)with⟨hy,he2⟩|⟨hy,w2,hw2,he2⟩
   ·rw [iU hy]
    exact .inl ⟨hy,he2⟩
   ·rw [he2,m6 hy]
    have hpl2:Pl (ev r b).1:=by
     rcases m4 r b hb hrb hcb with⟨_,h⟩|h|h
     ·exact h
     ·rw [h]at hy;cases hy
     ·rw [h]at hy;cases hy
    generalize (ev r b).1=u at hpl2 ⊢
    simp only [wI,kz]
    have e1:m.Tag=n.Tag:=by rw [hm];rfl
    have eL:m.L=((own.length+a.size:Nat):Int)-1:=by rw [hm];rfl
    have eR:m.R=((own.length+a.size+b.size:Nat):Int)-1:=by rw [hm];rfl
    have n1:n.Tag≠1:=fun h=>by rw [h]at h1;simp [pk]at h1
    have n2:n.Tag≠2:=fun h=>by rw [h]at h1;simp [pk]at h1
    have hstep:db r (m::rest) (own++w++[v]++w2++[u]) x=if(dz n.Tag v u).2=0 then db r rest (own++w++[v]++w2++[u]++[(dz n.Tag v u).1]) x else some (dz n.Tag v u):=by
     rw [db]
     rw [e1,aM (by simpa using n1),aM (by simpa using n2)]
     rw [eL,eR,gJ (own++w).length (by simp;omega)]
     have g1:(own++w++[v]++w2++[u])[(own++w).length]? =some v:=by
      rw [jK,jK,tH (dn _),zj];rfl
     rw [g1]
     simp only [ba]
     rw [aX (by rw [kI];omega),gJ (own++w++[v]++w2).length (by simp;omega)]
     have g2:(own++w++[v]++w2++[u])[(own++w++[v]++w2).length]? =some u:=by
      rw [tH (dn _),zj];rfl
     rw [g2]
     simp only [ba]
     rw [Fz _ m _ x v u (by rw [e1];exact h1) (by decide) hpl hpl2 (by simp;omega),e1]
    rw [hstep]
    by_cases hb:(dz n.Tag v u).2=0
    ·rw [aX hb]
     exact .inr ⟨hb,w++[v]++w2++[u],by simp;omega,by simp⟩
    ·rw [aM hb]
     exact .inl ⟨hb,rfl⟩
theorem zf(e:bK)(r:List ac)(x:ac): ∀ns:List bm,(∀n∈ns,n.Tag=2→0≤n.Col)→qM e r ns x=if tk r ns then db r e.Nodes [] x else some (zV,2)
 |[],_=>rfl
 |n::ns,hc=>by
  unfold qM
  rw [zf e r x ns fun m hm=>hc m (ky _ hm)]
  have hcons:tk r (n::ns)=((!(n.Tag==2)||yN r n.Col)&&tk r ns):=rfl
  rw [hcons]
  by_cases ht:n.Tag=2
  ·have h0:=hc n (kE ..) ht
   have e0:(n.Tag==2)=true:=by simp [ht]
   rw [e0,aX rfl]
   by_cases h:(r.length:Int)≤n.Col
   ·have hb:yN r n.Col=false:=by unfold yN;rw [Bool.and_eq_false_iff];left;simp;omega
    simp [h,hb,zV]
   ·have hlt:n.Col.toNat<r.length:=by omega
    have e1:cR r n.Col=some r[n.Col.toNat]:=by rw [gJ n.Col.toNat (by omega),ox hlt]
    have hb:yN r n.Col=mA r[n.Col.toNat]:=by
     unfold yN
     rw [ox hlt]
     have:decide (n.Col<(r.length:Int))=true:=by simp;omega
     rw [this];rfl
    rw [aX (by simpa using h),e1,hb]
    simp only [ba,je]
    cases mA r[n.Col.toNat]<;>simp [zV]
  ·have e0:(n.Tag==2)=false:=by simp [ht]
   rw [e0]
   simp
theorem FY(e:bK)(r:List ac)(he:JI e.Nodes)(hr:Tp r):zD e r=some (oB r e.Nodes):=by
 unfold zD oB
 rw [xe e,ba]
 cases ht:mn e.Nodes with
 |none=>
  have:jM e.Nodes=false:=by unfold jM;rw [ht];rfl
  rw [this,aX (by decide)];rfl
 |some t=>
  have:jM e.Nodes=true:=by unfold jM;rw [ht];rfl
  rw [this,aM (by decide)]
  obtain⟨hw,hN,hs⟩:=jT ht
  rw [zf e r _ e.Nodes (fun n hn h2=>(DW hw 0 (by rw [←hN];exact hn) h2).1)]
  cases hc:tk r e.Nodes with
  |false=>rfl
  |true=>
   simp only [eK]
   have hct:=vX hr t hw 0 (by rw [←hN];exact hc)
   have hrt:=AA t 0 (by rw [←hN];exact he)
   have h:=Pm r zV t hw hrt hct [] [] (by simp;omega)
   rw [sy,oC,←hN]at h
   rcases h with⟨_,h2⟩|⟨h1,w,h2,h3⟩
   ·exact h2
   ·have h4:db r e.Nodes [] zV=some (ev r t):=by
     rw [h3]
     unfold db
     rw [kz,gJ w.length (by rw [cv (by simp<;>omega) (by simp<;>omega)];simp),tH (dn _),zj]
     show some ((ev r t).1,(0:Int))=_
     rw [←h1]
    exact h4

theorem A9(h:m<79228162514264337593543950336):jF m=[((m%4294967296:Nat):Int),((m/4294967296%4294967296:Nat):Int),((m/18446744073709551616:Nat):Int),0,0,0,0,0]:=by
 unfold jF
 rw [Co (show m/18446744073709551616<4294967296 by omega),Nat.div_eq_of_lt h]
 rfl
theorem Sv(P Q c:Nat)(h:c≤1):(P+Q+c)/4294967296=P/4294967296+Q/4294967296+(P%4294967296+Q%4294967296+c)/4294967296∧(P+Q+c)%4294967296=(P%4294967296+Q%4294967296+c)%4294967296:=by omega
theorem OP(P Q c:Nat)(h:Q+c≤P)(hc:c≤1):(P-Q-c)/4294967296=P/4294967296-Q/4294967296-(1-(P%4294967296+4294967296-Q%4294967296-c)/4294967296)∧(P-Q-c)%4294967296=(P%4294967296+4294967296-Q%4294967296-c)%4294967296∧Q/4294967296+(1-(P%4294967296+4294967296-Q%4294967296-c)/4294967296)≤P/4294967296∧1-(P%4294967296+4294967296-Q%4294967296-c)/4294967296≤1:=by omega
theorem abN(P Q c:Nat)(h:Q+c≤P)(hc:c≤1)(hP:P<2147483648):(P+4294967296-Q-c)%4294967296=P-Q-c:=by omega
variable{l:List cA}
theorem Xr(hp:p<39614081257132168796771975168)(hq:q<39614081257132168796771975168)(s:Bool):hM ⟨jF p,s⟩ ⟨jF q,s⟩=some ⟨jF (p+q),s&&decide (p+q≠0)⟩:=by
 have dp:p/4294967296/4294967296=p/18446744073709551616:=by rw [I0]
 have dq:q/4294967296/4294967296=q/18446744073709551616:=by rw [I0]
 have ds:(p+q)/4294967296/4294967296=(p+q)/18446744073709551616:=by rw [I0]
 have hd:jF (p+q)=[(((p%4294967296+q%4294967296+0)%4294967296:Nat):Int),(((p/4294967296%4294967296+q/4294967296%4294967296+(p%4294967296+q%4294967296+0)/4294967296)%4294967296:Nat):Int),(((p/18446744073709551616+q/18446744073709551616+(p/4294967296%4294967296+q/4294967296%4294967296+(p%4294967296+q%4294967296+0)/4294967296)/4294967296)%4294967296:Nat):Int),0,0,0,0,0]:=by
  rw [A9 (by omega)]
  have b1:p/18446744073709551616<2147483648:=by omega
  have b2:q/18446744073709551616<2147483648:=by omega
  obtain⟨e1,e0⟩:=Sv p q 0 (by decide)
  rw [wG]at e1 e0
  rw [←ds,e1,e0,←dp,←dq]
  rw [←dp]at b1
  rw [←dq]at b2
  obtain⟨e2,e3⟩:=Sv (p/4294967296) (q/4294967296) ((p%4294967296+q%4294967296+0)/4294967296) (by clear ds dp dq e1 e0;omega)
  rw [e2,e3]
  have l:=Nat.div_le_div_right (c:=4294967296) (show p/4294967296%4294967296+q/4294967296%4294967296+(p%4294967296+q%4294967296+0)/4294967296≤8589934591 by omega)
  rw [show 8589934591/4294967296=1 from rfl]at l
  have ll:=Nat.add_le_add (Nat.add_le_add (Nat.le_of_lt_succ b1) (Nat.le_of_lt_succ b2)) l
  rw [Co (Nat.lt_of_le_of_lt ll (by decide))]
 have rD:=hd
 rw [A9 (m:=p) (by omega),A9 (m:=q) (by omega)]
 unfold hM
 generalize hp0:p%4294967296=p0 at rD ⊢
 generalize hp1:p/4294967296%4294967296=p1 at rD ⊢
 generalize hp2:p/18446744073709551616=p2 at rD ⊢
 generalize hq0:q%4294967296=q0 at rD ⊢
 generalize hq1:q/4294967296%4294967296=q1 at rD ⊢
 generalize hq2:q/18446744073709551616=q2 at rD ⊢
 have c1:(p0+q0+0)/4294967296≤1:=by omega
 generalize hc:(p0+q0+0)/4294967296=c at rD c1 ⊢
 have c2:(p1+q1+c)/4294967296≤1:=by omega
 generalize hcc:(p1+q1+c)/4294967296=cc at rD c2 ⊢
 have c3:(p2+q2+cc)/4294967296=0:=by omega
 rw [show((0:Int))=((0:Nat):Int)from rfl]
 rw [io _ _ _ s s 7 0 (by omega) p0 q0 0 rfl rfl (by omega) (by omega) (by omega),hc]
 rw [io _ _ _ s s 6 1 (by omega) p1 q1 c rfl rfl (by omega) (by omega) (by omega),hcc]
 rw [io _ _ _ s s 5 2 (by omega) p2 q2 cc rfl rfl (by omega) (by omega) (by omega),c3]
 rw [io _ _ _ s s 4 3 (by omega) 0 0 0 rfl rfl (by omega) (by omega) (by omega)]
 rw [show(0+0+0)/4294967296=0 from rfl]
 rw [io _ _ _ s s 3 4 (by omega) 0 0 0 rfl rfl (by omega) (by omega) (by omega)]
 rw [show(0+0+0)/4294967296=0 from rfl]
 rw [io _ _ _ s s 2 5 (by omega) 0 0 0 rfl rfl (by omega) (by omega) (by omega)]
 rw [show(0+0+0)/4294967296=0 from rfl]
 rw [io _ _ _ s s 1 6 (by omega) 0 0 0 rfl rfl (by omega) (by omega) (by omega)]
 rw [show(0+0+0)/4294967296=0 from rfl]
 rw [io _ _ _ s s 0 7 (by omega) 0 0 0 rfl rfl (by omega) (by omega) (by omega)]
 have he:=AD ⟨[(p0:Int),(p1:Int),(p2:Int),0,0,0,0,0],s⟩ ⟨[(q0:Int),(q1:Int),(q2:Int),0,0,0,0,0],s⟩ (7+1) (((0+0+0)/4294967296:Nat):Int) (p+q) (by omega) s
 rw [rD]at he
 rw [rD]
 exact he
theorem QX(hp:p<39614081257132168796771975168)(hq:q≤p)(s u:Bool)(hsu:(s==u)=false):hM ⟨jF p,s⟩ ⟨jF q,u⟩=some ⟨jF (p-q),s&&decide (p-q≠0)⟩:=by
 have dp:p/4294967296/4294967296=p/18446744073709551616:=by rw [I0]
 have dq:q/4294967296/4294967296=q/18446744073709551616:=by rw [I0]
 have ds:(p-q)/4294967296/4294967296=(p-q)/18446744073709551616:=by rw [I0]
 have hd:jF (p-q)=[(((p%4294967296+4294967296-q%4294967296-0)%4294967296:Nat):Int),(((p/4294967296%4294967296+4294967296-q/4294967296%4294967296-(1-(p%4294967296+4294967296-q%4294967296-0)/4294967296))%4294967296:Nat):Int),(((p/18446744073709551616+4294967296-q/18446744073709551616-(1-(p/4294967296%4294967296+4294967296-q/4294967296%4294967296-(1-(p%4294967296+4294967296-q%4294967296-0)/4294967296))/4294967296))%4294967296:Nat):Int),0,0,0,0,0]:=by
  rw [A9 (by omega)]
  have b1:p/18446744073709551616<2147483648:=by omega
  obtain⟨e1,e0,le,l1⟩:=OP p q 0 hq (by decide)
  rw [Nat.sub_zero]at e1 e0
  rw [←ds,e1,e0,←dp,←dq]
  rw [←dp]at b1
  obtain⟨e2,e3,le2,l2⟩:=OP (p/4294967296) (q/4294967296) (1-(p%4294967296+4294967296-q%4294967296-0)/4294967296) le l1
  rw [e2,e3]
  rw [abN _ _ _ le2 l2 b1]
 have rD:=hd
 rw [A9 (m:=p) (by omega),A9 (m:=q) (by omega)]
 unfold hM
 have hge:(p/18446744073709551616+4294967296-q/18446744073709551616-(1-(p/4294967296%4294967296+4294967296-q/4294967296%4294967296-(1-(p%4294967296+4294967296-q%4294967296-0)/4294967296))/4294967296))/4294967296=1:=by omega
 generalize hp0:p%4294967296=p0 at rD hge ⊢
 generalize hp1:p/4294967296%4294967296=p1 at rD hge ⊢
 generalize hp2:p/18446744073709551616=p2 at rD hge ⊢
 generalize hq0:q%4294967296=q0 at rD hge ⊢
 generalize hq1:q/4294967296%4294967296=q1 at rD hge ⊢
 generalize hq2:q/18446744073709551616=q2 at rD hge ⊢
 have c1:1-(p0+4294967296-q0-0)/4294967296≤1:=by omega
 generalize hc:1-(p0+4294967296-q0-0)/4294967296=c at rD hge c1 ⊢
 have c2:1-(p1+4294967296-q1-c)/4294967296≤1:=by omega
 generalize hcc:1-(p1+4294967296-q1-c)/4294967296=cc at rD hge c2 ⊢
 rw [show((0:Int))=((0:Nat):Int)from rfl]
 rw [ip _ _ _ s u s hsu 7 0 (by omega) p0 q0 0 rfl rfl (by omega) (by omega) (by omega),hc]
 rw [ip _ _ _ s u s hsu 6 1 (by omega) p1 q1 c rfl rfl (by omega) (by omega) (by omega),hcc]
 rw [ip _ _ _ s u s hsu 5 2 (by omega) p2 q2 cc rfl rfl (by omega) (by omega) (by omega),hge]
 rw [show 1-1=0 from rfl]
 rw [ip _ _ _ s u s hsu 4 3 (by omega) 0 0 0 rfl rfl (by omega) (by omega) (by omega)]
 rw [show 1-(0+4294967296-0-0)/4294967296=0 from rfl]
 rw [ip _ _ _ s u s hsu 3 4 (by omega) 0 0 0 rfl rfl (by omega) (by omega) (by omega)]
 rw [show 1-(0+4294967296-0-0)/4294967296=0 from rfl]
 rw [ip _ _ _ s u s hsu 2 5 (by omega) 0 0 0 rfl rfl (by omega) (by omega) (by omega)]
 rw [show 1-(0+4294967296-0-0)/4294967296=0 from rfl]
 rw [ip _ _ _ s u s hsu 1 6 (by omega) 0 0 0 rfl rfl (by omega) (by omega) (by omega)]
 rw [show 1-(0+4294967296-0-0)/4294967296=0 from rfl]
 rw [ip _ _ _ s u s hsu 0 7 (by omega) 0 0 0 rfl rfl (by omega) (by omega) (by omega)]
 have he:=AD ⟨[(p0:Int),(p1:Int),(p2:Int),0,0,0,0,0],s⟩ ⟨[(q0:Int),(q1:Int),(q2:Int),0,0,0,0,0],u⟩ (7+1) ((1-(0+4294967296-0-0)/4294967296:Nat):Int) (p-q) (by omega) s
 rw [rD]at he
 rw [rD]
 exact he
theorem Zq(hp:p<39614081257132168796771975168)(hq:q<39614081257132168796771975168)(s t:Bool):sW ⟨jF p,s⟩ ⟨jF q,t⟩=some (decide (p<q)):=by
 rw [A9 (m:=p) (by omega),A9 (m:=q) (by omega)]
 unfold sW
 obtain⟨f,hf⟩: ∃f,im=f+9:=⟨im-9,by have:=mB (n:=9) (by omega);omega⟩
 rw [hf]
 rw [show(7:Int)=((7:Nat):Int)from rfl,iq _ _ s t (f+8) 7 (by omega) 0 0 rfl rfl,aX rfl]
 rw [show((7:Nat):Int)-1=((6:Nat):Int)from rfl,iq _ _ s t (f+7) 6 (by omega) 0 0 rfl rfl,aX rfl]
 rw [show((6:Nat):Int)-1=((5:Nat):Int)from rfl,iq _ _ s t (f+6) 5 (by omega) 0 0 rfl rfl,aX rfl]
 rw [show((5:Nat):Int)-1=((4:Nat):Int)from rfl,iq _ _ s t (f+5) 4 (by omega) 0 0 rfl rfl,aX rfl]
 rw [show((4:Nat):Int)-1=((3:Nat):Int)from rfl,iq _ _ s t (f+4) 3 (by omega) 0 0 rfl rfl,aX rfl]
 rw [show((3:Nat):Int)-1=((2:Nat):Int)from rfl,iq _ _ s t (f+3) 2 (by omega) _ _ rfl rfl]
 by_cases h2:((p/18446744073709551616:Nat):Int)=((q/18446744073709551616:Nat):Int)
 ·rw [aX h2,show((2:Nat):Int)-1=((1:Nat):Int)from rfl,iq _ _ s t (f+2) 1 (by omega) _ _ rfl rfl]
  by_cases h1:((p/4294967296%4294967296:Nat):Int)=((q/4294967296%4294967296:Nat):Int)
  ·rw [aX h1,show((1:Nat):Int)-1=((0:Nat):Int)from rfl,iq _ _ s t (f+1) 0 (by omega) _ _ rfl rfl]
   by_cases h0:((p%4294967296:Nat):Int)=((q%4294967296:Nat):Int)
   ·rw [aX h0]
    unfold li
    rw [aM (by decide)]
    congr 1
    symm
    rw [FK];omega
   ·rw [aM h0]
    congr 1
    apply jG
    simp only [kI];omega
  ·rw [aM h1]
   congr 1
   apply jG
   simp only [kI];omega
 ·rw [aM h2]
  congr 1
  apply jG
  simp only [kI];omega
theorem SI(hx:x.natAbs<39614081257132168796771975168)(hy:y.natAbs<39614081257132168796771975168):my (lv x) (lv y)=some (lv (x+y)):=by
 unfold my lv
 rw [Zq hx hy]
 simp only [ba]
 by_cases h:(decide (x<0)==decide (y<0))=true
 ·have hs:decide (y<0)=decide (x<0):=(eq_of_beq h).symm
  have hne:(decide (x<0) !=decide (y<0))=false:=by rw [hs];simp
  rw [hne]
  simp only [fZ,d9,ba]
  rw [hs,Xr hx hy]
  congr 2
  ·congr 1
   have:(decide (x<0)=true↔decide (y<0)=true):=by rw [hs]
   simp only [kI]at this
   omega
  ·apply jG
   have:(decide (x<0)=true↔decide (y<0)=true):=by rw [hs]
   simp only [kI]at this
   simp only [lX,kI]
   omega
 ·have hb:(decide (x<0)==decide (y<0))=false:=by simpa using h
  have hne:(decide (x<0) !=decide (y<0))=true:=by simp only [bne,hb];rfl
  rw [hne]
  simp only [eK,ba]
  have hxy: ¬(x<0↔y<0):=by
   intro hi
   have:decide (x<0)=decide (y<0):=by simp only [Ck];exact hi
   rw [this]at hb;simp at hb
  by_cases hlt:x.natAbs<y.natAbs
  ·rw [aX (by simpa using hlt)]
   have hb' :(decide (y<0)==decide (x<0))=false:=by
    cases q1:decide (x<0)<;>cases q2:decide (y<0)<;>simp_all
   rw [QX hy (by omega) _ _ hb']
   congr 2
   ·congr 1;omega
   ·apply jG
    simp only [lX,kI]
    omega
  ·rw [aM (by simpa using hlt)]
   rw [QX hx (by omega) _ _ hb]
   congr 2
   ·congr 1;omega
   ·apply jG
    simp only [lX,kI]
    omega
def o4(z:Int):ac:=⟨4,z/18446744073709551616,z%18446744073709551616,[]⟩
def AH(z:Int):Prop:=z.natAbs<1208925819614629174706176
theorem Hh(m:Nat)(h:m<79228162514264337593543950336)(b:Bool):nL ((m/18446744073709551616:Nat):Int) ((m%18446744073709551616:Nat):Int) ⟨List.replicate 8 0,b⟩=some ⟨jF m,b⟩:=by
 rw [A9 h]
 unfold nL
 rw [DY,wk,DY,wk]
 have e1:m%18446744073709551616%4294967296=m%4294967296:=by omega
 have e2:m%18446744073709551616/4294967296=m/4294967296%4294967296:=by omega
 have e3:m/18446744073709551616%4294967296=m/18446744073709551616:=by omega
 have e4:m/18446744073709551616/4294967296=0:=by omega
 rw [e1,e2,e3,e4]
 rfl
theorem SJ(h:AH z):q5 (o4 z).N (o4 z).U=some (lv z):=by
 unfold AH at h
 unfold q5 o4 lv
 simp only []
 by_cases hz:z<0
 ·rw [aX (by rw [kI];omega),wH hz]
  obtain⟨u,hu⟩:=DH (show 0≤z%18446744073709551616 by omega)
  have hul:u<18446744073709551616:=by omega
  have hn:IntKind.u64.wrap (z/18446744073709551616)=((18446744073709551616-(-(z/18446744073709551616)).toNat:Nat):Int):=by rw [tG];omega
  rw [hu,xD hul,hn,xD (by omega)]
  have elow:IntKind.u64.wrap (((18446744073709551615-u:Nat):Int)+1)=((z.natAbs%18446744073709551616:Nat):Int):=by rw [tG];omega
  rw [elow]
  have:=Hh z.natAbs (by omega) true
  by_cases hl:z.natAbs%18446744073709551616=0
  ·rw [aX (by rw [hl];rfl)]
   have ehigh:IntKind.u64.wrap (((18446744073709551615-(18446744073709551616-(-(z/18446744073709551616)).toNat):Nat):Int)+1)=((z.natAbs/18446744073709551616:Nat):Int):=by rw [tG];omega
   rw [ehigh]
   exact this
  ·rw [aM (by rw [sx];omega)]
   have ehigh:((18446744073709551615-(18446744073709551616-(-(z/18446744073709551616)).toNat):Nat):Int)=((z.natAbs/18446744073709551616:Nat):Int):=by omega
   rw [ehigh]
   exact this
 ·rw [aM (by rw [kI];omega),ww hz]
  have e1:z%18446744073709551616=((z.natAbs%18446744073709551616:Nat):Int):=by omega
  have e2:IntKind.u64.wrap (z/18446744073709551616)=((z.natAbs/18446744073709551616:Nat):Int):=by rw [tG];omega
  rw [e1,e2]
  exact Hh z.natAbs (by omega) false
theorem ND(h:AH z):xZ (lv z)=some (o4 z,0):=by
 unfold AH at h
 unfold xZ vK lv o4
 generalize hm:z.natAbs=m at h ⊢
 have i3:cR (jF m) 3=some ((m/79228162514264337593543950336%4294967296:Nat):Int):=rfl
 have i2:cR (jF m) 2=some ((m/18446744073709551616%4294967296:Nat):Int):=rfl
 have i1:cR (jF m) 1=some ((m/4294967296%4294967296:Nat):Int):=rfl
 have i0:cR (jF m) 0=some ((m%4294967296:Nat):Int):=rfl
 simp only [i3,i2,i1,i0,ba]
 rw [Fw]
 unfold fc
 rw [xT _ _ (uH _ (by decide)) (uH _ (by decide)),xT _ _ (uH _ (by decide)) (uH _ (by decide))]
 have hhi:m/79228162514264337593543950336%4294967296*4294967296+m/18446744073709551616%4294967296=m/18446744073709551616:=by omega
 have hlo:m/4294967296%4294967296*4294967296+m%4294967296=m%18446744073709551616:=by
  have:=Nat.mod_mul (x:=m) (a:=4294967296) (b:=4294967296)
  rw [show 4294967296*4294967296=18446744073709551616 from rfl]at this
  rw [this,Nat.mul_comm,Nat.add_comm]
 rw [hhi,hlo]
 have bhi:m/18446744073709551616<18446744073709551616:=by omega
 have blo:m%18446744073709551616<18446744073709551616:=uH _ (by decide)
 by_cases hz:z<0
 ·rw [aX (by simpa using hz),xD blo,xD bhi]
  have ew:IntKind.u64.wrap (((18446744073709551615-m%18446744073709551616:Nat):Int)+1)=z%18446744073709551616:=by rw [tG];omega
  rw [ew]
  unfold lj
  simp only [hz,Cj]
  by_cases hl0:z%18446744073709551616=0
  ·rw [aX (by rw [hl0];rfl)]
   have eh:IntKind.i64.wrap (IntKind.u64.wrap (((18446744073709551615-m/18446744073709551616:Nat):Int)+1))=z/18446744073709551616:=by rw [vu,tG];omega
   rw [eh,wH (show z/18446744073709551616<0 by omega)]
   rfl
  ·rw [aM (by simpa using hl0)]
   have eh:IntKind.i64.wrap ((18446744073709551615-m/18446744073709551616:Nat):Int)=z/18446744073709551616:=by rw [vu];omega
   rw [eh,wH (show z/18446744073709551616<0 by omega)]
   rfl
 ·rw [aM (by simpa using hz)]
  unfold lj
  simp only [hz,decide_false]
  have eh:IntKind.i64.wrap ((m/18446744073709551616:Nat):Int)=z/18446744073709551616:=by rw [vu];omega
  have el:((m%18446744073709551616:Nat):Int)=z%18446744073709551616:=by omega
  rw [eh,el,ww (show¬z/18446744073709551616<0 by omega)]
  rfl
theorem xY(z:Int):fF (o4 z)=true:=by unfold fF dH o4;rfl
theorem FW(h:fF v=true)(hk:v.Kind=2)(hr:r64 v.N):sk zV v=some (o4 v.N,0):=by
 unfold sk qZ o6
 have hz:fF zV=true:=rfl
 simp only [fQ,h,hz,ba,mi,Bs,eK,fZ,d9,uE]
 have e1:(zV.Kind==0)=true:=rfl
 have e2:(v.Kind==0)=false:=by rw [hk];rfl
 have e3:(v.Kind==2)=true:=by rw [hk];rfl
 simp only [e1,e2,e3,Bool.true_or,Bool.or_true,mi,fZ,d9,eK]
 have hs:AH v.N:=by unfold r64 at hr;unfold AH;omega
 rw [i8 hr,ba,ND hs]
 rfl
theorem HV(h:fF v=true)(hk:v.Kind=2)(hr:r64 v.N)(hz:AH z)(hz2:AH (z+v.N)):sk (o4 z) v=some (o4 (z+v.N),0):=by
 unfold sk qZ o6
 simp only [fQ,h,xY,ba,mi,Bs,eK,fZ,d9,uE]
 have e1:((o4 z).Kind==0)=false:=rfl
 have e4:((o4 z).Kind==4)=true:=rfl
 have e2:(v.Kind==0)=false:=by rw [hk];rfl
 have e3:(v.Kind==2)=true:=by rw [hk];rfl
 simp only [e1,e2,e3,e4,Bool.or_true,mi,fZ,d9,eK]
 have hx:z.natAbs<39614081257132168796771975168:=by unfold AH at hz;omega
 have hy:v.N.natAbs<39614081257132168796771975168:=by unfold r64 at hr;omega
 rw [i8 hr,SJ hz,ba,ba,SI hx hy,ba,ND hz2]
 rfl
theorem JL(h:AH z):uW (o4 z)=some (if r64 z then(iV z,0)else(zV,140)):=by
 unfold uW qZ
 simp only [fQ,xY,ba,mi,fZ,d9,uE]
 have e1:((o4 z).Kind==0)=false:=rfl
 have e4:((o4 z).Kind==4)=true:=rfl
 simp only [e1,e4,Bool.or_true,mi,fZ,d9]
 obtain⟨n,h1,h2⟩:=Ld (z:=z) (by unfold AH at h;omega)
 rw [SJ h,ba,h1,ba]
 by_cases hr:r64 z
 ·rw [aX hr,wH hr,aM (by simp),h2 hr]
  rfl
 ·rw [aM hr,ww hr]
  rfl
theorem HW:uW zV=some (zV,0):=rfl
theorem Fi{kind:Int}(h:fF v=true)(hk:v.Kind=0∨v.Kind=kind):pq kind [v]=some 0:=by
 unfold pq jQ jQ
 rw [nG,h]
 simp only [eK,ba]
 rw [aM (by decide),aM]
 simp
 omega
theorem Hz(hr:r64 v.N):qF v=some (o4 v.N):=by
 unfold r64 at hr
 unfold qF o4
 have e:(2:Int)^(min (Int.toNat (63:Int)) IntKind.i64.bits)=9223372036854775808:=by decide
 rw [e,tG]
 congr 2
 rw [Int.fdiv_eq_ediv_of_nonneg _ (by decide)]
 omega
theorem QW(hx:AH x)(hy:AH y)(hs:AH (x+y)):vZ (o4 x) (o4 y)=some (o4 (x+y),0):=by
 unfold AH at hx hy hs
 unfold vZ o4 Lb
 simp only []
 rw [aX (by omega),ba]
 simp only []
 rw [aX (by rw [tG,tG];omega),ba]
 simp only []
 have eh:IntKind.i64.wrap ((IntKind.u64.wrap (x/18446744073709551616)+IntKind.u64.wrap (y/18446744073709551616)+(x%18446744073709551616+y%18446744073709551616+0)/18446744073709551616)%18446744073709551616)=(x+y)/18446744073709551616:=by
  rw [vu,tG,tG]
  omega
 rw [eh]
 have rx:r64 (x/18446744073709551616):=by unfold r64;omega
 have ry:r64 (y/18446744073709551616):=by unfold r64;omega
 have rs:r64 ((x+y)/18446744073709551616):=by unfold r64;omega
 obtain⟨a1,a2⟩:=xM rx rs
 obtain⟨b1,b2⟩:=xM ry rs
 rw [IP a2 b2,a1,b1]
 have hno:((decide (x/18446744073709551616<0) !=decide ((x+y)/18446744073709551616<0))&&(decide (y/18446744073709551616<0) !=decide ((x+y)/18446744073709551616<0)))=false:=by
  rw [rn]
  intro h
  simp only [lX,qT,pE,Ck]at h
  omega
 have el:(x%18446744073709551616+y%18446744073709551616+0)%18446744073709551616=(x+y)%18446744073709551616:=by omega
 rw [hno,aM (by simp),el]
theorem Qa(h:fF v=true)(hk:v.Kind=2)(hr:r64 v.N):sv zV v=some (o4 v.N,0):=by
 unfold sv
 rw [Fi (v:=zV) rfl (.inl rfl),Fi h (.inr hk),ba,ba,aM (by decide),aM (by decide),aM (by rw [hk];decide),aX (by rfl),Hz hr]
 rfl
theorem SG(h:fF v=true)(hk:v.Kind=2)(hr:r64 v.N)(hz:AH z)(hz2:AH (z+v.N)):sv (o4 z) v=some (o4 (z+v.N),0):=by
 unfold sv
 have hs:AH v.N:=by unfold r64 at hr;unfold AH;omega
 rw [Fi (kind:=4) (xY z) (.inr rfl),Fi h (.inr hk),ba,ba,aM (by decide),aM (by decide),aM (by rw [hk];decide),aM (by show¬((4:Int)==0)=true;decide),Hz hr,ba,QW hz hs hz2]
 rfl
theorem VW(h:AH z):yq (o4 z)=some (if r64 z then(iV z,0)else(zV,140)):=by
 unfold AH at h
 unfold yq
 rw [Fi (kind:=4) (xY z) (.inr rfl),ba,aM (by decide),aM (by show¬((4:Int)==0)=true;decide)]
 have e:oe (IntKind.i64.wrap (o4 z).U)=some (iV (IntKind.i64.wrap (z%18446744073709551616))):=rfl
 have hw:r64 (IntKind.i64.wrap (z%18446744073709551616)):=oH _
 rw [e,ba,Hz (v:=iV (IntKind.i64.wrap (z%18446744073709551616))) hw,ba]
 by_cases hr:r64 z
 ·have:IntKind.i64.wrap (z%18446744073709551616)=z:=by unfold r64 at hr;rw [vu];omega
  rw [aX hr,this,aX (by simp [iV])]
 ·rw [aM hr,aM]
  ·rfl
  ·intro hh
   have hh:=I6 hh
   unfold o4 iV at hh
   simp only [ac.mk.injEq,true_and,and_true]at hh
   refine hr ?_
   have h1:=hh.1
   unfold r64 at hw ⊢
   generalize IntKind.i64.wrap (z%18446744073709551616)=w at hh hw h1
   omega

theorem zi{a b:cA}(ha:ke a=true)(hb:ke b=true):ph a b=some (eE a b):=by rw [Ek,ha,hb];rfl

theorem yl{r:List ac}{ns:List bm}(he:JI ns)(hr:Tp r):((oB r ns).2=0∧Pl (oB r ns).1)∨((oB r ns).2≠0∧(oB r ns).2≠140∧(oB r ns).1=zV)∨oB r ns=(zV,140):=by
 unfold oB
 cases ht:mn ns with
 |none=>right;left;exact⟨show(200:Int)≠0 by decide,show(200:Int)≠140 by decide,rfl⟩
 |some t=>
  obtain⟨hw,hN,hs⟩:=jT ht
  simp only []
  by_cases hc:tk r ns=true
  ·rw [aX hc]
   have hrt:SV t:=AA t 0 (by rw [←hN];exact he)
   have hcv:xE r t:=vX hr t hw 0 (by rw [←hN];exact hc)
   rcases m4 r t hw hrt hcv with h|h|h
   ·exact .inl h
   ·rw [h];right;left;decide
   ·exact .inr (.inr h)
  ·rw [aM hc];right;left;decide
def A5(ns:List bm)(rows:List cA):List ac:=rows.filterMap fun r=>if(oB r ns).2=0∧(oB r ns).1.Kind≠0 then some (oB r ns).1 else none
def C7(ns:List bm)(rows:List cA):Bool:=rows.any fun r=>(oB r ns).2 !=0&&(oB r ns).2 !=140
def C4(ns:List bm)(rows:List cA):Bool:=rows.any fun r=>(oB r ns).2==140
def rq(tag:Int)(vs:List ac):Bool:=tag==3&&vs.any fun v=>v.Kind !=2
def El(rows:List cA):Prop:= ∀r∈rows,Tp r
theorem E6(ns:List bm)(r:cA)(t:List cA):A5 ns (r::t)=if(oB r ns).2=0∧(oB r ns).1.Kind≠0 then(oB r ns).1::A5 ns t else A5 ns t:=by
 unfold A5
 rw [List.filterMap_cons]
 split
 ·split
  ·rename_i h;rw [aX (by simpa using h)]at*;simp_all
  ·rfl
 ·rename_i h;split
  ·rename_i h2;rw [aX h2]at h;simp at h;rw [h]
  ·rename_i h2;rw [aM h2]at h;simp at h
variable{rows:List cA}
theorem II{ns:List bm}(he:JI ns): ∀{rows:List cA},El rows→ ∀v∈A5 ns rows,Pl v
 |[],_,v,hv=>by simp [A5]at hv
 |r::t,hr,v,hv=>by
  rw [E6]at hv
  have ht:El t:=fun x hx=>hr x (ky _ hx)
  split at hv
  ·rename_i h
   rcases fh.1 hv with hv|hv
   ·subst hv
    rcases yl he (hr r (kE ..))with q|q|q
    ·exact q.2
    ·exact absurd h.1 q.1
    ·rw [q]at h;exact absurd h.1 (by decide)
   ·exact II he ht v hv
  ·exact II he ht v hv
theorem Oz(ns:List bm)(rows:List cA):(A5 ns rows).length≤rows.length:=List.length_filterMap_le ..
theorem Dw(a:gM)(hl:a.Arg.Nodes.length≤50000)(he:JI a.Arg.Nodes): ∀(rows:List cA) (out:List ac) (fault:Int),El rows→out.length+rows.length≤1000000→jn a rows out fault=some (if C7 a.Arg.Nodes rows then([],2)else(out++A5 a.Arg.Nodes rows,if C4 a.Arg.Nodes rows then 140 else fault))
 |[],out,fault,_,_=>by
  unfold jn C7 C4 A5
  simp
 |r::t,out,fault,hr,hk=>by
  have ht:El t:=fun x hx=>hr x (ky _ hx)
  rw [gX]at hk
  unfold jn
  rw [vT a.Arg r hl he (hr r (kE ..)),ba,E6]
  have eb:C7 a.Arg.Nodes (r::t)=(((oB r a.Arg.Nodes).2 !=0&&(oB r a.Arg.Nodes).2 !=140)||C7 a.Arg.Nodes t):=rfl
  have ef:C4 a.Arg.Nodes (r::t)=(((oB r a.Arg.Nodes).2==140)||C4 a.Arg.Nodes t):=rfl
  rw [eb,ef]
  rcases yl he (hr r (kE ..))with q|q|q
  ·rw [q.1]
   simp only [Int.reduceBEq,fZ,d9,Int.reduceBNe,DC,rE,true_and]
   by_cases hk0:(oB r a.Arg.Nodes).1.Kind=0
   ·rw [aM (by simp [hk0]),Dw a hl he t out fault ht (by omega)]
    simp only [hk0,pE,I2,d9]
   ·rw [aX (by simpa using hk0),aX hk0,bY (by simp only [wN];omega),ba,Dw a hl he t _ fault ht (by simp only [iF,wN];omega)]
    simp only [jK,Gn]
  ·rw [aM (by simpa using q.2.1),aX (by simpa using q.1)]
   have:((oB r a.Arg.Nodes).2 !=0&&(oB r a.Arg.Nodes).2 !=140)=true:=by simp [q.1,q.2.1]
   rw [this];simp
  ·rw [q]
   simp only [Gi,eK,Dw a hl he t out 140 ht (by omega),Int.reduceBNe,Bool.and_false,rE,Bool.true_or]
   rw [aM (by decide: ¬((140:Int)=0∧_))]
   simp
def qi:List ac→Int
 |[]=>0
 |v::t=>v.N+qi t
def pick(tag:Int)(b v:ac):ac:=if tag=4∧val v b<0∨tag=5∧0<val v b then v else b
def vi(tag:Int):List ac→ac
 |[]=>zV
 |v::t=>t.foldl (pick tag) v
def QK(vs:List ac):ac×Int:=if vs=[]then(zV,0)else if r64 (qi vs)then(iV (qi vs),0)else(zV,140)
def RI(tag:Int)(vs:List ac)(fault:Int):ac×Int:=
 if fault≠0 then(zV,fault)else if tag=2 then(iV (vs.length:Int),0)else if tag=3 then QK vs else(vi tag vs,0)
def v7(a:gM)(rows:List cA):ac×Int:=
 if a.Tag=1 then(iV (rows.length:Int),0)else if C7 a.Arg.Nodes rows||rq a.Tag (A5 a.Arg.Nodes rows)then(zV,2)else RI a.Tag (A5 a.Arg.Nodes rows) (if C4 a.Arg.Nodes rows then 140 else 0)
theorem Ju(p q:List ac):qi (p++q)=qi p+qi q:=by
 induction p with
 |nil=>simp [qi]
 |cons v t ih=>simp only [wI,qi,ih];omega
theorem NF: ∀(p:List ac),(∀v∈p,r64 v.N)→(qi p).natAbs≤p.length*9223372036854775808
 |[],_=>by simp [qi]
 |v::t,h=>by
  have h1:=NF t fun x hx=>h x (ky _ hx)
  have h2:=h v (kE ..)
  unfold r64 at h2
  simp only [qi,gX]
  omega
theorem HJ{p:List ac}(h: ∀v∈p,r64 v.N)(hl:p.length≤100000):AH (qi p):=by
 have:=NF p h
 unfold AH
 omega
theorem Sx(tag:Int)(p:List ac)(v:ac):vi tag (p++[v])=if p=[]then v else pick tag (vi tag p) v:=by
 cases p with
 |nil=>rfl
 |cons x t=>simp [vi]
theorem Sw(tag:Int): ∀(p:List ac),p≠[]→vi tag p∈p
 |[],h=>absurd rfl h
 |v::t,_=>by
  unfold vi
  have: ∀(t:List ac) (b:ac),t.foldl (pick tag) b∈b::t:=by
   intro t
   induction t with
   |nil=>intro b;simp
   |cons x t ih=>
    intro b
    simp only [List.foldl_cons]
    have:=ih (pick tag b x)
    have hp:pick tag b x=b∨pick tag b x=x:=by unfold pick;split<;>simp
    rcases hp with hp|hp<;>rw [hp]at this ⊢
    ·rcases fh.1 this with h|h
     ·rw [h];simp
     ·exact ky _ (ky _ h)
    ·exact ky _ this
  exact this t v
theorem EW(l:List ac)(h: ¬rq 3 l=true): ∀v∈l,v.Kind=2:=by
 intro v hv
 unfold rq at h
 simp only [Gi,uE,zl,I3]at h
 simpa using h v hv
theorem Ce{f:ac→Option Bool}{g:ac→Bool}(hf: ∀v,f v=some (g v))(l:List ac):dW l f=some (l.any g):=by
 have key: ∀(l:List ac) (i:Nat),∃j:Int,cZ f l i=some j∧decide (0≤j)=l.any g:=by
  intro l
  induction l with
  |nil=>intro i;exact⟨-1,rfl,rfl⟩
  |cons v t ih=>
   intro i
   unfold cZ
   rw [hf,ba,wO]
   by_cases hg:g v=true
   ·rw [aX hg,hg]
    exact⟨(i:Int),rfl,by simp⟩
   ·rw [aM hg,rn.2 hg,rE]
    exact ih (i+1)
 obtain⟨j,h1,h2⟩:=key l 0
 unfold dW gk
 rw [h1]
 simp only [ba]
 rw [←h2]
theorem qC{x y:ac}(hx:fF x=true)(hy:fF y=true):hT x y=some (val x y):=by
 unfold hT
 have h1:ke [x]=true:=by unfold ke;simp [hx]
 have h2:ke [y]=true:=by unfold ke;simp [hy]
 rw [zi h1 h2,ba]
 have:=Zj 0 0 0 0
 unfold eE
 simp only [eE]
 split<;>simp_all
theorem Mu: ∀(l:List ac) (m:ac),(∀v∈l,fF v=true)→fF m=true→cG hT l m=some (l.foldl (pick 4) m)
 |[],m,_,_=>rfl
 |v::t,m,h,hm=>by
  have hv:=h v (kE ..)
  have ht:=fun x hx=>h x (ky v hx)
  unfold cG
  rw [qC hv hm,ba,List.foldl_cons]
  by_cases hc:val v m<0
  ·rw [aX (by simpa using hc),Mu t v ht hv]
   simp [pick,hc]
  ·rw [aM (by simpa using hc),Mu t m ht hm]
   simp [pick,hc]
theorem Mv: ∀(l:List ac) (m:ac),(∀v∈l,fF v=true)→fF m=true→cH hT l m=some (l.foldl (pick 5) m)
 |[],m,_,_=>rfl
 |v::t,m,h,hm=>by
  have hv:=h v (kE ..)
  have ht:=fun x hx=>h x (ky v hx)
  unfold cH
  rw [qC hv hm,ba,List.foldl_cons]
  by_cases hc:0<val v m
  ·rw [aX (by simpa using hc),Mv t v ht hv]
   simp [pick,hc]
  ·rw [aM (by simpa using hc),Mv t m ht hm]
   simp [pick,hc]
theorem Zz(v:α)(t:List α):cR (v::t) (0:Int)=some v:=rfl
theorem XC{l:List ac}(h: ∀v∈l,fF v=true)(hne:l≠[]):eM l hT=some (vi 4 l):=by
 cases l with
 |nil=>exact absurd rfl hne
 |cons v t=>
  unfold eM f9
  rw [aM (by rw [gX,kI];omega),Zz,ba]
  exact Mu t v (fun x hx=>h x (ky v hx)) (h v (kE ..))
theorem XD{l:List ac}(h: ∀v∈l,fF v=true)(hne:l≠[]):eN l hT=some (vi 5 l):=by
 cases l with
 |nil=>exact absurd rfl hne
 |cons v t=>
  unfold eN ga
  rw [aM (by rw [gX,kI];omega),Zz,ba]
  exact Mv t v (fun x hx=>h x (ky v hx)) (h v (kE ..))
theorem SC(x:ac): ∀(l:List ac) (z:Int) (n:Nat),(∀v∈l,Pl v∧v.Kind=2)→z.natAbs≤n*9223372036854775808→n+l.length≤100000→mO l x (o4 z)=some (if r64 (z+qi l)then(iV (z+qi l),0)else(zV,140))
 |[],z,n,_,hz,hn=>by
  have hz2:AH z:=by unfold AH;omega
  unfold mO
  rw [VW hz2,ba]
  simp only [qi,Int.add_zero]
 |v::t,z,n,h,hz,hn=>by
  rw [gX]at hn
  obtain⟨hv,hk⟩:=h v (kE ..)
  have hr:=hv.r64
  have hb:(z+v.N).natAbs≤(n+1)*9223372036854775808:=by unfold r64 at hr;omega
  unfold mO
  rw [SG hv.right hk hr (z:=z) (by unfold AH;omega) (by unfold AH;omega),ba,aM (by show¬((0:Int) !=0)=true;decide)]
  have e:z+qi (v::t)=z+v.N+qi t:=by simp only [qi];omega
  rw [SC x t (z+v.N) (n+1) (fun y hy=>h y (ky _ hy)) hb (by omega),e]
theorem IN{l:List ac}(h: ∀v∈l,Pl v∧v.Kind=2)(hl:l.length≤90000):yr l=some (QK l):=by
 unfold yr
 rw [aM (by simp;omega)]
 have:oV=some zV:=rfl
 rw [this,ba]
 cases l with
 |nil=>rfl
 |cons v t=>
  obtain⟨hv,hk⟩:=h v (kE ..)
  have hr:=hv.r64
  rw [gX]at hl
  unfold mO
  rw [Qa hv.right hk hr,ba,aM (by show¬((0:Int) !=0)=true;decide)]
  rw [SC _ t v.N 1 (fun y hy=>h y (ky _ hy)) (by unfold r64 at hr;omega) (by omega)]
  rfl
theorem yM(a:gM)(hl:a.Arg.Nodes.length≤50000)(he:JI a.Arg.Nodes)(ht:a.Tag=1∨a.Tag=2∨a.Tag=3∨a.Tag=4∨a.Tag=5)(hr:El rows)(hn:rows.length≤90000):lW a rows=some (v7 a rows):=by
 unfold lW v7
 by_cases h1:a.Tag=1
 ·rw [aX (by simpa using h1),aX h1];rfl
 ·rw [aM (by simpa using h1),aM h1]
  have e:xB a rows=_:=Dw a hl he rows [] 0 hr (by simp only [oC];omega)
  rw [e,ba]
  by_cases hb:C7 a.Arg.Nodes rows=true
  ·rw [hb];rfl
  ·rw [rn.2 hb]
   simp only [fZ,d9,rE,kz]
   rw [aM (by split<;>decide),Ce (f:=mJ) (g:=fun v=>v.Kind !=2) (fun v=>rfl)]
   have eo:(if(a.Tag==(3:Int))then((some ((A5 a.Arg.Nodes rows).any fun v=>v.Kind !=2)).bind fun r2=>some r2)else some false)=some (rq a.Tag (A5 a.Arg.Nodes rows)):=by
    unfold rq
    cases (a.Tag==(3:Int))<;>rfl
   rw [eo,ba]
   by_cases ho:rq a.Tag (A5 a.Arg.Nodes rows)=true
   ·rw [ho];rfl
   ·rw [rn.2 ho]
    simp only [fZ,d9]
    unfold RI
    have hpl:=II he hr
    have hlen:=Oz a.Arg.Nodes rows
    by_cases hf:C4 a.Arg.Nodes rows=true
    ·rw [hf];rfl
    ·rw [rn.2 hf]
     simp only [fZ,d9,pE,I2,yR]
     by_cases h2:a.Tag=2
     ·rw [aX (by simpa using h2),aX h2];rfl
     ·rw [aM (by simpa using h2),aM h2]
      by_cases h3:a.Tag=3
      ·rw [aX (by simpa using h3),aX h3]
       rw [h3]at ho
       rw [IN (fun v hv=>⟨hpl v hv,EW _ ho v hv⟩) (by omega)]
       rfl
      ·rw [aM (by simpa using h3),aM h3]
       by_cases hz:A5 a.Arg.Nodes rows=[]
       ·rw [hz,aX (by rfl)];rfl
       ·rw [aM (by
         intro hh;apply hz
         have:=eq_of_beq hh
         exact tI (by omega))]
        have hrt: ∀v∈A5 a.Arg.Nodes rows,fF v=true:=fun v hv=>(hpl v hv).right
        by_cases h4:a.Tag=4
        ·rw [aX (by simpa using h4),h4,XC hrt hz];rfl
        ·have h5:a.Tag=5:=by omega
         rw [aM (by simpa using h4),h5,XD hrt hz];rfl

def yH(tag:Int)(vs:List ac):ac:=if tag=3∧vs≠[]then o4 (qi vs)else zV
theorem Kk(tag:Int)(p q:List ac):rq tag (p++q)=(rq tag p||rq tag q):=by
 unfold rq
 rw [Ge]
 cases (tag==3)<;>rfl
theorem Tq{vs:List ac}(h: ∀v∈vs,Pl v∧v.Kind=2)(hl:vs.length≤90000):uW (yH 3 vs)=some (QK vs):=by
 unfold yH QK
 by_cases hv:vs=[]
 ·rw [aM (by simp [hv]),aX hv,HW]
 ·rw [aX ⟨rfl,hv⟩,aM hv,JL (HJ (fun v hm=>(h v hm).1.r64) (by omega))]
theorem QJ{vs:List ac}(h: ∀v∈vs,Pl v∧v.Kind=2)(hl:vs.length≤90000)(hv:Pl v)(hk:v.Kind=2):sk (yH 3 vs) v=some (yH 3 (vs++[v]),0):=by
  have e:yH 3 (vs++[v])=o4 (qi vs+v.N):=by
    unfold yH
    rw [aX ⟨rfl,by simp⟩,Ju]
    simp [qi]
  rw [e]
  by_cases hn:vs=[]
  · subst hn
    have:yH 3 []=zV:=by unfold yH;simp
    rw [this,FW hv.right hk hv.r64]
    simp [qi]
  · have:yH 3 vs=o4 (qi vs):=by unfold yH;rw [aX ⟨rfl,hn⟩]
    have h1:AH (qi vs):=HJ (fun v hm=>(h v hm).1.r64) (by omega)
    have h2:AH (qi vs+v.N):=by
      have:=HJ (p:=vs++[v])
        (by
          intro w hw
          rcases Aa.1 hw with q|q
          · exact(h w q).1.r64
          · simp at q;rw [q];exact hv.r64) (by simp;omega)
      rw [Ju]at this
      simpa [qi] using this
    rw [this,HV hv.right hk hv.r64 h1 h2]
theorem SD(a:gM)(nx:Int→Int→ac→ac→ac→Option (ac×Int))(vs:List ac)(hl:vs.length≤90000)(fault:Int)(x:ac)(v:ac)(c:Int)(sm:ac):mv a nx (vs.length:Int) fault x (vi a.Tag vs) (v,c) sm=nx ((vs++[v]).length:Int) fault x sm (vi a.Tag (vs++[v])):=by
 unfold mv gH
 have hw:IntKind.i64.wrap ((vs.length:Int)+1)=((vs++[v]).length:Int):=by rw [tL (by omega) (by omega)];simp
 simp only [hw,Es,ba]
 rw [Sx]
 by_cases hv:vs=[]
 ·subst hv
  simp
 ·rw [aM hv]
  have:(((vs++[v]).length:Int)==1)=false:=by
   rw [beq_eq_false_iff_ne]
   intro h
   apply hv
   simp only [iF,wN]at h
   exact tI (by omega)
  simp only [this,Bs,eK]
  unfold pick
  by_cases h4:a.Tag=4
  ·rw [h4]
   by_cases hc:val v (vi 4 vs)<0
   ·simp [hc]
   ·simp [hc]
  ·by_cases h5:a.Tag=5
   ·rw [h5]
    by_cases hc:0<val v (vi 5 vs)
    ·simp [hc]
    ·simp [hc]
   ·simp [h4,h5]
theorem HU(a:gM)(he:JI a.Arg.Nodes)(ht:a.Tag≠1)(x:ac): ∀(rows:List cA) (vs:List ac) (fault:Int),El rows→vs.length+rows.length≤90000→(∀v∈vs,Pl v)→rq a.Tag vs=false→(fault=0∨fault=140)→
  fP a rows (vs.length:Int) fault x (yH a.Tag vs) (vi a.Tag vs)=some (if C7 a.Arg.Nodes rows||rq a.Tag (A5 a.Arg.Nodes rows)then(zV,2)else RI a.Tag (vs++A5 a.Arg.Nodes rows) (if C4 a.Arg.Nodes rows then 140 else fault))
 |[],vs,fault,_,hl,hpl,hod,hf=>by
  have e1:C7 a.Arg.Nodes []=false:=rfl
  have e2:A5 a.Arg.Nodes []=[]:=rfl
  have e3:C4 a.Arg.Nodes []=false:=rfl
  have e4:rq a.Tag []=false:=by unfold rq;simp
  rw [e1,e2,e3,e4,sy]
  simp only [Bool.or_self,fZ,d9]
  unfold fP RI
  rcases hf with hf|hf
  ·rw [hf]
   simp only [pE,I2,yR,fZ,d9]
   by_cases h2:a.Tag=2
   ·rw [aX (by simpa using h2),aX h2];rfl
   ·rw [aM (by simpa using h2),aM h2]
    by_cases h3:a.Tag=3
    ·rw [aX (by simpa using h3),aX h3]
     rw [h3]at hod ⊢
     simp only [oC]at hl
     rw [Tq (fun v hv=>⟨hpl v hv,EW _ (by simpa using hod) v hv⟩) (by omega)]
     rfl
    ·rw [aM (by simpa using h3),aM h3]
  ·rw [hf];rfl
 |r::t,vs,fault,hr,hl,hpl,hod,hf=>by
  have htl:El t:=fun x hx=>hr x (ky _ hx)
  have hr1:=hr r (kE ..)
  rw [gX]at hl
  unfold fP
  rw [FY a.Arg r he hr1,ba,E6]
  have eb:C7 a.Arg.Nodes (r::t)=(((oB r a.Arg.Nodes).2 !=0&&(oB r a.Arg.Nodes).2 !=140)||C7 a.Arg.Nodes t):=rfl
  have ef:C4 a.Arg.Nodes (r::t)=(((oB r a.Arg.Nodes).2==140)||C4 a.Arg.Nodes t):=rfl
  rw [eb,ef]
  rcases yl he hr1 with q|q|q
  ·rw [aM (by rw [q.1];decide)]
   have e0:((oB r a.Arg.Nodes).2 !=0&&(oB r a.Arg.Nodes).2 !=140)=false:=by rw [q.1];rfl
   have e1:((oB r a.Arg.Nodes).2==140)=false:=by rw [q.1];rfl
   have e2:((oB r a.Arg.Nodes).2 !=0)=false:=by rw [q.1];rfl
   rw [e0,e1,e2]
   simp only [rE]
   by_cases hk0:(oB r a.Arg.Nodes).1.Kind=0
   ·rw [aM (by simp [hk0]),aX (by simpa using hk0)]
    have hn2: ¬((oB r a.Arg.Nodes).2=0∧(oB r a.Arg.Nodes).1.Kind≠0):=fun h=>h.2 hk0
    simp only [aM hn2]
    unfold gH
    exact HU a he ht x t vs fault htl (by omega) hpl hod hf
   ·have hc2:(oB r a.Arg.Nodes).2=0∧(oB r a.Arg.Nodes).1.Kind≠0:=⟨q.1,hk0⟩
    rw [aX hc2]
    by_cases hodd:a.Tag=3∧(oB r a.Arg.Nodes).1.Kind≠2
    ·rw [aX (by simp [hodd.1,hodd.2,hk0])]
     have:rq a.Tag ((oB r a.Arg.Nodes).1::A5 a.Arg.Nodes t)=true:=by
      unfold rq
      simp [hodd.1,hodd.2]
     rw [this,Bool.or_true];rfl
    ·rw [aM (by simp only [lX,sx,qT,pE];intro h;exact hodd ⟨h.1.1,h.2⟩),aM (by simpa using hk0)]
     have ho1:rq a.Tag [(oB r a.Arg.Nodes).1]=false:=by
      unfold rq
      simp only [wO,List.any_nil,Bool.or_false]
      rw [rn]
      intro h
      simp only [lX,sx,qT,pE]at h
      exact hodd h
     have ho:rq a.Tag ((oB r a.Arg.Nodes).1::A5 a.Arg.Nodes t)=rq a.Tag (A5 a.Arg.Nodes t):=by
      have:=Kk a.Tag [(oB r a.Arg.Nodes).1] (A5 a.Arg.Nodes t)
      rw [ho1,rE]at this
      exact this
     have hvs:rq a.Tag (vs++[(oB r a.Arg.Nodes).1])=false:=by rw [Kk,hod,ho1];rfl
     have hpl2: ∀v∈vs++[(oB r a.Arg.Nodes).1],Pl v:=by
      intro v hv
      rcases Aa.1 hv with h|h
      ·exact hpl v h
      ·simp at h;rw [h];exact q.2
     have ih:=HU a he ht x t (vs++[(oB r a.Arg.Nodes).1]) fault htl (by simp only [iF,wN];omega) hpl2 hvs hf
     rw [ho]
     rw [jK,Gn]at ih
     rw [←ih]
     have hpair:oB r a.Arg.Nodes=((oB r a.Arg.Nodes).1,(oB r a.Arg.Nodes).2):=rfl
     by_cases h3:a.Tag=3
     ·rw [aX (by simpa using h3)]
      have hk2:(oB r a.Arg.Nodes).1.Kind=2:=by
       rcases Classical.em ((oB r a.Arg.Nodes).1.Kind=2)with h|h
       ·exact h
       ·exact absurd ⟨h3,h⟩ hodd
      have hod3: ¬rq 3 vs=true:=by rw [←h3,hod];simp
      have st:=QJ (fun v hv=>⟨hpl v hv,EW _ hod3 v hv⟩) (by omega) q.2 hk2
      rw [←h3]at st
      rw [st,ba]
      rw [hpair]
      exact SD a _ vs (by omega) fault x _ _ _
     ·rw [aM (by simpa using h3)]
      have es:yH a.Tag (vs++[(oB r a.Arg.Nodes).1])=yH a.Tag vs:=by
       unfold yH
       rw [aM (fun h=>h3 h.1),aM (fun h=>h3 h.1)]
      rw [es,hpair]
      exact SD a _ vs (by omega) fault x _ _ _
  ·rw [aM (by simpa using q.2.1),aX (by simp [q.1])]
   have:((oB r a.Arg.Nodes).2 !=0&&(oB r a.Arg.Nodes).2 !=140)=true:=by simp [q.1,q.2.1]
   rw [this]
   simp only [Bool.true_or,eK]
   rfl
  ·rw [q,aM (by decide: ¬((140:Int)=0∧_)),aX (by rfl)]
   unfold gH
   have ih:=HU a he ht x t vs 140 htl (by omega) hpl hod (.inr rfl)
   rw [ih]
   simp
theorem zC(a:gM)(he:JI a.Arg.Nodes)(hr:El rows)(hn:rows.length≤90000):rp a rows=some (v7 a rows):=by
 unfold rp v7
 by_cases h1:a.Tag=1
 ·rw [aX (by simpa using h1),aX h1];rfl
 ·rw [aM (by simpa using h1),aM h1]
  have e:yH a.Tag []=zV:=by unfold yH;simp
  have:=HU a he h1 zV rows [] 0 hr (by simp only [oC];omega) (by simp) (by unfold rq;simp) (.inl rfl)
  rw [e,kz]at this
  exact this

def nb(r:Nat):Nat:=if r%2=1 then(r/2)^^^2197175160 else r/2
def nb8(r:Nat):Nat:=nb (nb (nb (nb (nb (nb (nb (nb r)))))))
def V1:List Int:=(List.range 256).map fun i=>(nb8 i:Int)

def nP(r:cA)(c:List Int):Bool:=decide (c.length≤16)&&c.all fun e=>decide (0≤e)&&decide (e<(r.length:Int))
theorem vn{f:Int→Option Bool}{g:Int→Bool}(hf: ∀v,f v=some (g v)): ∀(l:List Int) (i:Nat),∃j:Int,fq f l i=some j∧decide (0≤j)=l.any g
 |[],i=>⟨-1,rfl,rfl⟩
 |e::l,i=>by
  unfold fq
  rw [hf,ba]
  cases h:g e with
  |true=>exact⟨(i:Int),by simp,by simp [h]⟩
  |false=>
   obtain⟨j,h1,h2⟩:=vn hf l (i+1)
   exact⟨j,by simpa using h1,by rw [h2];simp [h]⟩
theorem jJ{f:Int→Option Bool}{g:Int→Bool}(hf: ∀v,f v=some (g v))(l:List Int):cz l f=some (l.any g):=by
 unfold cz ld
 obtain⟨j,h1,h2⟩:=vn hf l 0
 rw [h1,ba,h2]
theorem Mb(r:cA)(c:List Int):Db r c=some (nP r c):=by
 unfold Db nP
 rw [jJ (f:=xV r) (g:=fun c=>(decide (c<(0:Int)))||(decide ((r.length:Int)≤c))) (fun v=>rfl)]
 by_cases h:c.length≤16
 ·rw [aX (by rw [kI];omega),ba,ba,wH h,uE]
  congr 1
  induction c with
  |nil=>rfl
  |cons e c ih=>
   rw [wO,yB,Bool.not_or,ih (by simp at h;omega)]
   congr 1
   rw [zk];simp only [CW,Bool.or_eq_false_iff,lX,kI,FK];omega
 ·rw [aM (by rw [kI];omega),ba,ww h,DC]
theorem D0(r:cA): ∀(c:List Int) (out:cA),(∀e∈c,0≤e∧e<(r.length:Int))→out.length+c.length≤1000→
  ∃t:cA,t.length=out.length+c.length∧(∀v∈t,v∈out∨v∈r)∧mb r c out=some t∧uv r c out=some t
 |[],out,_,_=>⟨out,rfl,fun v hv=> .inl hv,rfl,rfl⟩
 |e::c,out,h,hl=>by
  obtain⟨h1,h2⟩:=h e (kE ..)
  obtain⟨n,rfl⟩:=DH h1
  have hn:n<r.length:=by omega
  rw [gX]at hl
  obtain⟨t,g1,g2,g3,g4⟩:=D0 r c (out++[r[n]]) (fun e he=>h e (ky _ he)) (by simp;omega)
  have hi:cR r (n:Int)=some r[n]:=by rw [bW];exact ox hn
  refine⟨t,by rw [g1];simp;omega,fun v hv=>?_,?_,?_⟩
  ·rcases g2 v hv with g|g
   ·rcases Aa.1 g with g|g
    ·exact .inl g
    ·rw [CX.1 g];exact .inr (List.getElem_mem hn)
   ·exact .inr g
  ·unfold mb
   rw [hi,ba,bY (by simp;omega),ba]
   exact g3
  ·unfold uv
   rw [hi,ba,bY (by simp;omega),ba]
   exact g4
theorem VN(h:xs.length≤68719476736):app [] xs=some xs:=by rw [bY (by simpa using h)];rfl

def AK(l:List cA)(c:List Int):Bool:=decide (c.length≤16)&&c.all (fun e=>decide (0≤e))&&l.all (fun r=>nP r c)
def vY(l:List cA)(c:List Int):Int:=if vk l then(if AK l c then 0 else 2)else 150
theorem CU(c:List Int): ∀l:List cA,pL c l=some (if l.all (fun r=>nP r c)then 0 else 2)
 |[]=>rfl
 |r::l=>by
  unfold pL
  rw [Mb,ba,CU c l,yB]
  cases nP r c<;>rfl
theorem FR(h:l.length≤8000)(c:List Int):xW l c=some (vY l c):=by
 unfold xW vY
 rw [vI,HA l h,ba]
 cases vk l with
 |false=>simp
 |true=>
  rw [aX rfl,aM (by decide),jJ (f:=tQ) (g:=fun c=>decide (c<(0:Int))) (fun v=>rfl),aX rfl]
  have hn:c.all (fun e=>decide (0≤e))= !c.any (fun e=>decide (e<(0:Int))):=by
   rw [List.not_any_eq_all_not]
   congr 1
   funext e
   rw [zk];simp only [kI,CW,FK];omega
  unfold AK
  by_cases hc:c.length≤16
  ·rw [aX (by simp;omega),ba,ba,wH hc,hn,CU]
   cases c.any (fun e=>decide (e<(0:Int)))<;>cases l.all (fun r=>nP r c)<;>rfl
  ·rw [aM (by simp;omega),ba,ww hc];rfl
theorem ye(h:AK l c=true)(hr:r∈l):nP r c=true:=by
 unfold AK at h
 rw [lX,jx]at h
 exact h.2 r hr
theorem KZ(h:vY l c=0):vk l=true∧AK l c=true:=by
 unfold vY at h
 cases h1:vk l<;>cases h2:AK l c<;>simp_all
def gr(c:List Int)(r:cA):cA:=(nJ r c).getD []
theorem As(h:nP r c=true):nJ r c=some (gr c r)∧(gr c r).length=c.length∧ ∀v∈gr c r,v∈r:=by
 unfold nP at h
 rw [lX,kI,jx]at h
 obtain⟨t,g1,g2,g3,g4⟩:=D0 r c [] (fun e he=>by have:=h.2 e he;rw [lX,kI,kI]at this;exact this) (by simp;omega)
 have e:nJ r c=some t:=g3
 unfold gr
 rw [e]
 exact⟨rfl,by simpa using g1,fun v hv=>(g2 v hv).elim (fun h=>by cases h) id⟩
def xv(c:List Int)(a b:cA):Int:=IZ (eE (gr c a) (gr c b)) (eE a b)
theorem KE(c:List Int):Cg (xv c):=
 have h:=Cg.lex ik ik
 ⟨fun x y=>h.rng (gr c x,x) (gr c y,y),fun x y=>h.anti (gr c x,x) (gr c y,y),fun x y=>(h.eq (gr c x,x) (gr c y,y)).trans ⟨fun e=>(Prod.mk.injEq ..▸e).2,fun e=>by rw [e]⟩,fun x y z=>h.trans (gr c x,x) (gr c y,y) (gr c z,z)⟩
theorem Lo{a b:cA}(ha:nP a c=true)(hb:nP b c=true):mt c a b=some (xv c a b):=by
 unfold mt
 rw [(As ha).1,(As hb).1]
 simp only [ba,vH,B5,Xt]
 unfold xv IZ
 congr 1
 by_cases h:eE (gr c a) (gr c b)=0
 ·by_cases h2:eE a b=0<;>simp [h,h2]
 ·simp [h]
theorem Ln{a b:cA}(ha:nP a c=true)(hb:nP b c=true):gc c a b=some (decide (gr c a=gr c b)):=by
 unfold gc
 rw [(As ha).1,(As hb).1]
 simp only [ba,rO]
theorem ET{α:Type}{lt lt' :α→α→Bool}(x:α): ∀l:List α,(∀y∈l,lt y x=lt' y x)→Ii lt x l=Ii lt' x l
 |[],_=>rfl
 |y::l,h=>by
  unfold Ii
  rw [h y (kE ..),ET x l fun z hz=>h z (ky _ hz)]
theorem CF{α:Type}{lt lt' :α→α→Bool}: ∀l:List α,(∀x∈l,∀y∈l,lt x y=lt' x y)→y8 lt l=y8 lt' l
 |[],_=>rfl
 |x::l,h=>by
  unfold y8
  rw [←CF l fun y hy z hz=>h y (ky _ hy) z (ky _ hz)]
  exact ET x _ fun y hy=>h y (ky _ ((s6 lt l).mem_iff.1 hy)) x (kE ..)
theorem Jy [DecidableEq α]{f:α→α→Int}(h:Cg f){c:α×α→Option Int}{l:List α}(hc: ∀x∈l,∀y∈l,c (x,y)=some (f x y))(hl:l.length≤1099511627776):yX c l=some (rC f l):=by
 have hg:=xK h (c:=fun p=>some (f p.1 p.2)) (fun _ _=>rfl) hl
 have hlt: ∀x∈l,∀y∈l,uA c x y=uA (fun p:α×α=>some (f p.1 p.2)) x y:=fun x hx y hy=>by unfold uA;rw [hc x hx y hy]
 have hg' :z6 c l:=⟨hl,fun x hx y hy=>by rw [hc x hx y hy];rfl,fun x hx=>by rw [hlt x hx x hx];exact hg.irr x hx,
  fun x hx y hy z hz h1 h2=>by rw [hlt x hx y hy]at h1;rw [hlt y hy z hz]at h2;rw [hlt x hx z hz];exact hg.tr x hx y hy z hz h1 h2,
  fun x hx y hy h1 h2=>by rw [hlt x hx y hy]at h1;rw [hlt y hy x hx]at h2;exact hg.anti x hx y hy h1 h2⟩
 rw [D1 hg',CF l hlt]
 rfl
def uR(al:cA→cA→Bool):Nat→List cA→List (List cA)
 |0,_=>[]
 |_+1,[]=>[]
 |k+1,x::t=>(x::t.takeWhile (al x))::uR al k (t.dropWhile (al x))
theorem Ec{Sg:Type}{alike:cA→cA→Option Bool}{al:cA→cA→Bool}(yld:List cA→Sg→Option (Bool×Sg))(nx:Sg→List cA→Option Sg)(s:Sg)(x:cA)(t:List cA)(hal: ∀y∈t,alike x y=some (al x y))(ht:t.length≤8000):
  ∀(rest pre:List cA) (fuel:Nat),t=pre++rest→rest.length<fuel→na alike yld nx s (x::t) fuel ((1+pre.length:Nat):Int)=(yld (x::(pre++rest.takeWhile (al x))) s).bind fun r=>if(!r.1)then some r.2 else nx r.2 (rest.dropWhile (al x))
 |rest,pre,0,_,h=>by omega
 |[],pre,fuel+1,e,_=>by
  rw [sy]at e
  subst e
  unfold na
  rw [aM (by simp;omega),ba,aM (by decide),show(0:Int)=((0:Nat):Int)from rfl,lE (by omega) (by simp;omega),ba]
  rw [lE (by simp;omega) (dn _)]
  simp only [ba,List.takeWhile_nil,List.dropWhile_nil,sy,yC]
  rw [rF (by simp;omega),rF (dn _),DA (by simp;omega)]
 |b::rest,pre,fuel+1,e,hf=>by
  have hlen:t.length=pre.length+rest.length+1:=by rw [e];simp;omega
  have hb:cR (x::t) ((1+pre.length:Nat):Int)=some b:=by
   rw [bW,Nat.add_comm,I9,e]
   simp
  unfold na
  rw [aX (by simp;omega),show cR (x::t) 0=some x from rfl,ba,hb,ba,hal b (by rw [e];simp),ba,ba]
  cases hb2:al x b with
  |true=>
   rw [aX rfl,cv (by omega) (by omega),show(((1+pre.length:Nat):Int)+1)=((1+(pre++[b]).length:Nat):Int) by simp;omega]
   rw [Ec yld nx s x t hal ht rest (pre++[b]) fuel (by rw [e];simp) (by simp at hf;omega)]
   simp [List.takeWhile_cons,List.dropWhile_cons,hb2]
  |false=>
   rw [aM (by decide),show(0:Int)=((0:Nat):Int)from rfl,lE (by omega) (by simp;omega),ba]
   rw [lE (by simp;omega) (dn _)]
   simp only [ba,yC]
   rw [rF (l:=x::t) (dn _)]
   have e1:(x::t).take (1+pre.length)=x::pre:=by rw [Nat.add_comm,List.take_succ_cons,e];simp
   have e2:(x::t).drop (1+pre.length)=b::rest:=by rw [Nat.add_comm,List.drop_succ_cons,e];simp
   rw [e1,e2]
   simp [List.takeWhile_cons,List.dropWhile_cons,hb2]
def GU(c:List Int)(y:List cA):g9:=⟨gr c (y.headD []),y⟩
def Gb(c:List Int)(a b:cA):Bool:=decide (gr c a=gr c b)
theorem Ed(c:List Int): ∀(k fuel:Nat) (l:List cA) (out:List g9),(∀r∈l,nP r c=true)→l.length≤k→l.length<fuel→out.length+l.length≤8000→
  jU (gc c) (CS (fun x s=>jV c x s)) fuel out l=some (out++(uR (Gb c) k l).map (GU c))
 |k,0,l,out,_,_,h,_=>by omega
 |k,fuel+1,[],out,_,_,_,_=>by
  unfold jU
  rw [aM (by simp)]
  cases k<;>simp [uR]
 |0,fuel+1,x::t,out,_,h,_,_=>by simp at h
 |k+1,fuel+1,x::t,out,h,hk,hf,ho=>by
  simp only [gX]at hk hf ho
  have hx:=h x (kE ..)
  have hsub: ∀r∈t.dropWhile (Gb c x),r∈t:=fun r hr=>(I8 _).subset hr
  have hdl:(t.dropWhile (Gb c x)).length≤t.length:=(I8 _).length_le
  have htl:(t.takeWhile (Gb c x)).length≤t.length:=(List.takeWhile_sublist _).length_le
  unfold jU
  rw [aX (by simp),show(1:Int)=((1+([]:List cA).length:Nat):Int)from rfl,
   Ec (al:=Gb c) _ _ out x t (fun y hy=>Ln hx (h y (ky _ hy))) (by omega) t [] im rfl (by unfold im;omega)]
  rw [kz]
  have hb:jV c (x::t.takeWhile (Gb c x)) out=some (out++[GU c (x::t.takeWhile (Gb c x))]):=by
   unfold jV eV
   rw [show cR (x::t.takeWhile (Gb c x)) 0=some x from rfl,ba,(As hx).1,ba,VN (by simp;omega),ba,ba,bY (by simp;omega)]
   rfl
  have hb2:CS (fun x s=>jV c x s) (x::t.takeWhile (Gb c x)) out=some (true,out++[GU c (x::t.takeWhile (Gb c x))]):=by
   show Option.map _ (jV c (x::t.takeWhile (Gb c x)) out)=_
   rw [hb];rfl
  rw [hb2]
  simp only [ba,mi,fZ,d9]
  have ih:=Ed c k fuel (t.dropWhile (Gb c x)) (out++[GU c (x::t.takeWhile (Gb c x))]) (fun r hr=>h r (ky _ (hsub r hr))) (by omega) (by omega) (by simp;omega)
  rw [ih]
  simp [uR]
theorem FU(h:Hc l)(c:List Int):sP l c=some (if vY l c=0 then((uR (Gb c) l.length (rC (xv c) l)).map (GU c),0)else([],vY l c)):=by
 unfold sP
 have hlen:=h.len
 rw [FR h.len,ba]
 by_cases ha:vY l c=0
 ·obtain⟨_,hok⟩:=KZ ha
  rw [aM (by simp [ha]),aX ha,y4 l (fun r hr=>by have:=h.row r hr;omega) (by omega),ba]
  rw [Jy (KE c) (fun x hx y hy=>Lo (ye hok hx) (ye hok hy)) (by omega),ba]
  unfold Ei
  rw [ba]
  unfold vF
  have hl:=xQ (xv c) l
  show((jU (gc c) (CS fun x s=>jV c x s) im [] (rC (xv c) l)).bind fun xs1=>some (xs1,(0:Int)))=_
  rw [Ed c l.length im (rC (xv c) l) [] (fun r hr=>ye hok ((lD _ _).mem_iff.1 hr)) (by omega) (by unfold im;omega) (by simp;omega)]
  rfl
 ·rw [aX (by simp [ha]),aM ha]
theorem GC(al:cA→cA→Bool): ∀(k:Nat) (l:List cA),l.length≤k→(uR al k l).flatten=l
 |0,l,h=>by
  have:l=[]:=tI (by omega)
  subst this
  rfl
 |k+1,[],_=>rfl
 |k+1,x::t,h=>by
  have hdl:(t.dropWhile (al x)).length≤t.length:=(I8 _).length_le
  unfold uR
  rw [List.flatten_cons,GC al k _ (by simp at h;omega),wI,List.takeWhile_append_dropWhile]
theorem Eb(al:cA→cA→Bool): ∀(k:Nat) (l:List cA) (y:List cA),y∈uR al k l→ ∃x t,y=x::t∧x∈l∧ ∀z∈t,z∈l∧al x z=true
 |0,l,y,h=>by cases h
 |k+1,[],y,h=>by cases h
 |k+1,x::t,y,h=>by
  unfold uR at h
  rcases fh.1 h with rfl|h
  ·exact⟨x,_,rfl,kE ..,fun z hz=>⟨ky _ ((List.takeWhile_sublist _).subset hz),by simpa using jx.1 (List.all_takeWhile (p:=al x) (l:=t)) z hz⟩⟩
  ·obtain⟨x',t',e,h1,h2⟩:=Eb al k _ y h
   have hsub: ∀r∈t.dropWhile (al x),r∈t:=fun r hr=>(I8 _).subset hr
   exact⟨x',t',e,ky _ (hsub _ h1),fun z hz=>⟨ky _ (hsub _ (h2 z hz).1),(h2 z hz).2⟩⟩
theorem N7{a b:cA}(h:xv c a b≤0):eE (gr c a) (gr c b)≤0:=by
 unfold xv IZ at h
 split at h
 ·exact h
 ·rename_i h2;simp at h2;omega
theorem OD(c:List Int)(x:cA): ∀t:List cA,sd (xv c) (x::t)→ ∀z∈t.dropWhile (Gb c x),eE (gr c x) (gr c z)<0
 |[],_,z,hz=>by cases hz
 |b::t,hs,z,hz=>by
  have hs' :=Bt.1 hs
  have hs2:=Bt.1 hs'.2
  rw [List.dropWhile_cons]at hz
  split at hz
  ·exact OD c x t (Bt.2 ⟨fun w hw=>hs'.1 w (ky _ hw),hs2.2⟩) z hz
  ·rename_i hb
   have hlt:eE (gr c x) (gr c b)<0:=by
    have h1:=N7 (hs'.1 b (kE ..))
    rcases Int.lt_or_eq_of_le h1 with h|h
    ·exact h
    ·exact absurd (wH ((ik.eq _ _).1 h)) hb
   rcases fh.1 hz with rfl|hz
   ·exact hlt
   ·exact ik.lt (Int.le_of_lt hlt) (N7 (hs2.1 z hz)) (.inl hlt)
theorem GB(c:List Int): ∀(k:Nat) (l:List cA),sd (xv c) l→((uR (Gb c) k l).map (GU c)).Pairwise (fun a b=>eE a.Key b.Key<0)
 |0,l,_=>List.Pairwise.nil
 |k+1,[],_=>List.Pairwise.nil
 |k+1,x::t,hs=>by
  unfold uR
  rw [wi]
  have hs' :=Bt.1 hs
  refine Bt.2 ⟨fun g hg=>?_,GB c k _ (hs'.2.sublist (I8 _))⟩
  obtain⟨y,hy,rfl⟩:=tK.1 hg
  obtain⟨x',t',rfl,h1,_⟩:=Eb _ _ _ y hy
  exact OD c x t hs x' h1

theorem kw{tl:List α}{y:α}(h:xs.drop i=y::tl):cR xs (i:Int)=some y∧i<xs.length∧xs.drop (i+1)=tl:=by
 have hi:i<xs.length:=by
  rcases mS i xs.length with h1|h1
  ·exact h1
  ·rw [Ae h1]at h;cases h
 rw [wz hi]at h
 injection h with h1 h2
 exact⟨by rw [bW,ox hi,h1],hi,h2⟩
theorem tg(h:xs.drop i=[]):xs.length≤i:=FJ.1 h
theorem vm{f:gE→Option Bool}{g:gE→Bool}(hf: ∀v,f v=some (g v)): ∀(l:List gE) (i:Nat),∃j:Int,dG f l i=some j∧decide (0≤j)=l.any g
 |[],i=>⟨-1,rfl,rfl⟩
 |e::l,i=>by
  unfold dG
  rw [hf,ba]
  cases h:g e with
  |true=>exact⟨(i:Int),by simp,by simp [h]⟩
  |false=>
   obtain⟨j,h1,h2⟩:=vm hf l (i+1)
   exact⟨j,by simpa using h1,by rw [h2];simp [h]⟩
theorem yO{f:gE→Option Bool}{g:gE→Bool}(hf: ∀v,f v=some (g v))(l:List gE):ek l f=some (l.any g):=by
 unfold ek hU
 obtain⟨j,h1,h2⟩:=vm hf l 0
 rw [h1,ba,h2]
theorem se(l:List Int)(h:l.length≤68719476736):cx l=some l:=by
 unfold cx
 rw [bY (by simpa using h)];rfl
theorem SN(n:Int)(h0:0≤n)(h:n≤68719476736):lx n=some []:=by
 unfold lx mp
 rw [aM (by simp;omega)]
 have e:IntKind.i64.wrap (n-IntKind.i64.wrap ((0:Int)-0))=n:=by
  rw [cv (n:=(0:Int)-0) (by omega) (by omega),cv (by omega) (by omega)];omega
 rw [e]
 by_cases hp:0<n
 ·rw [aX (by simpa using hp)]
  unfold Wf nD
  rw [aX hp]
  simp only [ba]
  rw [aX ⟨h0,h⟩]
  simp only [ba]
  rw [show dj (List.replicate n.toNat (0:Int)) 0 0=some []from by unfold dj;rw [aX (by simp;omega)];simp]
  rfl
 ·rw [aM (by simpa using hp)];rfl
theorem Lp(a b:List Int)(ha:a.length≤8000)(hb:b.length≤8000):iG [a,b]=some (a++b):=by
 unfold iG
 simp only [iZ]
 rw [cv (n:=(0:Int)+(a.length:Int)) (by omega) (by omega),aM (by simp),cv (by omega) (by omega),aM (by simp;omega),SN _ (by omega) (by omega)]
 simp only [ba,iY]
 rw [bY (by simp;omega)]
 simp only [ba,kz]
 rw [bY (by omega)]
 rfl
structure iW(n:ak):Prop where
 cond:n.Cond.Nodes.length≤5000
 kinds:n.Kinds.length≤5000
 keys:n.Keys.length≤5000
 aggs:n.Aggs.length≤5000
 items:n.Items.length≤5000
 order:n.Order.length≤5000
 args: ∀g∈n.Aggs,g.Arg.Nodes.length≤5000
 exprs: ∀e∈n.Items,e.Nodes.length≤5000
def HD(e:bK)(kinds:List Int):Bool:=(fC e kinds).2==0&&((fC e kinds).1==1||(fC e kinds).1==0)
theorem xq(e:bK)(kinds:List Int)(h:e.Nodes.length≤5000):q9 e kinds=some (HD e kinds):=by
 unfold q9
 rw [vS e kinds (by omega)]
 rfl
theorem lI(e:bK)(kinds:List Int):tS e kinds=some (HD e kinds):=by
 unfold tS HD
 rw [lh e kinds]
 simp only [ba,Bool.or_comm]
def OT(a:gM)(kinds:List Int):Int×Bool:=
 if a.Tag=1 then(2,a.Arg.Nodes.length==0)else if a.Tag=2 then(2,(fC a.Arg kinds).2==0)else if a.Tag=3 then(2,(fC a.Arg kinds).2==0&&((fC a.Arg kinds).1==2||(fC a.Arg kinds).1==0))else if a.Tag=4∨a.Tag=5 then((fC a.Arg kinds).1,(fC a.Arg kinds).2==0)else(0,false)
theorem NZ(n:Nat):((n:Int)==0)=(n==0):=by rw [zk];simp
theorem If(a:gM)(kinds:List Int)(h:a.Arg.Nodes.length≤5000):yf a kinds=some (OT a kinds):=by
 unfold yf OT r0
 by_cases h1:a.Tag=1
 ·rw [aX (by simp [h1]),aX h1,NZ]
 rw [aM (by simpa using h1),aM h1,vS _ _ (by omega)]
 simp only [ba]
 by_cases h2:a.Tag=2
 ·rw [aX (by simp [h2]),aX h2]
 rw [aM (by simpa using h2),aM h2]
 by_cases h3:a.Tag=3
 ·rw [aX (by simp [h3]),aX h3]
 rw [aM (by simpa using h3),aM h3]
 by_cases h4:a.Tag=4
 ·rw [aX (by simp [h4]),aX (by simp [h4]),aX (.inl h4)]
 rw [aM (by simpa using h4)]
 by_cases h5:a.Tag=5
 ·rw [aX (by simp [h5]),aX (.inr h5)]
 rw [aM (by simpa using h5),aM (by omega)]
def Bi(a:gM)(kinds:List Int):Int×Bool:=(kL a kinds).getD (0,false)
theorem o5(a:gM)(kinds:List Int):kL a kinds=some (Bi a kinds):=by
 unfold Bi kL
 rw [lh]
 simp only [ba]
 repeat' split
 all_goals rfl
theorem Dx(a:gM)(kinds:List Int):(OT a kinds).2=(Bi a kinds).2∧((OT a kinds).2=true→(OT a kinds).1=(Bi a kinds).1):=by
 unfold Bi kL OT
 rw [lh]
 simp only [ba]
 by_cases h1:a.Tag=1
 ·simp [h1,NZ]
 by_cases h2:a.Tag=2
 ·by_cases he:(fC a.Arg kinds).2=0<;>simp [h2,he]
 by_cases h3:a.Tag=3
 ·by_cases he:(fC a.Arg kinds).2=0
  ·by_cases h0:(fC a.Arg kinds).1=0
   ·simp [h3,he,h0]
   ·by_cases h02:(fC a.Arg kinds).1=2<;>simp [h3,he,h0,h02]
  ·simp [h3,he]
 by_cases h4:a.Tag=4
 ·by_cases he:(fC a.Arg kinds).2=0<;>simp [h4,he]
 by_cases h5:a.Tag=5
 ·by_cases he:(fC a.Arg kinds).2=0<;>simp [h5,he]
 have:a.Tag<1∨5<a.Tag:=by omega
 simp [h1,h2,h3,h4,h5,this]
def Bl(p:Option (List Int×Bool))(q:Option (List Int×Bool))(last:Bool):Prop:=
 ∃k o k',p=some (k,o&&last)∧q=some (k',o)∧(o=true→k=k')
theorem GA(c:aC)(n:ak)(a b:List Int)(hn:iW n)(hop:n.Op=1):Bl (fS c n) (bq n a b) true:=by
 have h:=hn.kinds
 have key: ∀(tl:List Int) (i:Nat) (fu:Nat) (ok:Bool),n.Kinds.drop i=tl→tl.length<fu→dA n fu ok (i:Int)=some (n.Kinds,((((ok&&tl.all fun k=>decide (1≤k)&&decide (k≤3))&&(decide ((0:Int)≤n.Table)))&&(decide (n.Table≤(3:Int))))&&(decide ((1:Int)≤(n.Kinds.length:Int))))&&(decide ((n.Kinds.length:Int)≤(4:Int)))):=by
  intro tl
  induction tl with
  |nil=>
   intro i fu ok hd hf
   obtain⟨fu,rfl⟩: ∃k,fu=k+1:=⟨fu-1,by omega⟩
   have:=tg hd
   rw [dA,aM (by simp;omega)]
   simp
  |cons x tl ih=>
   intro i fu ok hd hf
   simp only [gX]at hf
   obtain⟨fu,rfl⟩: ∃k,fu=k+1:=⟨fu-1,by omega⟩
   obtain⟨h1,h2,h3⟩:=kw hd
   rw [dA,aX (by simp;omega),h1,cv (by omega) (by omega)]
   simp only [ba]
   have e:((i:Int)+1)=((i+1:Nat):Int):=by omega
   rw [e]
   have e2:((if ok=true then some (decide ((1:Int)≤x))else some false).bind fun t=>(if t=true then some (decide (x≤(3:Int)))else some false).bind fun t1=>dA n fu t1 ((i+1:Nat):Int))=dA n fu (ok&&(decide (1≤x)&&decide (x≤3))) ((i+1:Nat):Int):=by
    cases ok<;>by_cases hx:(1:Int)≤x<;>simp [hx]
   rw [e2,ih (i+1) fu _ h3 (by omega)]
   simp only [yB,Gd]
 have hr:bq n a b=dA n im true (0:Int):=by unfold bq;rw [aX (by simp [hop])]
 rw [hr,show((0:Int))=((0:Nat):Int)from rfl,key n.Kinds 0 im true rfl (wL (Dy _) (mB (by omega)))]
 unfold fS
 have hc:cz n.Kinds ji=some (n.Kinds.any fun k=> !(((k==(1:Int))||(k==(2:Int)))||(k==(3:Int)))):=jJ (fun v=>rfl) _
 rw [hc]
 simp only [ba]
 have e3:(!(n.Kinds.any fun k=> !(((k==(1:Int))||(k==(2:Int)))||(k==(3:Int)))))=n.Kinds.all fun k=>decide (1≤k)&&decide (k≤3):=by
  rw [List.not_any_eq_all_not]
  congr 1
  funext k
  rw [Bool.not_not,zk]
  simp;omega
 rw [e3]
 refine⟨n.Kinds,_,n.Kinds,?_,rfl,fun _=>rfl⟩
 cases h4:(n.Kinds.all fun k=>decide (1≤k)&&decide (k≤3))<;>by_cases t1:0≤n.Table<;>by_cases t2:n.Table<4<;>by_cases l1:(1:Int)≤(n.Kinds.length:Int)<;>by_cases l2:(n.Kinds.length:Int)≤4<;>simp [t1,t2,l1,l2]<;>omega
theorem PC(c:aC)(n:ak)(a b:List Int)(hn:iW n)(hop:n.Op=2)(ha:cR c.kinds n.A=some a)(hb:cR c.kinds n.B=some b)(hal:a.length≤16)(hbl:b.length≤16):Bl (gI c n) (bq n a b) true:=by
 unfold gI bq
 rw [ha,hb,aM (by simp [hop]),aX (by simp [hop])]
 simp only [ba]
 rw [Lp _ _ (by omega) (by omega),bY (by simp;omega)]
 simp only [ba,kz]
 rw [bY (by omega)]
 simp only [ba]
 rw [xq _ _ hn.cond,lI]
 exact⟨_,HD n.Cond (a++b),_,by simp,rfl,fun _=>rfl⟩
theorem KH(c:aC)(n:ak)(a b:List Int)(hn:iW n)(hop:n.Op=3)(ha:cR c.kinds n.A=some a):Bl (fT c n) (bq n a b) true:=by
 unfold fT bq
 rw [ha,aM (by simp [hop]),aM (by simp [hop]),aX (by simp [hop])]
 simp only [ba]
 rw [xq _ _ hn.cond,lI]
 exact⟨_,HD n.Cond a,_,by simp,rfl,fun _=>rfl⟩
theorem Ga(c:aC)(n:ak)(a b:List Int)(hop:n.Op=6)(ha:cR c.kinds n.A=some a):Bl (eT c n) (bq n a b) true:=by
 unfold eT bq
 rw [ha,aM (by simp [hop]),aM (by simp [hop]),aM (by simp [hop]),aM (by simp [hop]),aM (by simp [hop]),aX (by simp [hop])]
 exact⟨_,true,_,rfl,rfl,fun _=>rfl⟩
theorem H2(c:aC)(n:ak)(a b:List Int)(hn:iW n)(hop:n.Op=5)(ha:cR c.kinds n.A=some a):Bl (fj c n) (bq n a b) true:=by
 have h:=hn.items
 have hr:bq n a b=dN n a im [] true (0:Int):=by unfold bq;rw [aM (by simp [hop]),aM (by simp [hop]),aM (by simp [hop]),aM (by simp [hop]),aX (by simp [hop])]
 have key: ∀(tl:List bK) (i:Nat) (fu:Nat) (out:List Int) (ok:Bool),n.Items.drop i=tl→i+tl.length=n.Items.length→tl.length<fu→out.length=i→dN n a fu out ok (i:Int)=some (out++tl.map (fun e=>(fC e a).1),((ok&&tl.all fun e=>(fC e a).2==0)&&(decide ((1:Int)≤(n.Items.length:Int))))&&(decide ((n.Items.length:Int)≤(16:Int)))):=by
  intro tl
  induction tl with
  |nil=>
   intro i fu out ok hd hi hf ho
   obtain⟨fu,rfl⟩: ∃k,fu=k+1:=⟨fu-1,by omega⟩
   simp only [oC,wG]at hi
   rw [dN,aM (by simp;omega)]
   simp [ho,hi]
  |cons x tl ih=>
   intro i fu out ok hd hi hf ho
   simp only [gX]at hf hi
   obtain⟨fu,rfl⟩: ∃k,fu=k+1:=⟨fu-1,by omega⟩
   obtain⟨h1,h2,h3⟩:=kw hd
   rw [dN,aX (by simp;omega),h1]
   simp only [ba]
   rw [lh]
   simp only [ba]
   rw [bY (by simp;omega),cv (by omega) (by omega)]
   simp only [ba]
   have e:((i:Int)+1)=((i+1:Nat):Int):=by omega
   rw [e,ih (i+1) fu _ _ h3 (by omega) (by omega) (by simp [ho])]
   simp [Gd]
 rw [hr,show((0:Int))=((0:Nat):Int)from rfl,key n.Items 0 im [] true rfl (by simp) (wL (Dy _) (mB (by omega))) rfl]
 unfold fj
 have key2: ∀(tl:List bK) (out:List Int) (ok:Bool),(∀e∈tl,e.Nodes.length≤5000)→out.length+tl.length≤5000→fd c n tl out ok=some (out++tl.map (fun e=>(fC e a).1),ok&&tl.all fun e=>(fC e a).2==0):=by
  intro tl
  induction tl with
  |nil=>intro out ok _ _;simp [fd]
  |cons x tl ih=>
   intro out ok he hl
   simp only [gX]at hl
   rw [fd,ha]
   simp only [ba]
   rw [vS _ _ (by have:=he x (kE ..);omega)]
   simp only [ba]
   rw [bY (by simp;omega)]
   simp only [ba]
   rw [ih _ _ (fun e h=>he e (ky _ h)) (by simp;omega)]
   simp [Gd]
 rw [key2 n.Items [] _ hn.exprs (by simp;omega)]
 refine⟨_,_,_,?_,rfl,fun _=>rfl⟩
 simp only [yQ,uE]
 congr 2
 cases (n.Items.all fun e=>(fC e a).2==0)<;>simp
def XI(a:List Int)(e:Int):Int:=(a[e.toNat]?).getD 0
def H7(a:List Int)(e:Int):Bool:=decide (e<0)||decide ((a.length:Int)≤e)
theorem Rv{a:List Int}{e:Int}(h:H7 a e=false):cR a e=some (XI a e):=by
 simp [H7]at h
 rw [gJ e.toNat (by omega),ox (by omega)]
 unfold XI
 rw [ox (by omega)];rfl
theorem My(c:aC)(n:ak)(a b:List Int)(hn:iW n)(hop:n.Op=4)(ha:cR c.kinds n.A=some a):Bl (gq c n) (bq n a b) true:=by
 have hK:=hn.keys
 have hA:=hn.aggs
 have hr:bq n a b=dP n a im [] (0:Int):=by unfold bq;rw [aM (by simp [hop]),aM (by simp [hop]),aM (by simp [hop]),aX (by simp [hop])]
 have key3: ∀(tl:List gM) (i:Nat) (fu:Nat) (out:List Int) (ok:Bool),n.Aggs.drop i=tl→i+tl.length=n.Aggs.length→tl.length<fu→out.length≤5000+i→dO n a fu out ok (i:Int)=some (out++tl.map (fun e=>(Bi e a).1),(((ok&&tl.all fun e=>(Bi e a).2)&&(decide ((n.Keys.length:Int)≤(3:Int))))&&(decide ((n.Aggs.length:Int)≤(12:Int))))&&(decide ((0:Int)<((out.length+tl.length:Nat):Int)))):=by
  intro tl
  induction tl with
  |nil=>
   intro i fu out ok hd hi hf ho
   obtain⟨fu,rfl⟩: ∃k,fu=k+1:=⟨fu-1,by omega⟩
   simp only [oC,wG]at hi
   rw [dO,aM (by simp;omega)]
   simp
  |cons x tl ih=>
   intro i fu out ok hd hi hf ho
   simp only [gX]at hf hi
   obtain⟨fu,rfl⟩: ∃k,fu=k+1:=⟨fu-1,by omega⟩
   obtain⟨h1,h2,h3⟩:=kw hd
   rw [dO,aX (by simp;omega),h1]
   simp only [ba]
   rw [o5]
   simp only [ba]
   rw [bY (by simp;omega),cv (by omega) (by omega)]
   simp only [ba]
   have e:((i:Int)+1)=((i+1:Nat):Int):=by omega
   rw [e,ih (i+1) fu _ _ h3 (by omega) (by omega) (by simp;omega)]
   simp only [wi,yB,Gd,jK,iF,gX,oC,wI,kz]
   rw [show out.length+(0+1)+tl.length=out.length+(tl.length+1)from by omega]
 have key2: ∀(tl:List Int) (i:Nat) (fu:Nat) (out:List Int),n.Keys.drop i=tl→i+tl.length=n.Keys.length→tl.length<fu→out.length=i→dP n a fu out (i:Int)=if tl.any (H7 a)then some ([],false)else dO n a im (out++tl.map (XI a)) true 0:=by
  intro tl
  induction tl with
  |nil=>
   intro i fu out hd hi hf ho
   obtain⟨fu,rfl⟩: ∃k,fu=k+1:=⟨fu-1,by omega⟩
   simp only [oC,wG]at hi
   rw [dP,aM (by simp;omega)]
   simp
  |cons x tl ih=>
   intro i fu out hd hi hf ho
   simp only [gX]at hf hi
   obtain⟨fu,rfl⟩: ∃k,fu=k+1:=⟨fu-1,by omega⟩
   obtain⟨h1,h2,h3⟩:=kw hd
   rw [dP,aX (by simp;omega),h1]
   simp only [ba]
   cases hx:H7 a x with
   |true=>
    have hx' :(decide (x<0)||decide ((a.length:Int)≤x))=true:=hx
    rw [aX hx',aX (by simp [hx])]
   |false=>
    have hx' : ¬(decide (x<0)||decide ((a.length:Int)≤x))=true:=by rw [show(decide (x<0)||decide ((a.length:Int)≤x))=H7 a x from rfl,hx];decide
    rw [aM hx',Rv hx]
    simp only [ba]
    rw [bY (by simp;omega),cv (by omega) (by omega)]
    simp only [ba]
    have e:((i:Int)+1)=((i+1:Nat):Int):=by omega
    rw [e,ih (i+1) fu _ h3 (by omega) (by omega) (by simp [ho])]
    simp [hx]
 rw [hr,show((0:Int))=((0:Nat):Int)from rfl,key2 n.Keys 0 im [] rfl (by simp) (wL (Dy _) (mB (by omega))) rfl]
 rw [show((0:Int))=((0:Nat):Int)from rfl,key3 n.Aggs 0 im _ true rfl (by simp) (wL (Dy _) (mB (by omega))) (by simp;omega)]
 unfold gq
 rw [ha,cv (by omega) (by omega)]
 simp only [ba]
 have hp:rY n.Keys a=some (!(n.Keys.any (H7 a))):=by
  unfold rY
  rw [jJ (f:=pP a) (g:=H7 a) (fun v=>rfl)]
  rfl
 rw [hp]
 simp only [ba,kz,Cm]
 have kl: ∀(tl:List gM) (out:List Int) (ok:Bool),(∀e∈tl,e.Arg.Nodes.length≤5000)→out.length+tl.length≤10000→eS a tl out ok=some (out++tl.map (fun e=>(OT e a).1),ok&&tl.all fun e=>(OT e a).2):=by
  intro tl
  induction tl with
  |nil=>intro out ok _ _;simp [eS]
  |cons x tl ih=>
   intro out ok he hl
   simp only [gX]at hl
   rw [eS,If _ _ (he x (kE ..))]
   simp only [ba]
   rw [bY (by simp;omega)]
   simp only [ba]
   rw [ih _ _ (fun e h=>he e (ky _ h)) (by simp;omega)]
   simp [Gd]
 have kl1: ∀(t:Bool) (tl out:List Int),tl.any (H7 a)=false→out.length+tl.length≤5000→gh n a t tl out=eS a n.Aggs (out++tl.map (XI a)) t:=by
  intro t tl
  induction tl with
  |nil=>intro out _ _;simp [gh]
  |cons x tl ih=>
   intro out ho hl
   simp only [gX]at hl
   simp only [wO,Bool.or_eq_false_iff]at ho
   rw [gh,Rv ho.1]
   simp only [ba]
   rw [bY (by simp;omega)]
   simp only [ba]
   rw [ih _ ho.2 (by simp;omega)]
   simp
 have hall:(n.Aggs.all fun e=>(OT e a).2)=n.Aggs.all fun e=>(Bi e a).2:=by
  congr 1;funext e;exact(Dx e a).1
 have hmap:(n.Aggs.all fun e=>(OT e a).2)=true→n.Aggs.map (fun e=>(OT e a).1)=n.Aggs.map fun e=>(Bi e a).1:=by
  intro h
  exact I5 fun e he=>(Dx e a).2 (jx.1 h e he)
 cases hany:n.Keys.any (H7 a)with
 |true=>exact⟨[],false,[],by simp,by simp,fun _=>rfl⟩
 |false=>
  by_cases hb:((n.Keys.length≤3∧n.Aggs.length≤12)∧0<n.Keys.length+n.Aggs.length)
  ·have hb' :(((decide ((n.Keys.length:Int)≤(3:Int)))&&(decide ((n.Aggs.length:Int)≤(12:Int))))&&(decide ((0:Int)<(n.Keys.length:Int)+(n.Aggs.length:Int))))=true:=by simp;omega
   simp only [hb',eK,Bs,mi,fZ,d9,ba]
   rw [kl1 true n.Keys [] hany (by simp;omega),kl n.Aggs _ true hn.args (by simp;omega)]
   refine⟨n.Keys.map (XI a)++n.Aggs.map (fun e=>(OT e a).1),n.Aggs.all fun e=>(Bi e a).2,n.Keys.map (XI a)++n.Aggs.map (fun e=>(Bi e a).1),by simp [hall],?_,fun h=>?_⟩
   ·have h1:(decide ((n.Keys.length:Int)≤(3:Int)))=true:=by simp;omega
    have h2:(decide ((n.Aggs.length:Int)≤(12:Int)))=true:=by simp;omega
    have h3:(decide ((0:Int)<((n.Keys.length+n.Aggs.length:Nat):Int)))=true:=by simp;omega
    simp only [h1,h2,h3,yQ,uE]
   ·rw [hmap (by rw [hall];exact h)]
  ·have hb' :(((decide ((n.Keys.length:Int)≤(3:Int)))&&(decide ((n.Aggs.length:Int)≤(12:Int))))&&(decide ((0:Int)<(n.Keys.length:Int)+(n.Aggs.length:Int))))=false:=by rw [rn];simp;omega
   simp only [hb',eK,Bs,fZ,d9,ba]
   refine⟨[],false,n.Keys.map (XI a)++n.Aggs.map (fun e=>(Bi e a).1),by simp,?_,by simp⟩
   have:((((true&&n.Aggs.all fun e=>(Bi e a).2)&&(decide ((n.Keys.length:Int)≤(3:Int))))&&(decide ((n.Aggs.length:Int)≤(12:Int))))&&(decide ((0:Int)<((n.Keys.length+n.Aggs.length:Nat):Int))))=false:=by rw [rn];simp;omega
   rw [this]
def QB(x y:Int):Int:=if x=0 then y else x
def Jl(p:Int×Int):Bool:=(p.2==QB p.1 p.2)||p.2==0
theorem LI(c:aC)(n:ak)(a b:List Int)(hop:n.Op=7)(ha:cR c.kinds n.A=some a)(hb:cR c.kinds n.B=some b)(hal:a.length≤16):Bl (gn c n) (bq n a b) true:=by
 unfold gn bq
 rw [ha,hb,aM (by simp [hop]),aM (by simp [hop]),aM (by simp [hop]),aM (by simp [hop]),aM (by simp [hop]),aM (by simp [hop]),aX (by simp [hop])]
 simp only [ba]
 by_cases hl:a.length=b.length
 ·rw [aM (by simp;omega),aM (by simp;omega),se _ (by omega)]
  simp only [ba]
  have kc: ∀(tl pre suf:List Int) (ok:Bool),suf.length=tl.length→dE tl pre.length (pre++suf) ok=some (pre++List.zipWith QB suf tl,ok&&(suf.zip tl).all Jl):=by
   intro tl
   induction tl with
   |nil=>
    intro pre suf ok h
    have:suf=[]:=tI h
    subst this
    simp [dE]
   |cons y tl ih=>
    intro pre suf ok h
    cases suf with
    |nil=>simp at h
    |cons x suf=>
     simp only [gX,Nat.add_right_cancel_iff]at h
     rw [dE,bW,tH (dn _),zj]
     simp only [FL,ba]
     have step: ∀(z:Int),ig (dE tl) pre.length y ok (pre++z::suf)=some (pre++z::List.zipWith QB suf tl,ok&&((z==y||y==0)&&(suf.zip tl).all Jl)):=by
      intro z
      unfold ig
      rw [bW,tH (dn _),zj]
      simp only [FL,ba]
      have e1:pre++z::suf=(pre++[z])++suf:=by simp
      have e2:pre.length+1=(pre++[z]).length:=by simp
      cases ok with
      |true=>
       simp only [eK,ba,uE]
       rw [e1,e2,ih (pre++[z]) suf _ h]
       simp
      |false=>
       simp only [fZ,d9,ba,DC]
       rw [e1,e2,ih (pre++[z]) suf _ h]
       simp
     by_cases hx:x=0
     ·subst hx
      rw [aX (by simp)]
      have e3:(pre++(0:Int)::suf).set ((pre.length:Int)).toNat y=pre++y::suf:=by
       rw [Ac,List.set_append_right _ _ (dn _),zj];rfl
      rw [e3]
      refine(step y).trans ?_
      simp [Jl,QB]
     ·rw [aM (by simpa using hx),step x]
      have:QB x y=x:=by unfold QB;rw [aM hx]
      simp only [List.zipWith_cons_cons,List.zip_cons_cons,yB,Jl,this]
      have e4:(y==x)=(x==y):=by rw [zk,sx,sx];exact eq_comm
      rw [e4]
  have kr: ∀(tl tb:List Int) (i:Nat) (out:List Int) (ok:Bool),b.drop i=tb→tl.length=tb.length→out.length+tl.length≤1000→dy b tl i out ok=some (out++List.zipWith QB tl tb,ok&&(tl.zip tb).all Jl):=by
   intro tl
   induction tl with
   |nil=>
    intro tb i out ok hd h _
    have:tb=[]:=tI h.symm
    subst this
    simp [dy]
   |cons x tl ih=>
    intro tb i out ok hd h hm
    cases tb with
    |nil=>simp at h
    |cons y tb=>
     simp only [gX,Nat.add_right_cancel_iff]at h hm
     obtain⟨h1,h2,h3⟩:=kw hd
     rw [dy,h1]
     simp only [ba]
     have step: ∀z:Int,ic b (dy b tl) i out ok z=some (out++z::List.zipWith QB tl tb,ok&&((y==z||y==0)&&(tl.zip tb).all Jl)):=by
      intro z
      unfold ic
      rw [bY (by simp;omega),h1]
      simp only [ba]
      cases ok with
      |true=>
       simp only [eK,ba,uE]
       cases hyz:y==z with
       |true=>
        simp only [mi,fZ,d9,ba]
        rw [ih tb (i+1) _ _ h3 h (by simp;omega)]
        simp
       |false=>
        simp only [Bs,eK,ba]
        rw [ih tb (i+1) _ _ h3 h (by simp;omega)]
        simp
      |false=>
       simp only [fZ,d9,ba,DC]
       rw [ih tb (i+1) _ _ h3 h (by simp;omega)]
       simp
     by_cases hx:x=0
     ·subst hx
      rw [aX (by simp),step y]
      simp [Jl,QB]
     ·rw [aM (by simpa using hx),step x]
      have:QB x y=x:=by unfold QB;rw [aM hx]
      simp only [List.zipWith_cons_cons,List.zip_cons_cons,yB,Jl,this]
  have h1:=kc b [] a true hl
  rw [oC,kz]at h1
  rw [h1,kr a b 0 [] true rfl hl (by simp;omega)]
  exact⟨_,_,_,by rw [yQ],rfl,fun _=>rfl⟩
 ·rw [aX (by simp;omega),aX (by simp;omega)]
  exact⟨[],false,[],rfl,rfl,fun _=>rfl⟩
theorem Mo(c:aC)(n:ak)(a b:List Int)(hn:iW n)(hop:n.Op=8)(ha:cR c.kinds n.A=some a):Bl (gp c n) (bq n a b) ((c.kinds.length:Int)==IntKind.i64.wrap ((c.Logic.Nodes.length:Int)-(1:Int))):=by
 have h:=hn.order
 have hr:bq n a b=dg n a im true (0:Int):=by unfold bq;rw [aM (by simp [hop]),aM (by simp [hop]),aM (by simp [hop]),aM (by simp [hop]),aM (by simp [hop]),aM (by simp [hop]),aM (by simp [hop])]
 have key: ∀(tl:List gE) (i:Nat) (fu:Nat) (ok:Bool),n.Order.drop i=tl→i+tl.length=n.Order.length→tl.length<fu→dg n a fu ok (i:Int)=some (a,((((ok&&tl.all fun e=>decide (0≤e.Col)&&decide (e.Col<(a.length:Int)))&&(decide ((n.Order.length:Int)≤(3:Int))))&&(decide ((-1:Int)≤n.Limit)))&&(decide (n.Limit≤(2147483647:Int))))):=by
  intro tl
  induction tl with
  |nil=>
   intro i fu ok hd hi hf
   obtain⟨fu,rfl⟩: ∃k,fu=k+1:=⟨fu-1,by omega⟩
   simp only [oC,wG]at hi
   rw [dg,aM (by simp;omega)]
   simp
  |cons x tl ih=>
   intro i fu ok hd hi hf
   simp only [gX]at hf hi
   obtain⟨fu,rfl⟩: ∃k,fu=k+1:=⟨fu-1,by omega⟩
   obtain⟨h1,h2,h3⟩:=kw hd
   rw [dg,aX (by simp;omega),h1,cv (by omega) (by omega)]
   simp only [ba]
   have e:((i:Int)+1)=((i+1:Nat):Int):=by omega
   rw [e]
   have e2:((if ok=true then some (decide ((0:Int)≤x.Col))else some false).bind fun t=>(if t=true then some (decide (x.Col<(a.length:Int)))else some false).bind fun t1=>dg n a fu t1 ((i+1:Nat):Int))=dg n a fu (ok&&(decide (0≤x.Col)&&decide (x.Col<(a.length:Int)))) ((i+1:Nat):Int):=by
    cases ok<;>by_cases hx:(0:Int)≤x.Col<;>simp [hx]
   rw [e2,ih (i+1) fu _ h3 (by omega) (by omega)]
   simp only [yB,Gd]
 rw [hr,show((0:Int))=((0:Nat):Int)from rfl,key n.Order 0 im true rfl (by simp) (wL (Dy _) (mB (by omega)))]
 unfold gp
 rw [ha]
 simp only [ba]
 rw [yO (f:=kq a) (g:=fun o=>(decide (o.Col<(0:Int)))||(decide ((a.length:Int)≤o.Col))) (fun v=>rfl)]
 simp only [ba]
 have e3:(!(n.Order.any fun o=>(decide (o.Col<(0:Int)))||(decide ((a.length:Int)≤o.Col))))=n.Order.all fun e=>decide (0≤e.Col)&&decide (e.Col<(a.length:Int)):=by
  rw [List.not_any_eq_all_not]
  congr 1
  funext k
  rw [zk]
  simp
 rw [e3]
 refine⟨a,_,a,?_,rfl,fun _=>rfl⟩
 cases h4:(n.Order.all fun e=>decide (0≤e.Col)&&decide (e.Col<(a.length:Int)))<;>by_cases l1:(n.Order.length:Int)≤3<;>simp [l1]

def atR(r:cA)(c:Int):ac:=(r[c.toNat]?).getD zV
def Zg(o:gE)(n:Int):Int:=if o.Desc then -n else n
def G9:List gE→cA→cA→Int
 |[],a,b=>eE a b
 |o::t,a,b=>IZ (Zg o (val (atR a o.Col) (atR b o.Col))) (G9 t a b)
theorem Tj(o:gE):Cg (fun x y=>Zg o (val x y)):=by
 have h:=rK
 unfold Zg
 cases o.Desc with
 |false=>exact h
 |true=>
  refine⟨fun x y=>?_,fun x y=>?_,fun x y=>?_,fun x y z h1 h2=>?_⟩
  ·rcases h.rng x y with q|q|q<;>simp [q]
  ·have:=h.anti x y;simp [this]
  ·simp only [eK];rw [←h.eq x y];omega
  ·simp only [eK]at h1 h2 ⊢
   have a1:=h.anti x y;have a2:=h.anti y z;have a3:=h.anti x z
   have:=h.trans z y x (by omega) (by omega)
   omega
theorem G8: ∀order:List gE,Cg (G9 order)
 |[]=>ik
 |o::t=>
  have h:=Cg.lex (Tj o) (G8 t)
  ⟨fun x y=>h.rng (atR x o.Col,x) (atR y o.Col,y),fun x y=>h.anti (atR x o.Col,x) (atR y o.Col,y),fun x y=>(h.eq (atR x o.Col,x) (atR y o.Col,y)).trans ⟨fun e=>(Prod.mk.injEq ..▸e).2,fun e=>by rw [e]⟩,fun x y z=>h.trans (atR x o.Col,x) (atR y o.Col,y) (atR z o.Col,z)⟩
def V5(order:List gE)(r:cA):Bool:=order.all fun o=>decide (0≤o.Col)&&decide (o.Col<(r.length:Int))
theorem Ij{c:Int}(h:0≤c)(h2:c<(r.length:Int)):cR r c=some (atR r c):=by
 obtain⟨k,hk⟩:=DH h
 subst hk
 have hk:k<r.length:=by omega
 unfold atR
 rw [gJ k rfl]
 simp [hk]
theorem Ha(hr:ke r=true){c:Int}(h:0≤c)(h2:c<(r.length:Int)):fF (atR r c)=true:=by
 have hm:atR r c∈r:=by
  obtain⟨k,hk⟩:=DH h
  subst hk
  have hk:k<r.length:=by omega
  unfold atR
  simp [hk]
 unfold ke at hr
 simp only [lX,jx]at hr
 exact hr.2 _ hm
theorem Ti{β:Type}(o:gE){n:Int}(h:n= -1∨n=0∨n=1)(f:Int→β):(if o.Desc then f (IntKind.i64.wrap (0-n))else f n)=f (Zg o n):=by
 unfold Zg
 cases o.Desc with
 |false=>rfl
 |true=>rcases h with h|h|h<;>subst h<;>rfl
theorem Kj{o:gE}{t:List gE}(h:V5 (o::t) r=true):0≤o.Col∧o.Col<(r.length:Int)∧V5 t r=true:=by
 unfold V5 at h ⊢
 rw [yB]at h
 simp only [lX,kI]at h
 exact⟨h.1.1,h.1.2,h.2⟩
theorem WI{a b:cA}(ha:ke a=true)(hb:ke b=true): ∀order:List gE,V5 order a=true→V5 order b=true→nY order a b=some (G9 order a b)
 |[],_,_=>by
  unfold nY jm
  rw [zi ha hb];rfl
 |o::t,h1,h2=>by
  obtain⟨p1,p2,p3⟩:=Kj h1
  obtain⟨q1,q2,q3⟩:=Kj h2
  have ih:=WI ha hb t p3 q3
  unfold nY at ih ⊢
  unfold jm
  rw [Ij p1 p2,Ij q1 q2,ba,ba,qC (Ha ha p1 p2) (Ha hb q1 q2),ba]
  have hs:=Ti o (rK.rng (atR a o.Col) (atR b o.Col)) (nX (jm a b t))
  rw [hs,ih]
  unfold nX
  show _=some (IZ _ _)
  unfold IZ
  split<;>rfl
def MU(limit:Int)(l:List cA):List cA:=if 0≤limit∧limit<(l.length:Int)then l.take limit.toNat else l
theorem Ys(limit:Int)(l:List cA)(k:List cA→Option (List cA))(hk: ∀x,k x=some x):(if((decide ((0:Int)≤limit))&&(decide (limit<(l.length:Int))))then((dj l 0 limit).bind fun y=>k y)else k l)=some (MU limit l):=by
 unfold MU
 by_cases h:0≤limit∧limit<(l.length:Int)
 ·rw [aX (by simp [h.1,h.2]),aX h,iO (xs:=l) (i:=0) (j:=limit) 0 limit.toNat rfl (by omega) (lw _) (by omega),ba,hk]
  simp
 ·rw [aM (by simp only [lX,kI];exact h),aM h,hk]
structure Nk(order:List gE)(l:List cA):Prop where
 right: ∀r∈l,ke r=true
 cols: ∀r∈l,V5 order r=true
theorem Gv(order:List gE)(limit:Int): ∀(rows out:List cA),Nk order (out++rows)→out.length+rows.length≤1000000→j3 order limit rows out=some (MU limit (rC (G9 order) (out++rows)))
 |[],out,h,hl=>by
  unfold j3
  rw [sy]at h ⊢
  have e:B2 order=some (nY order):=rfl
  rw [e,ba]
  rw [Jy (G8 order) (fun x hx y hy=>by exact WI (h.right x hx) (h.right y hy) order (h.cols x hx) (h.cols y hy)) (by simp at hl;omega),ba]
  exact Ys limit _ oq (fun _=>rfl)
 |r::t,out,h,hl=>by
  rw [gX]at hl
  unfold j3
  have hr:=Me (h.right r (by simp))
  rw [Ch r (by omega),ba,bY (by simp;omega),ba,Gv order limit t (out++[r]) (by rwa [jK,Gn]) (by simp only [iF,wN];omega)]
  rw [jK,Gn]
theorem B0{order:List gE}(h:Nk order rows)(hl:rows.length≤1000000)(limit:Int):oL rows order limit=some (MU limit (rC (G9 order) rows)):=by
 unfold oL
 rw [Gv order limit rows [] (by simpa using h) (by simpa using hl)]
 rfl
end Go.Proofs.YtfhhakidodmdfaaGreatDoor

