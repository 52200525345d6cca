/- db of this claim: M11, M12, M13, M14, M15, J1, K5, J2, J3, K6, K7, K8, L4, J4. -/
import Derived.Test.YtfhhakidodmdfaaGreatDoorJbQ1
set_option linter.all false
namespace Go.Proofs.YtfhhakidodmdfaaGreatDoor
open Go

def jJ(m:Nat):List Int:=[((m%4294967296:Nat):Int),((m/4294967296%4294967296:Nat):Int),((m/18446744073709551616%4294967296:Nat):Int),((m/79228162514264337593543950336%4294967296:Nat):Int),0,0,0,0]
def ly(z:Int):eN:=⟨jJ z.natAbs,decide (z<0)⟩
variable{m:Nat}
theorem vd(h:m<18446744073709551616):jJ m=[((m%4294967296:Nat):Int),((m/4294967296:Nat):Int),0,0,0,0,0,0]:=by
 unfold jJ
 rw [Co (show m/4294967296<4294967296 by omega),Nat.div_eq_of_lt h,Nat.div_eq_of_lt (show m<79228162514264337593543950336 by omega)]
 rfl
variable{x:Int}
theorem DY(x:Nat):((x:Int)).tmod 4294967296=((x%4294967296:Nat):Int):=rfl
theorem xw{u:Nat}(h:u<18446744073709551616):fi .xor .u64 (if IntKind.u64.signed then -1 else IntKind.u64.max) (u:Int)=((18446744073709551615-u:Nat):Int):=by
 have e:fi .xor .u64 (if IntKind.u64.signed then -1 else IntKind.u64.max) (u:Int)=IntKind.u64.wrap (((BitVec.ofInt 64 (if IntKind.u64.signed then -1 else IntKind.u64.max)^^^BitVec.ofInt 64 (u:Int)).toNat:Nat):Int):=rfl
 have e1:BitVec.ofInt 64 (if IntKind.u64.signed then -1 else IntKind.u64.max)=BitVec.allOnes 64:=by decide
 have e2:BitVec.ofInt 64 (u:Int)=BitVec.ofNat 64 u:=BitVec.ofInt_natCast 64 u
 rw [e,e1,e2,BitVec.allOnes_xor,BitVec.toNat_not,BitVec.toNat_ofNat,Co (by omega:u<2^64),qm (by omega)]
variable{b:ac}
theorem KY(m:Nat)(h:m<18446744073709551616)(b:Bool):nL 0 (m:Int) ⟨List.replicate 8 0,b⟩=some ⟨jJ m,b⟩:=by
 rw [vd h]
 unfold nL
 rw [DY,wj]
 rfl
variable{z:Int}
theorem ji(h:r64 z):fN z=some (ly z):=by
 unfold r64 at h
 unfold fN ly
 by_cases hz:z<0
 ·rw [aY (by simpa using hz)]
  unfold rb
  rw [aY (by decide)]
  have eu:IntKind.u64.wrap z=((18446744073709551616-z.natAbs:Nat):Int):=by rw [tI];omega
  rw [eu,xw (by omega)]
  have e1:IntKind.u64.wrap (((18446744073709551615-(18446744073709551616-z.natAbs):Nat):Int)+1)=((z.natAbs:Nat):Int):=by rw [tI];omega
  rw [e1,aM (by simp;omega)]
  have e2:IntKind.u64.wrap (-1)=((18446744073709551615:Nat):Int):=by decide
  rw [e2,xw (by omega)]
  have:=KY z.natAbs (by omega) true
  rw [show((18446744073709551615-18446744073709551615:Nat):Int)=0 from rfl,this]
  simp [hz]
 ·rw [aM (by simpa using hz)]
  unfold rb
  rw [aM (by decide)]
  have eu:IntKind.u64.wrap z=((z.natAbs:Nat):Int):=by rw [tI];omega
  rw [eu,show IntKind.u64.wrap 0=0 from by decide,KY z.natAbs (by omega) false]
  simp [hz]
theorem DK(h:m<340282366920938463463374607431768211456)(b:Bool):sW ⟨jJ m,b⟩=some (decide (m=0)):=by
 unfold sW
 congr 1
 apply jK
 simp only [kO]
 constructor
 ·intro he
  unfold jJ at he
  have he:[((m%4294967296:Nat):Int),((m/4294967296%4294967296:Nat):Int),((m/18446744073709551616%4294967296:Nat):Int),((m/79228162514264337593543950336%4294967296:Nat):Int),0,0,0,0]=[0,0,0,0,0,0,0,0]:=he
  simp only [List.cons.injEq]at he
  omega
 ·intro he;subst he;rfl
theorem PT(h:z.natAbs<340282366920938463463374607431768211456):r0 (ly z)=some (ly (-z)):=by
 unfold r0 ly
 rw [DK h]
 simp only [Int.natAbs_neg]
 by_cases h1:z<0
 ·have h2: ¬(-z<0):=by omega
  simp [h1,h2]
  omega
 ·by_cases h0:z=0
  ·subst h0;simp
  ·have h2: -z<0:=by omega
   have h3: ¬z.natAbs=0:=by omega
   have h4:decide (z<0)=false:=yw h1
   have h5:decide (-z<0)=true:=yu h2
   have h6:decide (z.natAbs=0)=false:=yw h3
   rw [h4,h5,h6]
   rfl
variable{i:Nat}
theorem T5(h:i<8):Ro (i:Int) 8=some ():=by unfold Ro;rw [aY (by omega)]
variable{c:List Int}
theorem iz(aa bb ds:List Int)(s t:Bool)(k i:Nat)(hi:i<8)(e1 e2 c:Nat)(h1:aa[i]? =some (e1:Int))(h2:bb[i]? =some (e2:Int))(b1:e1<4294967296)(b2:e2<4294967296)(b3:c≤1):
  gI ⟨aa,s⟩ ⟨bb,s⟩ (k+1) i (c:Int) ⟨ds,t⟩=gI ⟨aa,s⟩ ⟨bb,s⟩ k (i+1) (((e1+e2+c)/4294967296:Nat):Int) ⟨ds.set i (((e1+e2+c)%4294967296:Nat):Int),t⟩:=by
 conv=>lhs;unfold gI
 rw [aY (by simp),T5 hi,bZ,h1,bZ,h2]
 simp only [be]
 rw [←Aj,qm (by omega),←Aj,qm (by omega),wj,DY]
 rfl
theorem iA(aa bb ds:List Int)(s u t:Bool)(hsu:(s==u)=false)(k i:Nat)(hi:i<8)(e1 e2 c:Nat)(h1:aa[i]? =some (e1:Int))(h2:bb[i]? =some (e2:Int))(b1:e1<4294967296)(b2:e2<4294967296)(b3:c≤1):
  gI ⟨aa,s⟩ ⟨bb,u⟩ (k+1) i (c:Int) ⟨ds,t⟩=gI ⟨aa,s⟩ ⟨bb,u⟩ k (i+1) ((1-(e1+4294967296-e2-c)/4294967296:Nat):Int) ⟨ds.set i (((e1+4294967296-e2-c)%4294967296:Nat):Int),t⟩:=by
 conv=>lhs;unfold gI
 rw [aM (by simp only [hsu];decide),T5 hi,bZ,h1,bZ,h2]
 simp only [be]
 have q1:IntKind.u64.wrap ((e1:Int)+4294967296)=((e1+4294967296:Nat):Int):=by rw [Gp (by omega) (by omega)];omega
 have q2:IntKind.u64.wrap (((e1+4294967296:Nat):Int)-(e2:Int))=((e1+4294967296-e2:Nat):Int):=by rw [Gp (by omega) (by omega)];omega
 have q3:IntKind.u64.wrap (((e1+4294967296-e2:Nat):Int)-(c:Int))=((e1+4294967296-e2-c:Nat):Int):=by rw [Gp (by omega) (by omega)];omega
 rw [q1,q2,q3,wj,DY]
 have q4:IntKind.u64.wrap (1-(((e1+4294967296-e2-c)/4294967296:Nat):Int))=((1-(e1+4294967296-e2-c)/4294967296:Nat):Int):=by rw [Gp (by omega) (by omega)];omega
 rw [q4]
 rfl
theorem AE(aa bb:eN)(i:Nat)(c:Int)(m:Nat)(hm:m<340282366920938463463374607431768211456)(t:Bool):gI aa bb 0 i c ⟨jJ m,t⟩=some ⟨jJ m,t&&decide (m≠0)⟩:=by
 unfold gI
 cases t with
 |false=>rfl
 |true=>
  simp only [eQ]
  rw [DK hm]
  simp
variable{p q:Nat}
theorem Zl(hp:p<18446744073709551616)(hq:q<18446744073709551616)(s:Bool):ii ⟨jJ p,s⟩ ⟨jJ q,s⟩=some ⟨jJ (p+q),s&&decide (p+q≠0)⟩:=by
 have hd:jJ (p+q)=[(((p%4294967296+q%4294967296+0)%4294967296:Nat):Int),(((p/4294967296+q/4294967296+(p%4294967296+q%4294967296+0)/4294967296)%4294967296:Nat):Int),(((0+0+(p/4294967296+q/4294967296+(p%4294967296+q%4294967296+0)/4294967296)/4294967296)%4294967296:Nat):Int),0,0,0,0,0]:=by
  unfold jJ
  congr 1
  ·congr 1;omega
  ·congr 1
   ·congr 1;omega
   ·congr 1
    ·congr 1;omega
    ·congr 1
     have:(p+q)/79228162514264337593543950336%4294967296=0:=by omega
     rw [this];rfl
 have rM:=hd
 rw [vd hp,vd hq]
 unfold ii
 generalize hp0:p%4294967296=p0 at rM ⊢
 generalize hp1:p/4294967296=p1 at rM ⊢
 generalize hq0:q%4294967296=q0 at rM ⊢
 generalize hq1:q/4294967296=q1 at rM ⊢
 have c1:(p0+q0+0)/4294967296≤1:=by omega
 generalize hc:(p0+q0+0)/4294967296=c at rM c1 ⊢
 have c2:(p1+q1+c)/4294967296≤1:=by omega
 generalize hcc:(p1+q1+c)/4294967296=cc at rM c2 ⊢
 rw [show((0:Int))=((0:Nat):Int)from rfl]
 rw [iz _ _ _ s s 7 0 (by omega) p0 q0 0 rfl rfl (by omega) (by omega) (by omega),hc]
 rw [iz _ _ _ s s 6 1 (by omega) p1 q1 c rfl rfl (by omega) (by omega) (by omega),hcc]
 rw [iz _ _ _ s s 5 2 (by omega) 0 0 cc rfl rfl (by omega) (by omega) (by omega)]
 have c3:(0+0+cc)/4294967296=0:=by omega
 rw [c3]
 rw [iz _ _ _ s s 4 3 (by omega) 0 0 0 rfl rfl (by omega) (by omega) (by omega)]
 rw [show(0+0+0)/4294967296=0 from rfl]
 rw [iz _ _ _ s s 3 4 (by omega) 0 0 0 rfl rfl (by omega) (by omega) (by omega)]
 rw [show(0+0+0)/4294967296=0 from rfl]
 rw [iz _ _ _ s s 2 5 (by omega) 0 0 0 rfl rfl (by omega) (by omega) (by omega)]
 rw [show(0+0+0)/4294967296=0 from rfl]
 rw [iz _ _ _ s s 1 6 (by omega) 0 0 0 rfl rfl (by omega) (by omega) (by omega)]
 rw [show(0+0+0)/4294967296=0 from rfl]
 rw [iz _ _ _ s s 0 7 (by omega) 0 0 0 rfl rfl (by omega) (by omega) (by omega)]
 have he:=AE ⟨[(p0:Int),(p1:Int),0,0,0,0,0,0],s⟩ ⟨[(q0:Int),(q1:Int),0,0,0,0,0,0],s⟩ (7+1) (((0+0+0)/4294967296:Nat):Int) (p+q) (by omega) s
 rw [rM]at he
 rw [rM]
 exact he
theorem V8(hp:p<18446744073709551616)(hq:q≤p)(s u:Bool)(hsu:(s==u)=false):ii ⟨jJ p,s⟩ ⟨jJ q,u⟩=some ⟨jJ (p-q),s&&decide (p-q≠0)⟩:=by
 have hd:jJ (p-q)=[(((p%4294967296+4294967296-q%4294967296-0)%4294967296:Nat):Int),(((p/4294967296+4294967296-q/4294967296-(1-(p%4294967296+4294967296-q%4294967296-0)/4294967296))%4294967296:Nat):Int),0,0,0,0,0,0]:=by
  rw [vd (by omega)]
  congr 1
  ·congr 1;omega
  ·congr 1
   ·congr 1;omega
 have rM:=hd
 rw [vd hp,vd (m:=q) (by omega)]
 unfold ii
 have hge:(p/4294967296+4294967296-q/4294967296-(1-(p%4294967296+4294967296-q%4294967296-0)/4294967296))/4294967296=1:=by omega
 generalize hp0:p%4294967296=p0 at rM hge ⊢
 generalize hp1:p/4294967296=p1 at rM hge ⊢
 generalize hq0:q%4294967296=q0 at rM hge ⊢
 generalize hq1:q/4294967296=q1 at rM hge ⊢
 have c1:1-(p0+4294967296-q0-0)/4294967296≤1:=by omega
 generalize hc:1-(p0+4294967296-q0-0)/4294967296=c at rM hge c1 ⊢
 rw [show((0:Int))=((0:Nat):Int)from rfl]
 rw [iA _ _ _ s u s hsu 7 0 (by omega) p0 q0 0 rfl rfl (by omega) (by omega) (by omega),hc]
 rw [iA _ _ _ s u s hsu 6 1 (by omega) p1 q1 c rfl rfl (by omega) (by omega) (by omega),hge]
 rw [show 1-1=0 from rfl]
 rw [iA _ _ _ s u s hsu 5 2 (by omega) 0 0 0 rfl rfl (by omega) (by omega) (by omega)]
 rw [show 1-(0+4294967296-0-0)/4294967296=0 from rfl]
 rw [iA _ _ _ s u s hsu 4 3 (by omega) 0 0 0 rfl rfl (by omega) (by omega) (by omega)]
 rw [show 1-(0+4294967296-0-0)/4294967296=0 from rfl]
 rw [iA _ _ _ s u s hsu 3 4 (by omega) 0 0 0 rfl rfl (by omega) (by omega) (by omega)]
 rw [show 1-(0+4294967296-0-0)/4294967296=0 from rfl]
 rw [iA _ _ _ s u s hsu 2 5 (by omega) 0 0 0 rfl rfl (by omega) (by omega) (by omega)]
 rw [show 1-(0+4294967296-0-0)/4294967296=0 from rfl]
 rw [iA _ _ _ s u s hsu 1 6 (by omega) 0 0 0 rfl rfl (by omega) (by omega) (by omega)]
 rw [show 1-(0+4294967296-0-0)/4294967296=0 from rfl]
 rw [iA _ _ _ s u s hsu 0 7 (by omega) 0 0 0 rfl rfl (by omega) (by omega) (by omega)]
 have he:=AE ⟨[(p0:Int),(p1:Int),0,0,0,0,0,0],s⟩ ⟨[(q0:Int),(q1:Int),0,0,0,0,0,0],u⟩ (7+1) ((1-(0+4294967296-0-0)/4294967296:Nat):Int) (p-q) (by omega) s
 rw [rM]at he
 rw [rM]
 exact he
theorem iB(aa bb:List Int)(s t:Bool)(n:Nat)(i:Nat)(hi:i<8)(e1 e2:Int)(h1:aa[i]? =some e1)(h2:bb[i]? =some e2):
  lq ⟨aa,s⟩ ⟨bb,t⟩ (n+1) (i:Int)=if e1=e2 then lq ⟨aa,s⟩ ⟨bb,t⟩ n ((i:Int)-1)else some (decide (e1<e2)):=by
 conv=>lhs;unfold lq
 rw [aY (by simp),bZ,h1,bZ,h2]
 simp only [be]
 by_cases h:e1=e2
 ·rw [aM (by simp [h]),aY h,cn (by omega) (by omega)]
 ·rw [aY (by simpa using h),aM h]
theorem TT(hp:p<18446744073709551616)(hq:q<18446744073709551616)(s t:Bool):sX ⟨jJ p,s⟩ ⟨jJ q,t⟩=some (decide (p<q)):=by
 rw [vd hp,vd hq]
 unfold sX
 obtain⟨f,hf⟩: ∃f,gX=f+9:=⟨gX-9,by have:=my (n:=9) (by omega);omega⟩
 rw [hf]
 rw [show(7:Int)=((7:Nat):Int)from rfl,iB _ _ s t (f+8) 7 (by omega) 0 0 rfl rfl,aY rfl]
 rw [show((7:Nat):Int)-1=((6:Nat):Int)from rfl,iB _ _ s t (f+7) 6 (by omega) 0 0 rfl rfl,aY rfl]
 rw [show((6:Nat):Int)-1=((5:Nat):Int)from rfl,iB _ _ s t (f+6) 5 (by omega) 0 0 rfl rfl,aY rfl]
 rw [show((5:Nat):Int)-1=((4:Nat):Int)from rfl,iB _ _ s t (f+5) 4 (by omega) 0 0 rfl rfl,aY rfl]
 rw [show((4:Nat):Int)-1=((3:Nat):Int)from rfl,iB _ _ s t (f+4) 3 (by omega) 0 0 rfl rfl,aY rfl]
 rw [show((3:Nat):Int)-1=((2:Nat):Int)from rfl,iB _ _ s t (f+3) 2 (by omega) 0 0 rfl rfl,aY rfl]
 rw [show((2:Nat):Int)-1=((1:Nat):Int)from rfl,iB _ _ s t (f+2) 1 (by omega) _ _ rfl rfl]
 by_cases h1:((p/4294967296:Nat):Int)=((q/4294967296:Nat):Int)
 ·rw [aY h1,show((1:Nat):Int)-1=((0:Nat):Int)from rfl,iB _ _ s t (f+1) 0 (by omega) _ _ rfl rfl]
  by_cases h0:((p%4294967296:Nat):Int)=((q%4294967296:Nat):Int)
  ·rw [aY h0]
   unfold lq
   rw [aM (by decide)]
   congr 1
   symm
   rw [FH];omega
  ·rw [aM h0]
   congr 1
   apply jK
   simp only [kO];omega
 ·rw [aM h1]
  congr 1
  apply jK
  simp only [kO];omega
variable{y:Int}
theorem OP(hx:x.natAbs≤9223372036854775808)(hy:y.natAbs≤9223372036854775808):mu (ly x) (ly y)=some (ly (x+y)):=by
 unfold mu ly
 rw [TT (by omega) (by omega)]
 simp only [be]
 by_cases h:(decide (x<0)==decide (y<0))=true
 ·have hs:decide (y<0)=decide (x<0):=(eq_of_beq h).symm
  have hne:(decide (x<0) !=decide (y<0))=false:=by rw [hs];simp
  rw [hne]
  simp only [gp,ek,be]
  rw [hs,Zl (by omega) (by omega)]
  congr 2
  ·congr 1
   have:(decide (x<0)=true↔decide (y<0)=true):=by rw [hs]
   simp only [kO]at this
   omega
  ·apply jK
   have:(decide (x<0)=true↔decide (y<0)=true):=by rw [hs]
   simp only [kO]at this
   simp only [kN,kO]
   omega
 ·have hb:(decide (x<0)==decide (y<0))=false:=by simpa using h
  have hne:(decide (x<0) !=decide (y<0))=true:=by simp only [bne,hb];rfl
  rw [hne]
  simp only [eQ,be]
  have hxy: ¬(x<0↔y<0):=by
   intro hi
   have:decide (x<0)=decide (y<0):=by simp only [DA];exact hi
   rw [this]at hb;simp at hb
  by_cases hlt:x.natAbs<y.natAbs
  ·rw [aY (by simpa using hlt)]
   have hb' :(decide (y<0)==decide (x<0))=false:=by
    cases q1:decide (x<0)<;>cases q2:decide (y<0)<;>simp_all
   rw [V8 (by omega) (by omega) _ _ hb']
   congr 2
   ·congr 1;omega
   ·apply jK
    simp only [kN,kO]
    omega
  ·rw [aM (by simpa using hlt)]
   rw [V8 (by omega) (by omega) _ _ hb]
   congr 2
   ·congr 1;omega
   ·apply jK
    simp only [kN,kO]
    omega
theorem Fu(m:Nat)(b:Bool)(e e1 e2 e3:Int):fk ⟨jJ m,b⟩ e e1 e2 e3 (8-4) 4=fk ⟨jJ m,b⟩ e e1 e2 e3 0 8:=by
 have step: ∀k i,(jJ m)[i]? =some 0→fk ⟨jJ m,b⟩ e e1 e2 e3 (k+1) i=fk ⟨jJ m,b⟩ e e1 e2 e3 k (i+1):=by
  intro k i h
  conv=>lhs;unfold fk
  rw [bZ]
  simp only [h,be]
  rw [aM (by decide)]
 show fk _ _ _ _ _ (3+1) 4=_
 rw [step 3 4 rfl]
 show fk _ _ _ _ _ (2+1) 5=_
 rw [step 2 5 rfl]
 show fk _ _ _ _ _ (1+1) 6=_
 rw [step 1 6 rfl]
 show fk _ _ _ _ _ (0+1) 7=_
 rw [step 0 7 rfl]
theorem YY:(2:Int)^(min (Int.toNat (32:Int)) IntKind.u64.bits)=((4294967296:Nat):Int):=by
 have:(2:Int)^(min (Int.toNat (32:Int)) IntKind.u64.bits)=4294967296:=by decide
 rw [this];rfl
theorem xK(d e:Nat)(hd:d<4294967296)(he:e<4294967296):IntKind.u64.wrap (IntKind.u64.wrap ((d:Int)*2^(min (Int.toNat (32:Int)) IntKind.u64.bits))+(e:Int))=((d*4294967296+e:Nat):Int):=by
 have e0:(2:Int)^(min (Int.toNat (32:Int)) IntKind.u64.bits)=((4294967296:Nat):Int):=YY
 rw [e0,←wK,qm (by omega),←Aj,qm (by omega)]
variable{a:ac}
theorem KV(h:z.natAbs<340282366920938463463374607431768211456): ∃n,iH (ly z)=some (n,decide (r64 z))∧(r64 z→n=z):=by
 unfold iH vM ly
 generalize hm:z.natAbs=m at h ⊢
 have i3:cN (jJ m) 3=some ((m/79228162514264337593543950336%4294967296:Nat):Int):=rfl
 have i2:cN (jJ m) 2=some ((m/18446744073709551616%4294967296:Nat):Int):=rfl
 have i1:cN (jJ m) 1=some ((m/4294967296%4294967296:Nat):Int):=rfl
 have i0:cN (jJ m) 0=some ((m%4294967296:Nat):Int):=rfl
 simp only [i3,i2,i1,i0,be]
 rw [Fu]
 unfold fk
 rw [xK _ _ (uG _ (by decide)) (uG _ (by decide)),xK _ _ (uG _ (by decide)) (uG _ (by decide))]
 have hhi:m/79228162514264337593543950336%4294967296*4294967296+m/18446744073709551616%4294967296=m/18446744073709551616:=by omega
 have hlo:m/4294967296%4294967296*4294967296+m%4294967296=m%18446744073709551616:=by
  have:=Nat.mod_mul (x:=m) (a:=4294967296) (b:=4294967296)
  rw [show 4294967296*4294967296=18446744073709551616 from rfl]at this
  rw [this,Nat.mul_comm,Nat.add_comm]
 rw [hhi,hlo]
 have bhi:m/18446744073709551616<18446744073709551616:=by omega
 have blo:m%18446744073709551616<18446744073709551616:=uG _ (by decide)
 have hsplit:m=m/18446744073709551616*18446744073709551616+m%18446744073709551616:=by omega
 generalize m/18446744073709551616=hi at bhi hsplit ⊢
 generalize m%18446744073709551616=lo at blo hsplit ⊢
 by_cases hz:z<0
 ·have hzm:z= -(m:Int):=by omega
  have hm0:0<m:=by omega
  rw [aY (by simpa using hz),xw blo,xw bhi]
  have ew:IntKind.u64.wrap (((18446744073709551615-lo:Nat):Int)+1)=(((18446744073709551616-lo)%18446744073709551616:Nat):Int):=by rw [tI];omega
  have eh:IntKind.u64.wrap (((18446744073709551615-hi:Nat):Int)+1)=(((18446744073709551616-hi)%18446744073709551616:Nat):Int):=by rw [tI];omega
  rw [ew,eh]
  unfold lr
  simp only [hz,Cl]
  by_cases hl0:lo=0
  ·subst hl0
   rw [aY (by decide)]
   simp only [be]
   refine⟨IntKind.i64.wrap (((18446744073709551616-0)%18446744073709551616:Nat):Int),?_,fun hr=>?_⟩
   ·congr 2
    have hnr: ¬r64 z:=by unfold r64;omega
    have e0:IntKind.i64.wrap (((18446744073709551616-0)%18446744073709551616:Nat):Int)=0:=by decide
    rw [e0]
    have hne:(IntKind.i64.wrap (((18446744073709551616-hi)%18446744073709551616:Nat):Int)==0)=false:=by
     simp only [beq_eq_false_iff_ne,pI]
     rw [vt];omega
    rw [hne]
    simp [hnr]
   ·unfold r64 at hr;omega
  ·rw [aM (by simp;omega)]
   simp only [be]
   have e0:IntKind.i64.wrap (((18446744073709551616-lo)%18446744073709551616:Nat):Int)=if lo≤9223372036854775808 then -(lo:Int)else 18446744073709551616-(lo:Int):=by
    rw [vt];split<;>omega
   refine⟨IntKind.i64.wrap (((18446744073709551616-lo)%18446744073709551616:Nat):Int),?_,fun hr=>?_⟩
   ·congr 2
    apply jK
    rw [e0]
    simp only [kN,pH,qZ,kO]
    rw [vt]
    unfold r64
    constructor
    ·rintro⟨h1,h2⟩
     split at h2<;>omega
    ·intro h1
     have:hi=0:=by omega
     subst this
     have:lo≤9223372036854775808:=by omega
     rw [aY this]
     refine⟨by omega,.inr ⟨by omega,by omega⟩⟩
   ·rw [e0]
    unfold r64 at hr
    have:hi=0:=by omega
    subst this
    rw [aY (by omega)];omega
 ·have hzm:z=(m:Int):=by omega
  rw [aM (by simpa using hz)]
  unfold lr
  simp only [hz,decide_false,be]
  have e0:IntKind.i64.wrap (lo:Int)=if lo≤9223372036854775807 then(lo:Int)else(lo:Int)-18446744073709551616:=by
   rw [vt];split<;>omega
  refine⟨IntKind.i64.wrap (lo:Int),?_,fun hr=>?_⟩
  ·congr 2
   apply jK
   rw [e0]
   simp only [kN,pH,qZ,kO,FH]
   rw [vt]
   unfold r64
   constructor
   ·rintro⟨h1,h2⟩
    split at h2<;>omega
   ·intro h1
    have:hi=0:=by omega
    subst this
    rw [aY (by omega)]
    refine⟨by omega,.inl ⟨by omega,by omega⟩⟩
  ·rw [e0]
   unfold r64 at hr
   rw [aY (by omega)];omega

theorem vC(aa bb ds:List Int)(s t o:Bool)(nx:Nat→eN→Option eN)(i k j:Nat)(hij:i+j<8)(p e3 e4 c:Nat)(h1:ds[i+j]? =some (p:Int))(h2:aa[i]? =some (e3:Int))(h3:bb[j]? =some (e4:Int))(b1:p<4294967296)(b2:e3<4294967296)(b3:e4<4294967296)(b4:c<4294967296):
  jn ⟨aa,s⟩ ⟨bb,t⟩ nx i (k+1) j (c:Int) ⟨ds,o⟩=jn ⟨aa,s⟩ ⟨bb,t⟩ nx i k (j+1) (((p+e3*e4+c)/4294967296:Nat):Int) ⟨ds.set (i+j) (((p+e3*e4+c)%4294967296:Nat):Int),o⟩:=by
 conv=>lhs;unfold jn
 have hm:e3*e4≤4294967295*4294967295:=wu (by omega) (by omega)
 have hw:IntKind.i64.wrap ((i:Int)+(j:Int))=((i+j:Nat):Int):=by rw [cn (by omega) (by omega)];omega
 rw [hw,T5 hij,bZ,h1,bZ,h2,bZ,h3]
 simp only [be]
 rw [←wK,qm (n:=e3*e4) (by omega),←Aj,qm (n:=p+e3*e4) (by omega),←Aj,qm (n:=p+e3*e4+c) (by omega),wj,DY]
 rfl
theorem O9(aa bb:eN)(ds:List Int)(o:Bool)(nx:Nat→eN→Option eN)(i j:Nat)(hi:i<4)(c:Int):jn aa bb nx i 0 j c ⟨ds,o⟩=nx (i+1) ⟨ds.set (i+4) c,o⟩:=by
 conv=>lhs;unfold jn
 have hw:IntKind.i64.wrap ((i:Int)+(4:Int))=((i+4:Nat):Int):=by rw [cn (by omega) (by omega)];omega
 rw [hw,T5 (by omega)]
 rfl
theorem xH(aa bb ds:List Int)(s t o:Bool)(nx:Nat→eN→Option eN)(i:Nat)(hi:i<4)(x y0 y1 p0 p1 p2 p3:Nat)(ha:aa[i]? =some (x:Int))(h0:bb[0]? =some (y0:Int))(h1:bb[1]? =some (y1:Int))(h2:bb[2]? =some 0)(h3:bb[3]? =some 0)
  (q0:ds[i]? =some (p0:Int))(q1:ds[i+1]? =some (p1:Int))(q2:ds[i+2]? =some (p2:Int))(q3:ds[i+3]? =some (p3:Int))(bx:x<4294967296)(by0:y0<4294967296)(by1:y1<4294967296)(b0:p0<4294967296)(b1:p1<4294967296)(b2:p2<4294967296)(b3:p3<4294967296)
  (c1 c2 c3 c4:Nat)(e1:c1=(p0+x*y0+0)/4294967296)(e2:c2=(p1+x*y1+c1)/4294967296)(e3:c3=(p2+x*0+c2)/4294967296)(e4:c4=(p3+x*0+c3)/4294967296):
  jn ⟨aa,s⟩ ⟨bb,t⟩ nx i 4 0 0 ⟨ds,o⟩=nx (i+1) ⟨((((ds.set i (((p0+x*y0+0)%4294967296:Nat):Int)).set (i+1) (((p1+x*y1+c1)%4294967296:Nat):Int)).set (i+2) (((p2+x*0+c2)%4294967296:Nat):Int)).set (i+3) (((p3+x*0+c3)%4294967296:Nat):Int)).set (i+4) ((c4:Nat):Int),o⟩:=by
 have m0:x*y0≤4294967295*4294967295:=wu (by omega) (by omega)
 have m1:x*y1≤4294967295*4294967295:=wu (by omega) (by omega)
 have k1:c1<4294967296:=by omega
 have k2:c2<4294967296:=by omega
 have k3:c3<4294967296:=by omega
 rw [show(0:Int)=((0:Nat):Int)from rfl,vC aa bb ds s t o nx i 3 0 (by omega) p0 x y0 0 q0 ha h0 b0 bx by0 (by omega),←e1]
 rw [vC aa bb _ s t o nx i 2 1 (by omega) p1 x y1 c1 (by rw [Gj (by omega)];exact q1) ha h1 b1 bx by1 k1,←e2]
 rw [vC aa bb _ s t o nx i 1 2 (by omega) p2 x 0 c2 (by rw [Gj (by omega),Gj (by omega)];exact q2) ha h2 b2 bx (by omega) k2,←e3]
 rw [vC aa bb _ s t o nx i 0 3 (by omega) p3 x 0 c3 (by rw [Gj (by omega),Gj (by omega),Gj (by omega)];exact q3) ha h3 b3 bx (by omega) k3,←e4]
 rw [O9 _ _ _ _ _ _ _ hi]
 rfl
theorem Z1(m:Nat):jJ m=[((m%4294967296:Nat):Int),((m/4294967296%4294967296:Nat):Int),((m/4294967296/4294967296%4294967296:Nat):Int),((m/4294967296/4294967296/4294967296%4294967296:Nat):Int),0,0,0,0]:=by
 unfold jJ
 rw [IW,IW]
theorem Ly{p0 p1 q0 q1:Nat}(hp0:p0<4294967296)(hp1:p1<4294967296)(hq0:q0<4294967296)(hq1:q1<4294967296)(s t:Bool)(m:Nat)(hm:m=(p1*4294967296+p0)*(q1*4294967296+q0))(hlt:m<340282366920938463463374607431768211456):
  fh ⟨[(p0:Int),(p1:Int),0,0,0,0,0,0],s⟩ ⟨[(q0:Int),(q1:Int),0,0,0,0,0,0],t⟩ 4 0 ⟨List.replicate 8 0,false⟩=some ⟨jJ m,(s !=t)&&decide (m≠0)⟩:=by
 have hA:p0*q0≤4294967295*4294967295:=wu (by omega) (by omega)
 have hC:p0*q1≤4294967295*4294967295:=wu (by omega) (by omega)
 have hD:p1*q0≤4294967295*4294967295:=wu (by omega) (by omega)
 have hE:p1*q1≤4294967295*4294967295:=wu (by omega) (by omega)
 have hme:m=4294967296*(4294967296*(p1*q1)+p1*q0+p0*q1)+p0*q0:=by
  rw [hm]
  simp only [um,Nat.mul_add]
  have h1:p1*4294967296*(q1*4294967296)=4294967296*(4294967296*(p1*q1)):=by
   rw [Nat.mul_mul_mul_comm,Nat.mul_comm (p1*q1),Nat.mul_assoc]
  have h2:p1*4294967296*q0=4294967296*(p1*q0):=by rw [Nat.mul_right_comm,Nat.mul_comm]
  have h3:p0*(q1*4294967296)=4294967296*(p0*q1):=by rw [←Nat.mul_assoc,Nat.mul_comm]
  rw [h1,h2,h3];omega
 obtain⟨c1,e1⟩: ∃c,c=(0+p0*q0+0)/4294967296:=⟨_,rfl⟩
 obtain⟨c2,e2⟩: ∃c,c=(0+p0*q1+c1)/4294967296:=⟨_,rfl⟩
 have k1:c1<4294967296:=by omega
 have k2:c2<4294967296:=by omega
 obtain⟨d1,f1⟩: ∃c,c=(0+p0*q1+c1)%4294967296:=⟨_,rfl⟩
 have l1:d1<4294967296:=by omega
 obtain⟨c3,e3⟩: ∃c,c=(d1+p1*q0+0)/4294967296:=⟨_,rfl⟩
 have k3:c3<4294967296:=by omega
 obtain⟨c4,e4⟩: ∃c,c=(c2+p1*q1+c3)/4294967296:=⟨_,rfl⟩
 have k4:c4<4294967296:=by omega
 obtain⟨d0,f0⟩: ∃c,c=(0+p0*q0+0)%4294967296:=⟨_,rfl⟩
 obtain⟨g1,f2⟩: ∃c,c=(d1+p1*q0+0)%4294967296:=⟨_,rfl⟩
 obtain⟨g2,f3⟩: ∃c,c=(c2+p1*q1+c3)%4294967296:=⟨_,rfl⟩
 have l0:d0<4294967296:=by omega
 have l2:g1<4294967296:=by omega
 have l3:g2<4294967296:=by omega
 have z: ∀x:Nat,0+x*0+0=0:=fun x=>by omega
 -- row 0
 conv=>lhs;unfold fh
 rw [xH _ _ _ s t false _ 0 (by omega) p0 q0 q1 0 0 0 0 rfl rfl rfl rfl rfl rfl rfl rfl rfl hp0 hq0 hq1 (by omega) (by omega) (by omega) (by omega) c1 c2 0 0 e1 e2 (by omega) (by omega)]
 rw [←f0,←f1,show(0+p0*0+c2)%4294967296=c2 from by omega,show(0+p0*0+0)%4294967296=0 from by omega]
 show fh _ _ 3 1 ⟨[(d0:Int),(d1:Int),(c2:Int),0,0,0,0,0],false⟩=_
 -- row 1
 conv=>lhs;unfold fh
 rw [xH _ _ _ s t false _ 1 (by omega) p1 q0 q1 d1 c2 0 0 rfl rfl rfl rfl rfl rfl rfl rfl rfl hp1 hq0 hq1 l1 k2 (by omega) (by omega) c3 c4 0 0 e3 e4 (by omega) (by omega)]
 rw [←f2,←f3,show(0+p1*0+c4)%4294967296=c4 from by omega,show(0+p1*0+0)%4294967296=0 from by omega]
 show fh _ _ 2 2 ⟨[(d0:Int),(g1:Int),(g2:Int),(c4:Int),0,0,0,0],false⟩=_
 -- row 2
 conv=>lhs;unfold fh
 rw [xH _ _ _ s t false _ 2 (by omega) 0 q0 q1 g2 c4 0 0 rfl rfl rfl rfl rfl rfl rfl rfl rfl (by omega) hq0 hq1 l3 k4 (by omega) (by omega) 0 0 0 0 (by omega) (by omega) (by omega) (by omega)]
 rw [show(g2+0*q0+0)%4294967296=g2 from by omega,show(c4+0*q1+0)%4294967296=c4 from by omega]
 show fh _ _ 1 3 ⟨[(d0:Int),(g1:Int),(g2:Int),(c4:Int),0,0,0,0],false⟩=_
 -- row 3
 conv=>lhs;unfold fh
 rw [xH _ _ _ s t false _ 3 (by omega) 0 q0 q1 c4 0 0 0 rfl rfl rfl rfl rfl rfl rfl rfl rfl (by omega) hq0 hq1 k4 (by omega) (by omega) (by omega) 0 0 0 0 (by omega) (by omega) (by omega) (by omega)]
 rw [show(c4+0*q0+0)%4294967296=c4 from by omega,show(0+0*q1+0)%4294967296=0 from by omega]
 show fh _ _ 0 4 ⟨[(d0:Int),(g1:Int),(g2:Int),(c4:Int),0,0,0,0],false⟩=_
 have hd:[(d0:Int),(g1:Int),(g2:Int),(c4:Int),0,0,0,0]=jJ m:=by
  rw [Z1]
  generalize p0*q0=A at*
  generalize p0*q1=C at*
  generalize p1*q0=D at*
  generalize p1*q1=E at*
  have r1:m/4294967296=4294967296*E+D+C+c1:=by omega
  have r2:m/4294967296/4294967296=c2+E+c3:=by rw [r1];omega
  have r3:m/4294967296/4294967296/4294967296=c4:=by rw [r2];omega
  have w0:m%4294967296=d0:=by omega
  have w1:(4294967296*E+D+C+c1)%4294967296=g1:=by omega
  have w2:(c2+E+c3)%4294967296=g2:=f3.symm
  have w3:c4%4294967296=c4:=by omega
  rw [r3,r2,r1,w0,w1,w2,w3]
 rw [hd]
 unfold fh
 cases hst:(s !=t)with
 |false=>rfl
 |true=>
  simp only [eQ]
  rw [DK hlt]
  simp
theorem SG(hx:x.natAbs≤9223372036854775808)(hy:y.natAbs≤9223372036854775808):tU (ly x) (ly y)=some (ly (x*y)):=by
 have hpr:=JF x y
 have hna:(x*y).natAbs=x.natAbs*y.natAbs:=Int.natAbs_mul x y
 have hle:x.natAbs*y.natAbs≤9223372036854775808*9223372036854775808:=wu hx hy
 unfold tU ly
 rw [vd (m:=x.natAbs) (by omega),vd (m:=y.natAbs) (by omega)]
 rw [Ly (m:=x.natAbs*y.natAbs) (by omega) (by omega) (by omega) (by omega) _ _ (by congr 1<;>omega) (by omega)]
 rw [hna]
 congr 2
 apply jK
 simp only [kN,kO]
 generalize x.natAbs*y.natAbs=m at*
 generalize (decide (x<0) !=decide (y<0))=b at*
 rw [hpr]
 cases b with
 |true=>simp only [eQ,true_and];omega
 |false=>simp only [gp,ek,false_and];constructor;exact False.elim;omega

theorem ZD(a b:Int):cN [a,b,0,0,0,0,0,0] 1=some b:=rfl
theorem ZE(a b:Int):cN [a,b,0,0,0,0,0,0] 0=some a:=rfl
theorem Zk(a b:Int):((List.replicate 8 (0:Int)).set 0 a).set 1 b=[a,b,0,0,0,0,0,0]:=rfl
theorem Pi(p0 p1 q0 q1:Nat)(s t:Bool)(hp0:p0<4294967296)(hp1:p1<4294967296)(hq0:q0<4294967296)(hq1:q1<4294967296)(p q:Nat)(hp:p1*4294967296+p0=p)(hq:q1*4294967296+q0=q)(h0:q≠0):
  nK ⟨[(p0:Int),(p1:Int),0,0,0,0,0,0],s⟩ ⟨[(q0:Int),(q1:Int),0,0,0,0,0,0],t⟩=some ⟨jJ (p/q),(s !=t)&&(((p/q:Nat):Int) !=0)⟩:=by
 unfold nK
 rw [ZD,ZE,ZD,ZE]
 rw [be,be,be,be]
 rw [xK _ _ hp1 hp0,xK _ _ hq1 hq0,hp,hq]
 have hn:nz (q:Int)=some ():=by
  unfold nz
  rw [aM (by omega)]
 have hle:p/q≤p:=Nat.div_le_self _ _
 have ht:((p:Nat):Int).tdiv (q:Int)=((p/q:Nat):Int):=rfl
 rw [hn,be,ht,qm (by omega),DY,wj,Zk,vd (by omega)]
theorem KX(hx:x.natAbs≤9223372036854775808)(hy:y.natAbs≤9223372036854775808)(h0:y≠0):nK (ly x) (ly y)=some (ly (x.tdiv y)):=by
 have hq:=JD x y
 have hna:(x.tdiv y).natAbs=x.natAbs/y.natAbs:=Int.natAbs_tdiv x y
 unfold ly
 rw [vd (m:=x.natAbs) (by omega),vd (m:=y.natAbs) (by omega)]
 rw [Pi _ _ _ _ _ _ (by omega) (by omega) (by omega) (by omega) x.natAbs y.natAbs (by omega) (by omega) (by omega),hna]
 generalize x.natAbs/y.natAbs=m at*
 have hf:((decide (x<0) !=decide (y<0))&&((m:Int) !=0))=decide (x.tdiv y<0):=by
  apply jK
  rw [hq]
  generalize (decide (x<0) !=decide (y<0))=b
  cases b with
  |true=>simp only [uo,qo,pI,kO,eQ];omega
  |false=>simp only [DC,gp,ek,kO,false_iff];omega
 rw [hf]
variable{r:cM}{v:ac}
theorem xJ(h:z.natAbs<340282366920938463463374607431768211456):((iH (ly z)).bind fun r=>if(!r.2)=true then some (zV,(140:Int))else(j8 r.1).bind fun v=>some (v,(0:Int)))=some (if r64 z then(iV z,0)else(zV,140)):=by
 obtain⟨n,h1,h2⟩:=KV h
 rw [h1]
 simp only [be]
 by_cases hr:r64 z
 ·rw [aY hr,h2 hr,aM (by simp [hr])];rfl
 ·rw [aM hr,aY (by simp [hr])]
theorem Ns(v:ac)(h:fM v=true):o5 v=some ((v.Kind==0)||(v.Kind==2)):=by
 unfold o5
 rw [fR,h];rfl
theorem za(h:r64 x):x.natAbs≤9223372036854775808:=by unfold r64 at h;omega
variable{tag:Int}
theorem OM(h: ¬((a.Kind=0∨a.Kind=2)∧(b.Kind=0∨b.Kind=2))):wy tag a b=(zV,2):=aM h
theorem SB(h:(a.Kind=0∨a.Kind=2)∧(b.Kind=0∨b.Kind=2))(h2:a.Kind=0∨b.Kind=0):wy tag a b=(zV,0):=by
 unfold wy
 rw [aY h,aY h2]
theorem VP(ht:tag=12∨tag=13∨tag=14∨tag=15)(ha:Pl a)(hb:Pl b)(h:(a.Kind=0∨a.Kind=2)∧(b.Kind=0∨b.Kind=2))(h2: ¬(a.Kind=0∨b.Kind=0)):wy tag a b=FT tag a.N b.N:=by
 unfold wy
 rw [aY h,aM h2,VR ht ha.r64 hb.r64]
def Zn(tag:Int):Int:=if tag=12 then 43 else if tag=13 then 45 else if tag=14 then 42 else 47
theorem ach(hx:r64 x)(hy:r64 y):((fN x).bind fun r4=>(fN y).bind fun r5=>(mu r4 r5).bind fun r6=>(iH r6).bind fun r7=>if(!r7.2)=true then some (zV,(140:Int))else(j8 r7.1).bind fun r8=>some (r8,(0:Int)))=some (FT 12 x y):=by
 rw [ji hx,ji hy,be,be,OP (za hx) (za hy),be,po (Wn _ _)]
 have:=za hx
 have:=za hy
 exact xJ (by omega)
theorem acg(hx:r64 x)(hy:r64 y):((fN x).bind fun r9=>(fN y).bind fun r10=>(r0 r10).bind fun r11=>(mu r9 r11).bind fun r12=>(iH r12).bind fun r13=>if(!r13.2)=true then some (zV,(140:Int))else(j8 r13.1).bind fun r14=>some (r14,(0:Int)))=some (FT 13 x y):=by
 have h1:=za hx
 have h2:=za hy
 rw [ji hx,ji hy,be,be,PT (by omega),be,OP h1 (by rw [Int.natAbs_neg];exact h2),be,po (Wm _ _),←Int.sub_eq_add_neg]
 exact xJ (by omega)
theorem acf(hx:r64 x)(hy:r64 y):((fN x).bind fun r15=>(fN y).bind fun r16=>(tU r15 r16).bind fun r17=>(iH r17).bind fun r18=>if(!r18.2)=true then some (zV,(140:Int))else(j8 r18.1).bind fun r19=>some (r19,(0:Int)))=some (FT 14 x y):=by
 have h1:=za hx
 have h2:=za hy
 rw [ji hx,ji hy,be,be,SG h1 h2,be,po (Wl _ _)]
 have h3:x.natAbs*y.natAbs≤85070591730234615865843651857942052864:=wu h1 h2
 exact xJ (by rw [Int.natAbs_mul];omega)
theorem ace(hx:r64 x)(hy:r64 y)(h0:y≠0):((fN x).bind fun r20=>(fN y).bind fun r21=>(nK r20 r21).bind fun r22=>(iH r22).bind fun r23=>if(!r23.2)=true then some (zV,(140:Int))else(j8 r23.1).bind fun r24=>some (r24,(0:Int)))=some (FT 15 x y):=by
 have h1:=za hx
 have h2:=za hy
 rw [ji hx,ji hy,be,be,KX h1 h2 h0,be,po (z:=x.tdiv y) (by rw [Ot,aM h0])]
 have h3:(x.tdiv y).natAbs=x.natAbs/y.natAbs:=Int.natAbs_tdiv _ _
 have h4:x.natAbs/y.natAbs≤x.natAbs:=Nat.div_le_self _ _
 exact xJ (by omega)
theorem WS(ht:tag=12∨tag=13∨tag=14∨tag=15)(ha:Pl a)(hb:Pl b):iQ (Zn tag) a b=some (wy tag a b):=by
 have hra:=ha.r64
 have hrb:=hb.r64
 unfold iQ
 rw [fR,fR,ha.right,hb.right,Ns a ha.right,Ns b hb.right]
 rw [be,aY (by decide),be,be,aM (by decide),be,be]
 by_cases h1:a.Kind=0∨a.Kind=2
 ·have e1:((a.Kind==0)||(a.Kind==2))=true:=by simpa using h1
  rw [e1,aY (by decide)]
  by_cases h2:b.Kind=0∨b.Kind=2
  ·have e2:((b.Kind==0)||(b.Kind==2))=true:=by simpa using h2
   rw [e2,be,aM (by decide)]
   by_cases h3:a.Kind=0∨b.Kind=0
   ·rw [SB ⟨h1,h2⟩ h3,aY (by simpa using h3)];rfl
   ·rw [VP ht ha hb ⟨h1,h2⟩ h3,aM (by simpa using h3)]
    rcases ht with rfl|rfl|rfl|rfl
    ·rw [aY (by decide)]
     exact ach hra hrb
    ·rw [aM (by decide),aY (by decide)]
     exact acg hra hrb
    ·rw [aM (by decide),aM (by decide),aY (by decide)]
     exact acf hra hrb
    ·rw [aM (by decide),aM (by decide),aM (by decide)]
     by_cases h0:b.N=0
     ·rw [aY (by simpa using h0),GA (by rw [Ot,aY h0])];rfl
     ·rw [aM (by simpa using h0)]
      exact ace hra hrb h0
  ·have e2:((b.Kind==0)||(b.Kind==2))=false:=by simpa using h2
   rw [e2,be,aY (by decide),OM (fun h=>h2 h.2)];rfl
 ·have e1:((a.Kind==0)||(a.Kind==2))=false:=by simpa using h1
  rw [e1,aM (by decide),be,aY (by decide),OM (fun h=>h1 h.1)];rfl

variable{α:Type}{xs:List α}
theorem GL{s:wB}{x:UInt8}{xs:List UInt8}(h:s.drop i=x::xs):Py s (i:Int)=some (x.toNat:Int):=by
 unfold Py
 rw [bZ]
 have:s[i]? =some x:=by
  have h2:(s.drop i)[0]? =some x:=by rw [h];rfl
  rw [wF]at h2
  exact h2
 rw [this];rfl
theorem GX{s:List α}{x:α}(h:s.drop i=x::xs):s.drop (i+1)=xs:=by
 rw [←qi,h];rfl
theorem YA(a b:ac): ∀(xs ys:List UInt8) (i n:Nat),a.S.drop i=xs→b.S.drop i=ys→a.S.length=i+xs.length→b.S.length=i+ys.length→xs.length<n→a.S.length≤100000→lM a b n (i:Int)=some (Lib.compareBytes xs ys):=by
 intro xs
 induction xs with
 |nil=>
  intro ys i n h1 h2 l1 l2 hn _
  obtain⟨m,rfl⟩: ∃m,n=m+1:=⟨n-1,by simp at hn;omega⟩
  simp only [pC,yq]at l1
  unfold lM
  have e1:decide ((i:Int)<(a.S.length:Int))=false:=by simp;omega
  rw [e1,DC,aM (by decide)]
  cases ys with
  |nil=>
   simp only [pC,yq]at l2
   rw [aM (by simp;omega)];rfl
  |cons y ys=>
   simp only [iO]at l2
   rw [aY (by simp;omega),aY (by simp;omega)];rfl
 |cons x xs ih=>
  intro ys i n h1 h2 l1 l2 hn hl
  obtain⟨m,rfl⟩: ∃m,n=m+1:=⟨n-1,by simp at hn;omega⟩
  simp only [iO]at l1 hn
  unfold lM
  have e1:decide ((i:Int)<(a.S.length:Int))=true:=by simp;omega
  rw [e1,uo]
  cases ys with
  |nil=>
   simp only [pC,yq]at l2
   rw [aM (by simp;omega),aY (by simp;omega),aM (by simp;omega)];rfl
  |cons y ys=>
   simp only [iO]at l2
   rw [aY (by simp;omega),GL h1,GL h2]
   simp only [be]
   unfold Lib.compareBytes
   by_cases h:x=y
   ·subst h
    have hlt: ¬x<x:=by rw [Nj];omega
    rw [aM (by simp),aM hlt,aM hlt,cn (by omega) (by omega)]
    exact ih ys (i+1) m (GX h1) (GX h2) (by omega) (by omega) (by omega) hl
   ·have hne:x.toNat≠y.toNat:=fun hh=>h (UInt8.toNat_inj.1 hh)
    rw [aY (by simp;omega)]
    by_cases hlt:x<y
    ·have:=Nj.1 hlt
     rw [aY hlt,aY (by simp;omega)]
    ·have h3: ¬x.toNat<y.toNat:=fun hh=>hlt (Nj.2 hh)
     have h4:y<x:=Nj.2 (by omega)
     rw [aM hlt,aY h4,aM (by simp;omega)]
theorem Pl.short(h:Pl v):v.S.length≤40:=by
 cases h with
 |z=>simp [zV]
 |b b=>simp [bV]
 |i n h=>simp [iV]
 |s s h=>exact h
def sg(x y:Int):Int:=if x<y then -1 else if y<x then 1 else 0
theorem MP(x y:Int):iJ x y=some (sg x y):=by
 unfold iJ nk sg
 simp only [yN,be,gp,ek,kO]
 by_cases h1:x<y
 ·rw [aY h1,aY h1]
 ·rw [aM h1,aM h1]
  by_cases h2:y<x
  ·rw [aY h2,aY h2]
  ·rw [aM h2,aM h2]
theorem IE(x y:Int):gB x y=some (sg x y):=by
 unfold gB kT sg
 simp only [yN,be,gp,ek,kO]
 by_cases h1:x<y
 ·rw [aY h1,aY h1]
 ·rw [aM h1,aM h1]
  by_cases h2:y<x
  ·rw [aY h2,aY h2]
  ·rw [aM h2,aM h2]
theorem VG(x y z:Int):mK [x,y,z]=some (if x≠0 then x else if y≠0 then y else z):=by
 unfold mK fX fX fX fX
 by_cases h1:x=0<;>by_cases h2:y=0<;>by_cases h3:z=0<;>simp [h1,h2,h3]
theorem IF(ha:Pl a)(hb:Pl b):Fb a b=if sg a.Kind b.Kind≠0 then sg a.Kind b.Kind else if sg a.N b.N≠0 then sg a.N b.N else Lib.compareBytes a.S b.S:=by
 unfold Fb li
 rw [ha.plain_eq,hb.plain_eq,be,aY (by decide),be,be,aM (by decide),MP,IE,be,be]
 have:oO a.S b.S=some (Lib.compareBytes a.S b.S):=rfl
 rw [this,be,VG];rfl
theorem QJ(x:Int):sg x x=0:=by unfold sg;rw [aM (by omega),aM (by omega)]
theorem Nx(h:x≠y):sg x y=(if x<y then -1 else 1)∧sg x y≠0:=by
 unfold sg
 by_cases h1:x<y
 ·rw [aY h1,aY h1];exact⟨rfl,by decide⟩
 ·rw [aM h1,aM h1,aY (by omega)];exact⟨rfl,by decide⟩
theorem YD(ha:Pl a)(hb:Pl b)(h:a.Kind≠b.Kind):Fb a b=if a.Kind<b.Kind then -1 else 1:=by
 rw [IF ha hb,aY (Nx h).2,(Nx h).1]
theorem YC(ha:Pl a)(hb:Pl b)(h:a.Kind=b.Kind)(h2:a.N≠b.N):Fb a b=if a.N<b.N then -1 else 1:=by
 rw [IF ha hb,h,QJ,aM (by decide),aY (Nx h2).2,(Nx h2).1]
theorem YB(ha:Pl a)(hb:Pl b)(h:a.Kind=b.Kind)(h2:a.N=b.N):Fb a b=Lib.compareBytes a.S b.S:=by
 rw [IF ha hb,h,QJ,aM (by decide),h2,QJ,aM (by decide)]
theorem BL(ha:Pl a)(hb:Pl b):oD a b=some (Fb a b):=by
 unfold oD
 rw [jo,jo,ha.plain,hb.plain,be,aY (by decide),be,be,aM (by decide)]
 by_cases h1:a.Kind=b.Kind
 ·rw [aM (by simpa using h1)]
  by_cases h2:a.N=b.N
  ·rw [aM (by simpa using h2),YB ha hb h1 h2]
   have h4:=ha.short
   have h5:=my (n:=41) (by omega)
   exact YA a b a.S b.S 0 gX rfl rfl (by omega) (by omega) (by omega) (by omega)
  ·rw [aY (by simpa using h2),YC ha hb h1 h2]
   by_cases h3:a.N<b.N
   ·rw [aY h3,aY (by simpa using h3)]
   ·rw [aM h3,aM (by simpa using h3)]
 ·rw [aY (by simpa using h1),YD ha hb h1]
  by_cases h3:a.Kind<b.Kind
  ·rw [aY h3,aY (by simpa using h3)]
  ·rw [aM h3,aM (by simpa using h3)]
theorem ux(b:Bool):ky b=some (bV b):=by cases b<;>rfl
theorem VL(ha:Pl a)(hb:Pl b):sY a b=some (if a.Kind≠0∧b.Kind≠0∧a.Kind≠b.Kind then 2 else 0):=by
 unfold sY
 rw [fR,fR,ha.right,hb.right,be,aY (by decide),be,be,aM (by decide)]
 rw [jo,jo,ha.plain,hb.plain,be,aY (by decide),be,be]
 by_cases h:a.Kind≠0∧b.Kind≠0∧a.Kind≠b.Kind
 ·rw [aY h,aY (by simp [h])]
 ·rw [aM h,aM (by simp;intro h1 h2;exact Classical.byContradiction fun h3=>h ⟨h1,h2,h3⟩)]
theorem Jy(ha:Pl a)(hb:Pl b)(f:Int→Bool):((sY a b).bind fun r=>if(((r !=(0:Int))||(a.Kind==(0:Int)))||(b.Kind==(0:Int)))=true then some ((⟨(0:Int),(0:Int),(0:Int),[]⟩:ac),r)else(oD a b).bind fun r1=>(ky (f r1)).bind fun r2=>some (r2,(0:Int)))=some (eH f a b):=by
 rw [VL ha hb,be]
 by_cases h0:a.Kind=0∨b.Kind=0
 ·have hne: ¬(a.Kind≠0∧b.Kind≠0∧a.Kind≠b.Kind):=fun h=>h0.elim h.1 h.2.1
  have e:eH f a b=(zV,0):=aY h0
  rw [aM hne,e,aY (by rcases h0 with h|h<;>simp [h])];rfl
 ·have h1:a.Kind≠0:=fun h=>h0 (.inl h)
  have h2:b.Kind≠0:=fun h=>h0 (.inr h)
  by_cases h3:a.Kind=b.Kind
  ·have hne: ¬(a.Kind≠0∧b.Kind≠0∧a.Kind≠b.Kind):=fun h=>h.2.2 h3
   have e:eH f a b=(bV (f (Fb a b)),0):=by unfold eH;rw [aM h0,aY h3]
   rw [aM hne,e,aM (by simp [h1,h2]),BL ha hb,be,ux];rfl
  ·have hp:a.Kind≠0∧b.Kind≠0∧a.Kind≠b.Kind:=⟨h1,h2,h3⟩
   have e:eH f a b=(zV,2):=by unfold eH;rw [aM h0,aM h3]
   rw [aY hp,e,aY (by simp)];rfl
theorem w9(ha:Pl a)(hb:Pl b):rd a b=some (eH (fun c=>c==0) a b):=Jy ha hb _
theorem qT(ha:Pl a)(hb:Pl b):mv a b=some (eH (fun c=>decide (c<0)) a b):=Jy ha hb _
theorem BB(ha:Pl a)(hb:Pl b):pS a b=some (if a.Kind≤1∧b.Kind≤1 then 0 else 2):=by
 unfold pS
 rw [fR,fR,ha.right,hb.right,be,aY (by decide),be,be,aM (by decide)]
 by_cases h:a.Kind≤1∧b.Kind≤1
 ·rw [aY h,aM (by simp;omega)]
 ·rw [aM h,aY (by simp;omega)]
theorem AC(h:Tu a):iZ a=some (F2 a,0):=by
 cases h with
 |z=>rfl
 |b b=>cases b<;>rfl
theorem HR(ha:Tu a)(hb:Tu b):sv a b=some (Fh a b,0):=by
 cases ha with
 |z=>cases hb with
  |z=>rfl
  |b b=>cases b<;>rfl
 |b x=>cases hb with
  |z=>cases x<;>rfl
  |b b=>cases x<;>cases b<;>rfl
theorem JA(ha:Tu a)(hb:Tu b):w8 a b=some (SX a b,0):=by
 cases ha with
 |z=>cases hb with
  |z=>rfl
  |b b=>cases b<;>rfl
 |b x=>cases hb with
  |z=>cases x<;>rfl
  |b b=>cases x<;>cases b<;>rfl
theorem HQ(ha:Pl a):iZ a=some (if a.Kind≤1 then(F2 a,0)else(zV,2)):=by
 by_cases h:a.Kind≤1
 ·rw [aY h];exact AC ((iT ha).2 h)
 ·rw [aM h]
  unfold iZ
  rw [BB ha ha,aM (fun k=>h k.1)];rfl
theorem HS(ha:Pl a)(hb:Pl b):sv a b=some (if a.Kind≤1∧b.Kind≤1 then(Fh a b,0)else(zV,2)):=by
 by_cases h:a.Kind≤1∧b.Kind≤1
 ·rw [aY h];exact HR ((iT ha).2 h.1) ((iT hb).2 h.2)
 ·rw [aM h]
  unfold sv
  rw [BB ha hb,aM h];rfl
theorem JB(ha:Pl a)(hb:Pl b):w8 a b=some (if a.Kind≤1∧b.Kind≤1 then(SX a b,0)else(zV,2)):=by
 by_cases h:a.Kind≤1∧b.Kind≤1
 ·rw [aY h];exact JA ((iT ha).2 h.1) ((iT hb).2 h.2)
 ·rw [aM h]
  unfold w8
  rw [BB ha hb,aM h];rfl
theorem EF{f:Int→Bool}{x y:ac}:((iZ (eH f x y).1).bind fun r=>some (r.1,(eH f x y).2))=some (EG (eH f x y)):=by
 unfold EG
 by_cases h0:(eH f x y).2=0
 ·rw [aY h0,AC (rk f x y h0),be,h0]
 ·rw [aM h0,BU f x y h0];rfl
theorem FV{k:Nat}(h:pk tag=some k)(hk:k≠0)(ha:Pl a)(hb:Pl b):Eo tag a b=some (BN tag a b):=by
 have op: ∀t,t=12∨t=13∨t=14∨t=15→iQ (Zn t) a b=some (wy t a b):=fun t ht=>WS ht ha hb
 rcases QS h hk with rfl|rfl|rfl|rfl|rfl|rfl|rfl|rfl|rfl|rfl|rfl|rfl|rfl|rfl|rfl|rfl
 ·have h2:iQ 45 (iV 0) a=some (wy 13 (iV 0) a):=WS (tag:=13) (.inr (.inl rfl)) (.i 0 ⟨by decide,by decide⟩) ha
  show(iQ 45 (iV 0) a).bind _=_
  rw [h2];rfl
 ·show(iZ a).bind _=some (if a.Kind≤1 then(F2 a,0)else(zV,2))
  rw [HQ ha];rfl
 ·show(ky (a.Kind==0)).bind _=some (bV (a.Kind==0),0)
  rw [ux];rfl
 ·show(ky (a.Kind !=0)).bind _=some (bV (a.Kind !=0),0)
  rw [ux];rfl
 ·show(iQ 43 a b).bind _=some (wy 12 a b)
  rw [show iQ 43 a b=some (wy 12 a b)from op 12 (.inl rfl)];rfl
 ·show(iQ 45 a b).bind _=some (wy 13 a b)
  rw [show iQ 45 a b=some (wy 13 a b)from op 13 (.inr (.inl rfl))];rfl
 ·show(iQ 42 a b).bind _=some (wy 14 a b)
  rw [show iQ 42 a b=some (wy 14 a b)from op 14 (.inr (.inr (.inl rfl)))];rfl
 ·show(iQ 47 a b).bind _=some (wy 15 a b)
  rw [show iQ 47 a b=some (wy 15 a b)from op 15 (.inr (.inr (.inr rfl)))];rfl
 ·show((rd a b).bind fun r=>some (r.1,r.2)).bind _=some (eH (fun c=>c==0) a b)
  rw [w9 ha hb];rfl
 ·show((rd a b).bind fun r=>(iZ r.1).bind fun r4=>some (r4.1,r.2)).bind _=some (EG (eH (fun c=>c==0) a b))
  rw [w9 ha hb,be,EF];rfl
 ·show((mv a b).bind fun r=>some (r.1,r.2)).bind _=some (eH (fun c=>decide (c<0)) a b)
  rw [qT ha hb];rfl
 ·show((mv b a).bind fun r=>(iZ r.1).bind fun r4=>some (r4.1,r.2)).bind _=some (EG (eH (fun c=>decide (c<0)) b a))
  rw [qT hb ha,be,EF];rfl
 ·show((mv b a).bind fun r=>some (r.1,r.2)).bind _=some (eH (fun c=>decide (c<0)) b a)
  rw [qT hb ha];rfl
 ·show((mv a b).bind fun r=>(iZ r.1).bind fun r4=>some (r4.1,r.2)).bind _=some (EG (eH (fun c=>decide (c<0)) a b))
  rw [qT ha hb,be,EF];rfl
 ·show(sv a b).bind _=some (if a.Kind≤1∧b.Kind≤1 then(Fh a b,0)else(zV,2))
  rw [HS ha hb];rfl
 ·show(w8 a b).bind _=some (if a.Kind≤1∧b.Kind≤1 then(SX a b,0)else(zV,2))
  rw [JB ha hb];rfl

theorem Xw(h:pk tag=some 1)(a b c:ac):BN tag a b=BN tag a c:=by
 have h4:tag=4∨tag=5∨tag=6∨tag=7:=by
  unfold pk at h
  repeat' split at h
  all_goals simp at h
  omega
 rcases h4 with rfl|rfl|rfl|rfl<;>rfl
theorem Z0(h:pk tag=some 1)(a b c:ac):dz tag a b=dz tag a c:=by
 unfold dz
 rw [Xw h a b c]
theorem Fx(nx:List ac→ac→Option (ac×Int))(m:aX)(own:List ac)(x a b:ac){k:Nat}(h:pk m.Tag=some k)(hk:k≠0)(ha:Pl a)(hb:Pl b)(hl:own.length≤60000):qS nx m own x a b=if(dz m.Tag a b).2=0 then nx (own++[(dz m.Tag a b).1]) x else some (dz m.Tag a b):=by
 unfold qS
 rw [FV h hk ha hb,be]
 rcases vc h hk ha hb with⟨h1,_,h3⟩|⟨h1,h2⟩|⟨h1,h2,_⟩
 ·rw [h3]at h1 ⊢
  rw [aY h1,aM (by simp [h1]),aM (by simp [h1]),cq (by simp;omega)];rfl
 ·rw [h1,h2];rfl
 ·rw [h1,h2];rfl
theorem Pe(r:List ac)(x:ac)(t:Tr):t.wf→SW t→xy r t→ ∀(rest:List aX) (own:List ac),own.length+t.size≤50000→
  ((ev r t).2≠0∧da r (t.flat own.length++rest) own x=some (ev r t))∨
  ((ev r t).2=0∧ ∃w:List ac,w.length+1=t.size∧da r (t.flat own.length++rest) own x=da r rest (own++w++[(ev r t).1]) x):=by
 induction t with
 |lf n=>
  intro⟨h1,h2,h3,h4⟩ hr hc rest own hl
  simp only [Tr.flat,Tr.size,wC,kL]at hl ⊢
  refine .inr ?_
  have e1:(g9 n (-1) (-1)).Tag=n.Tag:=rfl
  have ev0:(ev r (.lf n))=if n.Tag=1 then(n.Value,0)else((r[n.Col.toNat]?).getD zV,0):=rfl
  rcases YQ h1 with ht|ht
  ·rw [ev0,aY ht]
   refine⟨rfl,[],rfl,?_⟩
   rw [da]
   rw [e1,aY (by simp [ht]),cq (by simp;omega)]
   simp only [be,sG]
   rfl
  ·rw [ev0,aM (by simp [ht])]
   refine⟨rfl,[],rfl,?_⟩
   have hb:=MO h2 ht
   obtain⟨_,v,hv,_⟩:=hc ht
   have e2:(g9 n (-1) (-1)).Col=n.Col:=rfl
   rw [da]
   rw [e1,aM (by simp [ht]),aY (by simp [ht]),e2,gT n.Col.toNat (by omega),hv]
   simp only [be,sG,Ge]
   rw [cq (by simp;omega)]
   rfl
 |un n a ih=>
  intro⟨⟨h1,h2,h3,h4⟩,ha⟩ hr hc rest own hl
  have hap:=a.size_pos
  simp only [Tr.flat,Tr.size,jP]at hl ⊢
  obtain⟨m,hm⟩: ∃m,m=g9 n (((own.length+a.size:Nat):Int)-1) (-1):=⟨_,rfl⟩
  rw [←hm]
  rw [Ov]
  rcases ih ha hr hc ([m]++rest) own (by omega)with⟨hx,he⟩|⟨hx,w,hw,he⟩
  ·rw [ja hx]
   exact .inl ⟨hx,he⟩
  ·rw [he,m6 hx]
   have hpl:Pl (ev r a).1:=by
    rcases m4 r a ha hr hc with⟨_,h⟩|h|h
    ·exact h
    ·rw [h]at hx;cases hx
    ·rw [h]at hx;cases hx
   generalize (ev r a).1=v at hpl ⊢
   simp only [wC,kL]
   have e1:m.Tag=n.Tag:=by rw [hm];rfl
   have eL:m.L=((own.length+a.size:Nat):Int)-1:=by rw [hm];rfl
   have eR:m.R= -1:=by rw [hm];rfl
   have n1:n.Tag≠1:=fun h=>by rw [h]at h1;simp [pk]at h1
   have n2:n.Tag≠2:=fun h=>by rw [h]at h1;simp [pk]at h1
   have hstep:da r (m::rest) (own++w++[v]) x=if(dz n.Tag v v).2=0 then da r rest (own++w++[v]++[(dz n.Tag v v).1]) x else some (dz n.Tag v v):=by
    rw [da]
    rw [e1,aM (by simpa using n1),aM (by simpa using n2)]
    rw [eL,eR,gT (own++w).length (by simp;omega),ur (dK _),ze]
    simp only [FI,be]
    rw [aM (by decide),show(⟨0,0,0,[]⟩:ac)=zV from rfl,Fx _ m _ x v zV (by rw [e1];exact h1) (by decide) hpl .z (by simp;omega),e1,Z0 h1 v _ v]
   rw [hstep]
   by_cases hb:(dz n.Tag v v).2=0
   ·rw [aY hb]
    exact .inr ⟨hb,w++[v],by simp;omega,by simp⟩
   ·rw [aM hb]
    exact .inl ⟨hb,rfl⟩
 |bi n a b iha ihb=>
  intro⟨⟨h1,h2,h3,h4⟩,ha,hb⟩ ⟨hra,hrb⟩ ⟨hca,hcb⟩ rest own hl
  have hap:=a.size_pos
  have hbp:=b.size_pos
  simp only [Tr.flat,Tr.size,jP]at hl ⊢
  obtain⟨m,hm⟩: ∃m,m=g9 n (((own.length+a.size:Nat):Int)-1) (((own.length+a.size+b.size:Nat):Int)-1):=⟨_,rfl⟩
  rw [←hm]
  rw [Ow]
  rcases iha ha hra hca (b.flat (own.length+a.size)++([m]++rest)) own (by omega)with⟨hx,he⟩|⟨hx,w,hw,he⟩
  ·rw [ja hx]
   exact .inl ⟨hx,he⟩
  ·rw [he,m6 hx]
   have hpl:Pl (ev r a).1:=by
    rcases m4 r a ha hra hca with⟨_,h⟩|h|h
    ·exact h
    ·rw [h]at hx;cases hx
    ·rw [h]at hx;cases hx
   generalize (ev r a).1=v at hpl ⊢
   have hl2:(own++w++[v]).length=own.length+a.size:=by simp;omega
   rw [←hl2]
   rcases ihb hb hrb hcb ([m]++rest) (own++w++[v]) (by rw [hl2];omega)with⟨hy,he2⟩|⟨hy,w2,hw2,he2⟩
   ·rw [ja hy]
    exact .inl ⟨hy,he2⟩
   ·rw [he2,m6 hy]
    have hpl2:Pl (ev r b).1:=by
     rcases m4 r b hb hrb hcb with⟨_,h⟩|h|h
     ·exact h
     ·rw [h]at hy;cases hy
     ·rw [h]at hy;cases hy
    generalize (ev r b).1=u at hpl2 ⊢
    simp only [wC,kL]
    have e1:m.Tag=n.Tag:=by rw [hm];rfl
    have eL:m.L=((own.length+a.size:Nat):Int)-1:=by rw [hm];rfl
    have eR:m.R=((own.length+a.size+b.size:Nat):Int)-1:=by rw [hm];rfl
    have n1:n.Tag≠1:=fun h=>by rw [h]at h1;simp [pk]at h1
    have n2:n.Tag≠2:=fun h=>by rw [h]at h1;simp [pk]at h1
    have hstep:da r (m::rest) (own++w++[v]++w2++[u]) x=if(dz n.Tag v u).2=0 then da r rest (own++w++[v]++w2++[u]++[(dz n.Tag v u).1]) x else some (dz n.Tag v u):=by
     rw [da]
     rw [e1,aM (by simpa using n1),aM (by simpa using n2)]
     rw [eL,eR,gT (own++w).length (by simp;omega)]
     have g1:(own++w++[v]++w2++[u])[(own++w).length]? =some v:=by
      rw [jP,jP,ur (dK _),ze];rfl
     rw [g1]
     simp only [be]
     rw [aY (by rw [kO];omega),gT (own++w++[v]++w2).length (by simp;omega)]
     have g2:(own++w++[v]++w2++[u])[(own++w++[v]++w2).length]? =some u:=by
      rw [ur (dK _),ze];rfl
     rw [g2]
     simp only [be]
     rw [Fx _ m _ x v u (by rw [e1];exact h1) (by decide) hpl hpl2 (by simp;omega),e1]
    rw [hstep]
    by_cases hb:(dz n.Tag v u).2=0
    ·rw [aY hb]
     exact .inr ⟨hb,w++[v]++w2++[u],by simp;omega,by simp⟩
    ·rw [aM hb]
     exact .inl ⟨hb,rfl⟩
theorem zb(e:br)(r:List ac)(x:ac): ∀ns:List aX,(∀n∈ns,n.Tag=2→0≤n.Col)→qR e r ns x=if tp r ns then da r e.Nodes [] x else some (zV,2)
 |[],_=>rfl
 |n::ns,hc=>by
  unfold qR
  rw [zb e r x ns fun m hm=>hc m (kF _ hm)]
  have hcons:tp r (n::ns)=((!(n.Tag==2)||yI r n.Col)&&tp r ns):=rfl
  rw [hcons]
  by_cases ht:n.Tag=2
  ·have h0:=hc n (kJ ..) ht
   have e0:(n.Tag==2)=true:=by simp [ht]
   rw [e0,aY rfl]
   by_cases h:(r.length:Int)≤n.Col
   ·have hb:yI r n.Col=false:=by unfold yI;rw [Bool.and_eq_false_iff];left;simp;omega
    simp [h,hb,zV]
   ·have hlt:n.Col.toNat<r.length:=by omega
    have e1:cN r n.Col=some r[n.Col.toNat]:=by rw [gT n.Col.toNat (by omega),oy hlt]
    have hb:yI r n.Col=mw r[n.Col.toNat]:=by
     unfold yI
     rw [oy hlt]
     have:decide (n.Col<(r.length:Int))=true:=by simp;omega
     rw [this];rfl
    rw [aY (by simpa using h),e1,hb]
    simp only [be,jo]
    cases mw r[n.Col.toNat]<;>simp [zV]
  ·have e0:(n.Tag==2)=false:=by simp [ht]
   rw [e0]
   simp
theorem FW(e:br)(r:List ac)(he:Jx e.Nodes)(hr:To r):zA e r=some (ox r e.Nodes):=by
 unfold zA ox
 rw [wZ e,be]
 cases ht:mg e.Nodes with
 |none=>
  have:gQ e.Nodes=false:=by unfold gQ;rw [ht];rfl
  rw [this,aY (by decide)];rfl
 |some t=>
  have:gQ e.Nodes=true:=by unfold gQ;rw [ht];rfl
  rw [this,aM (by decide)]
  obtain⟨hw,hN,hs⟩:=jX ht
  rw [zb e r _ e.Nodes (fun n hn h2=>(DW hw 0 (by rw [←hN];exact hn) h2).1)]
  cases hc:tp r e.Nodes with
  |false=>rfl
  |true=>
   simp only [eQ]
   have hct:=v6 hr t hw 0 (by rw [←hN];exact hc)
   have hrt:=AB t 0 (by rw [←hN];exact he)
   have h:=Pe r zV t hw hrt hct [] [] (by simp;omega)
   rw [sG,pC,←hN]at h
   rcases h with⟨_,h2⟩|⟨h1,w,h2,h3⟩
   ·exact h2
   ·have h4:da r e.Nodes [] zV=some (ev r t):=by
     rw [h3]
     unfold da
     rw [kL,gT w.length (by rw [cn (by simp<;>omega) (by simp<;>omega)];simp),ur (dK _),ze]
     show some ((ev r t).1,(0:Int))=_
     rw [←h1]
    exact h4

theorem A9(h:m<79228162514264337593543950336):jJ m=[((m%4294967296:Nat):Int),((m/4294967296%4294967296:Nat):Int),((m/18446744073709551616:Nat):Int),0,0,0,0,0]:=by
 unfold jJ
 rw [Co (show m/18446744073709551616<4294967296 by omega),Nat.div_eq_of_lt h]
 rfl
theorem Sx(P Q c:Nat)(h:c≤1):(P+Q+c)/4294967296=P/4294967296+Q/4294967296+(P%4294967296+Q%4294967296+c)/4294967296∧(P+Q+c)%4294967296=(P%4294967296+Q%4294967296+c)%4294967296:=by omega
theorem OK(P Q c:Nat)(h:Q+c≤P)(hc:c≤1):(P-Q-c)/4294967296=P/4294967296-Q/4294967296-(1-(P%4294967296+4294967296-Q%4294967296-c)/4294967296)∧(P-Q-c)%4294967296=(P%4294967296+4294967296-Q%4294967296-c)%4294967296∧Q/4294967296+(1-(P%4294967296+4294967296-Q%4294967296-c)/4294967296)≤P/4294967296∧1-(P%4294967296+4294967296-Q%4294967296-c)/4294967296≤1:=by omega
theorem abW(P Q c:Nat)(h:Q+c≤P)(hc:c≤1)(hP:P<2147483648):(P+4294967296-Q-c)%4294967296=P-Q-c:=by omega
variable{l:List cM}
theorem Xx(hp:p<39614081257132168796771975168)(hq:q<39614081257132168796771975168)(s:Bool):ii ⟨jJ p,s⟩ ⟨jJ q,s⟩=some ⟨jJ (p+q),s&&decide (p+q≠0)⟩:=by
 have dp:p/4294967296/4294967296=p/18446744073709551616:=by rw [IW]
 have dq:q/4294967296/4294967296=q/18446744073709551616:=by rw [IW]
 have ds:(p+q)/4294967296/4294967296=(p+q)/18446744073709551616:=by rw [IW]
 have hd:jJ (p+q)=[(((p%4294967296+q%4294967296+0)%4294967296:Nat):Int),(((p/4294967296%4294967296+q/4294967296%4294967296+(p%4294967296+q%4294967296+0)/4294967296)%4294967296:Nat):Int),(((p/18446744073709551616+q/18446744073709551616+(p/4294967296%4294967296+q/4294967296%4294967296+(p%4294967296+q%4294967296+0)/4294967296)/4294967296)%4294967296:Nat):Int),0,0,0,0,0]:=by
  rw [A9 (by omega)]
  have b1:p/18446744073709551616<2147483648:=by omega
  have b2:q/18446744073709551616<2147483648:=by omega
  obtain⟨e1,e0⟩:=Sx p q 0 (by decide)
  rw [yq]at e1 e0
  rw [←ds,e1,e0,←dp,←dq]
  rw [←dp]at b1
  rw [←dq]at b2
  obtain⟨e2,e3⟩:=Sx (p/4294967296) (q/4294967296) ((p%4294967296+q%4294967296+0)/4294967296) (by clear ds dp dq e1 e0;omega)
  rw [e2,e3]
  have l:=Nat.div_le_div_right (c:=4294967296) (show p/4294967296%4294967296+q/4294967296%4294967296+(p%4294967296+q%4294967296+0)/4294967296≤8589934591 by omega)
  rw [show 8589934591/4294967296=1 from rfl]at l
  have ll:=Nat.add_le_add (Nat.add_le_add (Nat.le_of_lt_succ b1) (Nat.le_of_lt_succ b2)) l
  rw [Co (Nat.lt_of_le_of_lt ll (by decide))]
 have rM:=hd
 rw [A9 (m:=p) (by omega),A9 (m:=q) (by omega)]
 unfold ii
 generalize hp0:p%4294967296=p0 at rM ⊢
 generalize hp1:p/4294967296%4294967296=p1 at rM ⊢
 generalize hp2:p/18446744073709551616=p2 at rM ⊢
 generalize hq0:q%4294967296=q0 at rM ⊢
 generalize hq1:q/4294967296%4294967296=q1 at rM ⊢
 generalize hq2:q/18446744073709551616=q2 at rM ⊢
 have c1:(p0+q0+0)/4294967296≤1:=by omega
 generalize hc:(p0+q0+0)/4294967296=c at rM c1 ⊢
 have c2:(p1+q1+c)/4294967296≤1:=by omega
 generalize hcc:(p1+q1+c)/4294967296=cc at rM c2 ⊢
 have c3:(p2+q2+cc)/4294967296=0:=by omega
 rw [show((0:Int))=((0:Nat):Int)from rfl]
 rw [iz _ _ _ s s 7 0 (by omega) p0 q0 0 rfl rfl (by omega) (by omega) (by omega),hc]
 rw [iz _ _ _ s s 6 1 (by omega) p1 q1 c rfl rfl (by omega) (by omega) (by omega),hcc]
 rw [iz _ _ _ s s 5 2 (by omega) p2 q2 cc rfl rfl (by omega) (by omega) (by omega),c3]
 rw [iz _ _ _ s s 4 3 (by omega) 0 0 0 rfl rfl (by omega) (by omega) (by omega)]
 rw [show(0+0+0)/4294967296=0 from rfl]
 rw [iz _ _ _ s s 3 4 (by omega) 0 0 0 rfl rfl (by omega) (by omega) (by omega)]
 rw [show(0+0+0)/4294967296=0 from rfl]
 rw [iz _ _ _ s s 2 5 (by omega) 0 0 0 rfl rfl (by omega) (by omega) (by omega)]
 rw [show(0+0+0)/4294967296=0 from rfl]
 rw [iz _ _ _ s s 1 6 (by omega) 0 0 0 rfl rfl (by omega) (by omega) (by omega)]
 rw [show(0+0+0)/4294967296=0 from rfl]
 rw [iz _ _ _ s s 0 7 (by omega) 0 0 0 rfl rfl (by omega) (by omega) (by omega)]
 have he:=AE ⟨[(p0:Int),(p1:Int),(p2:Int),0,0,0,0,0],s⟩ ⟨[(q0:Int),(q1:Int),(q2:Int),0,0,0,0,0],s⟩ (7+1) (((0+0+0)/4294967296:Nat):Int) (p+q) (by omega) s
 rw [rM]at he
 rw [rM]
 exact he
theorem QR(hp:p<39614081257132168796771975168)(hq:q≤p)(s u:Bool)(hsu:(s==u)=false):ii ⟨jJ p,s⟩ ⟨jJ q,u⟩=some ⟨jJ (p-q),s&&decide (p-q≠0)⟩:=by
 have dp:p/4294967296/4294967296=p/18446744073709551616:=by rw [IW]
 have dq:q/4294967296/4294967296=q/18446744073709551616:=by rw [IW]
 have ds:(p-q)/4294967296/4294967296=(p-q)/18446744073709551616:=by rw [IW]
 have hd:jJ (p-q)=[(((p%4294967296+4294967296-q%4294967296-0)%4294967296:Nat):Int),(((p/4294967296%4294967296+4294967296-q/4294967296%4294967296-(1-(p%4294967296+4294967296-q%4294967296-0)/4294967296))%4294967296:Nat):Int),(((p/18446744073709551616+4294967296-q/18446744073709551616-(1-(p/4294967296%4294967296+4294967296-q/4294967296%4294967296-(1-(p%4294967296+4294967296-q%4294967296-0)/4294967296))/4294967296))%4294967296:Nat):Int),0,0,0,0,0]:=by
  rw [A9 (by omega)]
  have b1:p/18446744073709551616<2147483648:=by omega
  obtain⟨e1,e0,le,l1⟩:=OK p q 0 hq (by decide)
  rw [Nat.sub_zero]at e1 e0
  rw [←ds,e1,e0,←dp,←dq]
  rw [←dp]at b1
  obtain⟨e2,e3,le2,l2⟩:=OK (p/4294967296) (q/4294967296) (1-(p%4294967296+4294967296-q%4294967296-0)/4294967296) le l1
  rw [e2,e3]
  rw [abW _ _ _ le2 l2 b1]
 have rM:=hd
 rw [A9 (m:=p) (by omega),A9 (m:=q) (by omega)]
 unfold ii
 have hge:(p/18446744073709551616+4294967296-q/18446744073709551616-(1-(p/4294967296%4294967296+4294967296-q/4294967296%4294967296-(1-(p%4294967296+4294967296-q%4294967296-0)/4294967296))/4294967296))/4294967296=1:=by omega
 generalize hp0:p%4294967296=p0 at rM hge ⊢
 generalize hp1:p/4294967296%4294967296=p1 at rM hge ⊢
 generalize hp2:p/18446744073709551616=p2 at rM hge ⊢
 generalize hq0:q%4294967296=q0 at rM hge ⊢
 generalize hq1:q/4294967296%4294967296=q1 at rM hge ⊢
 generalize hq2:q/18446744073709551616=q2 at rM hge ⊢
 have c1:1-(p0+4294967296-q0-0)/4294967296≤1:=by omega
 generalize hc:1-(p0+4294967296-q0-0)/4294967296=c at rM hge c1 ⊢
 have c2:1-(p1+4294967296-q1-c)/4294967296≤1:=by omega
 generalize hcc:1-(p1+4294967296-q1-c)/4294967296=cc at rM hge c2 ⊢
 rw [show((0:Int))=((0:Nat):Int)from rfl]
 rw [iA _ _ _ s u s hsu 7 0 (by omega) p0 q0 0 rfl rfl (by omega) (by omega) (by omega),hc]
 rw [iA _ _ _ s u s hsu 6 1 (by omega) p1 q1 c rfl rfl (by omega) (by omega) (by omega),hcc]
 rw [iA _ _ _ s u s hsu 5 2 (by omega) p2 q2 cc rfl rfl (by omega) (by omega) (by omega),hge]
 rw [show 1-1=0 from rfl]
 rw [iA _ _ _ s u s hsu 4 3 (by omega) 0 0 0 rfl rfl (by omega) (by omega) (by omega)]
 rw [show 1-(0+4294967296-0-0)/4294967296=0 from rfl]
 rw [iA _ _ _ s u s hsu 3 4 (by omega) 0 0 0 rfl rfl (by omega) (by omega) (by omega)]
 rw [show 1-(0+4294967296-0-0)/4294967296=0 from rfl]
 rw [iA _ _ _ s u s hsu 2 5 (by omega) 0 0 0 rfl rfl (by omega) (by omega) (by omega)]
 rw [show 1-(0+4294967296-0-0)/4294967296=0 from rfl]
 rw [iA _ _ _ s u s hsu 1 6 (by omega) 0 0 0 rfl rfl (by omega) (by omega) (by omega)]
 rw [show 1-(0+4294967296-0-0)/4294967296=0 from rfl]
 rw [iA _ _ _ s u s hsu 0 7 (by omega) 0 0 0 rfl rfl (by omega) (by omega) (by omega)]
 have he:=AE ⟨[(p0:Int),(p1:Int),(p2:Int),0,0,0,0,0],s⟩ ⟨[(q0:Int),(q1:Int),(q2:Int),0,0,0,0,0],u⟩ (7+1) ((1-(0+4294967296-0-0)/4294967296:Nat):Int) (p-q) (by omega) s
 rw [rM]at he
 rw [rM]
 exact he
theorem Zt(hp:p<39614081257132168796771975168)(hq:q<39614081257132168796771975168)(s t:Bool):sX ⟨jJ p,s⟩ ⟨jJ q,t⟩=some (decide (p<q)):=by
 rw [A9 (m:=p) (by omega),A9 (m:=q) (by omega)]
 unfold sX
 obtain⟨f,hf⟩: ∃f,gX=f+9:=⟨gX-9,by have:=my (n:=9) (by omega);omega⟩
 rw [hf]
 rw [show(7:Int)=((7:Nat):Int)from rfl,iB _ _ s t (f+8) 7 (by omega) 0 0 rfl rfl,aY rfl]
 rw [show((7:Nat):Int)-1=((6:Nat):Int)from rfl,iB _ _ s t (f+7) 6 (by omega) 0 0 rfl rfl,aY rfl]
 rw [show((6:Nat):Int)-1=((5:Nat):Int)from rfl,iB _ _ s t (f+6) 5 (by omega) 0 0 rfl rfl,aY rfl]
 rw [show((5:Nat):Int)-1=((4:Nat):Int)from rfl,iB _ _ s t (f+5) 4 (by omega) 0 0 rfl rfl,aY rfl]
 rw [show((4:Nat):Int)-1=((3:Nat):Int)from rfl,iB _ _ s t (f+4) 3 (by omega) 0 0 rfl rfl,aY rfl]
 rw [show((3:Nat):Int)-1=((2:Nat):Int)from rfl,iB _ _ s t (f+3) 2 (by omega) _ _ rfl rfl]
 by_cases h2:((p/18446744073709551616:Nat):Int)=((q/18446744073709551616:Nat):Int)
 ·rw [aY h2,show((2:Nat):Int)-1=((1:Nat):Int)from rfl,iB _ _ s t (f+2) 1 (by omega) _ _ rfl rfl]
  by_cases h1:((p/4294967296%4294967296:Nat):Int)=((q/4294967296%4294967296:Nat):Int)
  ·rw [aY h1,show((1:Nat):Int)-1=((0:Nat):Int)from rfl,iB _ _ s t (f+1) 0 (by omega) _ _ rfl rfl]
   by_cases h0:((p%4294967296:Nat):Int)=((q%4294967296:Nat):Int)
   ·rw [aY h0]
    unfold lq
    rw [aM (by decide)]
    congr 1
    symm
    rw [FH];omega
   ·rw [aM h0]
    congr 1
    apply jK
    simp only [kO];omega
  ·rw [aM h1]
   congr 1
   apply jK
   simp only [kO];omega
 ·rw [aM h2]
  congr 1
  apply jK
  simp only [kO];omega
theorem SK(hx:x.natAbs<39614081257132168796771975168)(hy:y.natAbs<39614081257132168796771975168):mu (ly x) (ly y)=some (ly (x+y)):=by
 unfold mu ly
 rw [Zt hx hy]
 simp only [be]
 by_cases h:(decide (x<0)==decide (y<0))=true
 ·have hs:decide (y<0)=decide (x<0):=(eq_of_beq h).symm
  have hne:(decide (x<0) !=decide (y<0))=false:=by rw [hs];simp
  rw [hne]
  simp only [gp,ek,be]
  rw [hs,Xx hx hy]
  congr 2
  ·congr 1
   have:(decide (x<0)=true↔decide (y<0)=true):=by rw [hs]
   simp only [kO]at this
   omega
  ·apply jK
   have:(decide (x<0)=true↔decide (y<0)=true):=by rw [hs]
   simp only [kO]at this
   simp only [kN,kO]
   omega
 ·have hb:(decide (x<0)==decide (y<0))=false:=by simpa using h
  have hne:(decide (x<0) !=decide (y<0))=true:=by simp only [bne,hb];rfl
  rw [hne]
  simp only [eQ,be]
  have hxy: ¬(x<0↔y<0):=by
   intro hi
   have:decide (x<0)=decide (y<0):=by simp only [DA];exact hi
   rw [this]at hb;simp at hb
  by_cases hlt:x.natAbs<y.natAbs
  ·rw [aY (by simpa using hlt)]
   have hb' :(decide (y<0)==decide (x<0))=false:=by
    cases q1:decide (x<0)<;>cases q2:decide (y<0)<;>simp_all
   rw [QR hy (by omega) _ _ hb']
   congr 2
   ·congr 1;omega
   ·apply jK
    simp only [kN,kO]
    omega
  ·rw [aM (by simpa using hlt)]
   rw [QR hx (by omega) _ _ hb]
   congr 2
   ·congr 1;omega
   ·apply jK
    simp only [kN,kO]
    omega
def o4(z:Int):ac:=⟨4,z/18446744073709551616,z%18446744073709551616,[]⟩
def AI(z:Int):Prop:=z.natAbs<1208925819614629174706176
theorem Ha(m:Nat)(h:m<79228162514264337593543950336)(b:Bool):nL ((m/18446744073709551616:Nat):Int) ((m%18446744073709551616:Nat):Int) ⟨List.replicate 8 0,b⟩=some ⟨jJ m,b⟩:=by
 rw [A9 h]
 unfold nL
 rw [DY,wj,DY,wj]
 have e1:m%18446744073709551616%4294967296=m%4294967296:=by omega
 have e2:m%18446744073709551616/4294967296=m/4294967296%4294967296:=by omega
 have e3:m/18446744073709551616%4294967296=m/18446744073709551616:=by omega
 have e4:m/18446744073709551616/4294967296=0:=by omega
 rw [e1,e2,e3,e4]
 rfl
theorem SL(h:AI z):rb (o4 z).N (o4 z).U=some (ly z):=by
 unfold AI at h
 unfold rb o4 ly
 simp only []
 by_cases hz:z<0
 ·rw [aY (by rw [kO];omega),yu hz]
  obtain⟨u,hu⟩:=DG (show 0≤z%18446744073709551616 by omega)
  have hul:u<18446744073709551616:=by omega
  have hn:IntKind.u64.wrap (z/18446744073709551616)=((18446744073709551616-(-(z/18446744073709551616)).toNat:Nat):Int):=by rw [tI];omega
  rw [hu,xw hul,hn,xw (by omega)]
  have elow:IntKind.u64.wrap (((18446744073709551615-u:Nat):Int)+1)=((z.natAbs%18446744073709551616:Nat):Int):=by rw [tI];omega
  rw [elow]
  have:=Ha z.natAbs (by omega) true
  by_cases hl:z.natAbs%18446744073709551616=0
  ·rw [aY (by rw [hl];rfl)]
   have ehigh:IntKind.u64.wrap (((18446744073709551615-(18446744073709551616-(-(z/18446744073709551616)).toNat):Nat):Int)+1)=((z.natAbs/18446744073709551616:Nat):Int):=by rw [tI];omega
   rw [ehigh]
   exact this
  ·rw [aM (by rw [qZ];omega)]
   have ehigh:((18446744073709551615-(18446744073709551616-(-(z/18446744073709551616)).toNat):Nat):Int)=((z.natAbs/18446744073709551616:Nat):Int):=by omega
   rw [ehigh]
   exact this
 ·rw [aM (by rw [kO];omega),yw hz]
  have e1:z%18446744073709551616=((z.natAbs%18446744073709551616:Nat):Int):=by omega
  have e2:IntKind.u64.wrap (z/18446744073709551616)=((z.natAbs/18446744073709551616:Nat):Int):=by rw [tI];omega
  rw [e1,e2]
  exact Ha z.natAbs (by omega) false
theorem Nv(h:AI z):xQ (ly z)=some (o4 z,0):=by
 unfold AI at h
 unfold xQ vM ly o4
 generalize hm:z.natAbs=m at h ⊢
 have i3:cN (jJ m) 3=some ((m/79228162514264337593543950336%4294967296:Nat):Int):=rfl
 have i2:cN (jJ m) 2=some ((m/18446744073709551616%4294967296:Nat):Int):=rfl
 have i1:cN (jJ m) 1=some ((m/4294967296%4294967296:Nat):Int):=rfl
 have i0:cN (jJ m) 0=some ((m%4294967296:Nat):Int):=rfl
 simp only [i3,i2,i1,i0,be]
 rw [Fu]
 unfold fk
 rw [xK _ _ (uG _ (by decide)) (uG _ (by decide)),xK _ _ (uG _ (by decide)) (uG _ (by decide))]
 have hhi:m/79228162514264337593543950336%4294967296*4294967296+m/18446744073709551616%4294967296=m/18446744073709551616:=by omega
 have hlo:m/4294967296%4294967296*4294967296+m%4294967296=m%18446744073709551616:=by
  have:=Nat.mod_mul (x:=m) (a:=4294967296) (b:=4294967296)
  rw [show 4294967296*4294967296=18446744073709551616 from rfl]at this
  rw [this,Nat.mul_comm,Nat.add_comm]
 rw [hhi,hlo]
 have bhi:m/18446744073709551616<18446744073709551616:=by omega
 have blo:m%18446744073709551616<18446744073709551616:=uG _ (by decide)
 by_cases hz:z<0
 ·rw [aY (by simpa using hz),xw blo,xw bhi]
  have ew:IntKind.u64.wrap (((18446744073709551615-m%18446744073709551616:Nat):Int)+1)=z%18446744073709551616:=by rw [tI];omega
  rw [ew]
  unfold lr
  simp only [hz,Cl]
  by_cases hl0:z%18446744073709551616=0
  ·rw [aY (by rw [hl0];rfl)]
   have eh:IntKind.i64.wrap (IntKind.u64.wrap (((18446744073709551615-m/18446744073709551616:Nat):Int)+1))=z/18446744073709551616:=by rw [vt,tI];omega
   rw [eh,yu (show z/18446744073709551616<0 by omega)]
   rfl
  ·rw [aM (by simpa using hl0)]
   have eh:IntKind.i64.wrap ((18446744073709551615-m/18446744073709551616:Nat):Int)=z/18446744073709551616:=by rw [vt];omega
   rw [eh,yu (show z/18446744073709551616<0 by omega)]
   rfl
 ·rw [aM (by simpa using hz)]
  unfold lr
  simp only [hz,decide_false]
  have eh:IntKind.i64.wrap ((m/18446744073709551616:Nat):Int)=z/18446744073709551616:=by rw [vt];omega
  have el:((m%18446744073709551616:Nat):Int)=z%18446744073709551616:=by omega
  rw [eh,el,yw (show¬z/18446744073709551616<0 by omega)]
  rfl
theorem xP(z:Int):fM (o4 z)=true:=by unfold fM dJ o4;rfl
theorem FU(h:fM v=true)(hk:v.Kind=2)(hr:r64 v.N):su zV v=some (o4 v.N,0):=by
 unfold su ra o5
 have hz:fM zV=true:=rfl
 simp only [fR,h,hz,be,mS,Bt,eQ,gp,ek,uo]
 have e1:(zV.Kind==0)=true:=rfl
 have e2:(v.Kind==0)=false:=by rw [hk];rfl
 have e3:(v.Kind==2)=true:=by rw [hk];rfl
 simp only [e1,e2,e3,Bool.true_or,Bool.or_true,mS,gp,ek,eQ]
 have hs:AI v.N:=by unfold r64 at hr;unfold AI;omega
 rw [ji hr,be,Nv hs]
 rfl
theorem HO(h:fM v=true)(hk:v.Kind=2)(hr:r64 v.N)(hz:AI z)(hz2:AI (z+v.N)):su (o4 z) v=some (o4 (z+v.N),0):=by
 unfold su ra o5
 simp only [fR,h,xP,be,mS,Bt,eQ,gp,ek,uo]
 have e1:((o4 z).Kind==0)=false:=rfl
 have e4:((o4 z).Kind==4)=true:=rfl
 have e2:(v.Kind==0)=false:=by rw [hk];rfl
 have e3:(v.Kind==2)=true:=by rw [hk];rfl
 simp only [e1,e2,e3,e4,Bool.or_true,mS,gp,ek,eQ]
 have hx:z.natAbs<39614081257132168796771975168:=by unfold AI at hz;omega
 have hy:v.N.natAbs<39614081257132168796771975168:=by unfold r64 at hr;omega
 rw [ji hr,SL hz,be,be,SK hx hy,be,Nv hz2]
 rfl
theorem Jz(h:AI z):uW (o4 z)=some (if r64 z then(iV z,0)else(zV,140)):=by
 unfold uW ra
 simp only [fR,xP,be,mS,gp,ek,uo]
 have e1:((o4 z).Kind==0)=false:=rfl
 have e4:((o4 z).Kind==4)=true:=rfl
 simp only [e1,e4,Bool.or_true,mS,gp,ek]
 obtain⟨n,h1,h2⟩:=KV (z:=z) (by unfold AI at h;omega)
 rw [SL h,be,h1,be]
 by_cases hr:r64 z
 ·rw [aY hr,yu hr,aM (by simp),h2 hr]
  rfl
 ·rw [aM hr,yw hr]
  rfl
theorem HP:uW zV=some (zV,0):=rfl
theorem Ff{kind:Int}(h:fM v=true)(hk:v.Kind=0∨v.Kind=kind):px kind [v]=some 0:=by
 unfold px jU jU
 rw [nF,h]
 simp only [eQ,be]
 rw [aM (by decide),aM]
 simp
 omega
theorem Ht(hr:r64 v.N):qJ v=some (o4 v.N):=by
 unfold r64 at hr
 unfold qJ o4
 have e:(2:Int)^(min (Int.toNat (63:Int)) IntKind.i64.bits)=9223372036854775808:=by decide
 rw [e,tI]
 congr 2
 rw [Int.fdiv_eq_ediv_of_nonneg _ (by decide)]
 omega
theorem QQ(hx:AI x)(hy:AI y)(hs:AI (x+y)):wa (o4 x) (o4 y)=some (o4 (x+y),0):=by
 unfold AI at hx hy hs
 unfold wa o4 KT
 simp only []
 rw [aY (by omega),be]
 simp only []
 rw [aY (by rw [tI,tI];omega),be]
 simp only []
 have eh:IntKind.i64.wrap ((IntKind.u64.wrap (x/18446744073709551616)+IntKind.u64.wrap (y/18446744073709551616)+(x%18446744073709551616+y%18446744073709551616+0)/18446744073709551616)%18446744073709551616)=(x+y)/18446744073709551616:=by
  rw [vt,tI,tI]
  omega
 rw [eh]
 have rx:r64 (x/18446744073709551616):=by unfold r64;omega
 have ry:r64 (y/18446744073709551616):=by unfold r64;omega
 have rs:r64 ((x+y)/18446744073709551616):=by unfold r64;omega
 obtain⟨a1,a2⟩:=xE rx rs
 obtain⟨b1,b2⟩:=xE ry rs
 rw [II a2 b2,a1,b1]
 have hno:((decide (x/18446744073709551616<0) !=decide ((x+y)/18446744073709551616<0))&&(decide (y/18446744073709551616<0) !=decide ((x+y)/18446744073709551616<0)))=false:=by
  rw [rA]
  intro h
  simp only [kN,qo,pI,DA]at h
  omega
 have el:(x%18446744073709551616+y%18446744073709551616+0)%18446744073709551616=(x+y)%18446744073709551616:=by omega
 rw [hno,aM (by simp),el]
theorem PU(h:fM v=true)(hk:v.Kind=2)(hr:r64 v.N):sE zV v=some (o4 v.N,0):=by
 unfold sE
 rw [Ff (v:=zV) rfl (.inl rfl),Ff h (.inr hk),be,be,aM (by decide),aM (by decide),aM (by rw [hk];decide),aY (by rfl),Ht hr]
 rfl
theorem SI(h:fM v=true)(hk:v.Kind=2)(hr:r64 v.N)(hz:AI z)(hz2:AI (z+v.N)):sE (o4 z) v=some (o4 (z+v.N),0):=by
 unfold sE
 have hs:AI v.N:=by unfold r64 at hr;unfold AI;omega
 rw [Ff (kind:=4) (xP z) (.inr rfl),Ff h (.inr hk),be,be,aM (by decide),aM (by decide),aM (by rw [hk];decide),aM (by show¬((4:Int)==0)=true;decide),Ht hr,be,QQ hz hs hz2]
 rfl
theorem V0(h:AI z):yi (o4 z)=some (if r64 z then(iV z,0)else(zV,140)):=by
 unfold AI at h
 unfold yi
 rw [Ff (kind:=4) (xP z) (.inr rfl),be,aM (by decide),aM (by show¬((4:Int)==0)=true;decide)]
 have e:n9 (IntKind.i64.wrap (o4 z).U)=some (iV (IntKind.i64.wrap (z%18446744073709551616))):=rfl
 have hw:r64 (IntKind.i64.wrap (z%18446744073709551616)):=oE _
 rw [e,be,Ht (v:=iV (IntKind.i64.wrap (z%18446744073709551616))) hw,be]
 by_cases hr:r64 z
 ·have:IntKind.i64.wrap (z%18446744073709551616)=z:=by unfold r64 at hr;rw [vt];omega
  rw [aY hr,this,aY (by simp [iV])]
 ·rw [aM hr,aM]
  ·rfl
  ·intro hh
   have hh:=I2 hh
   unfold o4 iV at hh
   simp only [ac.mk.injEq,true_and,and_true]at hh
   refine hr ?_
   have h1:=hh.1
   unfold r64 at hw ⊢
   generalize IntKind.i64.wrap (z%18446744073709551616)=w at hh hw h1
   omega

theorem zd{a b:cM}(ha:ku a=true)(hb:ku b=true):pn a b=some (eM a b):=by rw [Ei,ha,hb];rfl

theorem yd{r:List ac}{ns:List aX}(he:Jx ns)(hr:To r):((ox r ns).2=0∧Pl (ox r ns).1)∨((ox r ns).2≠0∧(ox r ns).2≠140∧(ox r ns).1=zV)∨ox r ns=(zV,140):=by
 unfold ox
 cases ht:mg ns with
 |none=>right;left;exact⟨show(200:Int)≠0 by decide,show(200:Int)≠140 by decide,rfl⟩
 |some t=>
  obtain⟨hw,hN,hs⟩:=jX ht
  simp only []
  by_cases hc:tp r ns=true
  ·rw [aY hc]
   have hrt:SW t:=AB t 0 (by rw [←hN];exact he)
   have hcv:xy r t:=v6 hr t hw 0 (by rw [←hN];exact hc)
   rcases m4 r t hw hrt hcv with h|h|h
   ·exact .inl h
   ·rw [h];right;left;decide
   ·exact .inr (.inr h)
  ·rw [aM hc];right;left;decide
def A5(ns:List aX)(rows:List cM):List ac:=rows.filterMap fun r=>if(ox r ns).2=0∧(ox r ns).1.Kind≠0 then some (ox r ns).1 else none
def Da(ns:List aX)(rows:List cM):Bool:=rows.any fun r=>(ox r ns).2 !=0&&(ox r ns).2 !=140
def C7(ns:List aX)(rows:List cM):Bool:=rows.any fun r=>(ox r ns).2==140
def rF(tag:Int)(vs:List ac):Bool:=tag==3&&vs.any fun v=>v.Kind !=2
def Ek(rows:List cM):Prop:= ∀r∈rows,To r
theorem E5(ns:List aX)(r:cM)(t:List cM):A5 ns (r::t)=if(ox r ns).2=0∧(ox r ns).1.Kind≠0 then(ox r ns).1::A5 ns t else A5 ns t:=by
 unfold A5
 rw [List.filterMap_cons]
 split
 ·split
  ·rename_i h;rw [aY (by simpa using h)]at*;simp_all
  ·rfl
 ·rename_i h;split
  ·rename_i h2;rw [aY h2]at h;simp at h;rw [h]
  ·rename_i h2;rw [aM h2]at h;simp at h
variable{rows:List cM}
theorem IC{ns:List aX}(he:Jx ns): ∀{rows:List cM},Ek rows→ ∀v∈A5 ns rows,Pl v
 |[],_,v,hv=>by simp [A5]at hv
 |r::t,hr,v,hv=>by
  rw [E5]at hv
  have ht:Ek t:=fun x hx=>hr x (kF _ hx)
  split at hv
  ·rename_i h
   rcases fc.1 hv with hv|hv
   ·subst hv
    rcases yd he (hr r (kJ ..))with q|q|q
    ·exact q.2
    ·exact absurd h.1 q.1
    ·rw [q]at h;exact absurd h.1 (by decide)
   ·exact IC he ht v hv
  ·exact IC he ht v hv
theorem Ou(ns:List aX)(rows:List cM):(A5 ns rows).length≤rows.length:=List.length_filterMap_le ..
theorem Dw(a:ea)(hl:a.Arg.Nodes.length≤50000)(he:Jx a.Arg.Nodes): ∀(rows:List cM) (out:List ac) (fault:Int),Ek rows→out.length+rows.length≤1000000→jv a rows out fault=some (if Da a.Arg.Nodes rows then([],2)else(out++A5 a.Arg.Nodes rows,if C7 a.Arg.Nodes rows then 140 else fault))
 |[],out,fault,_,_=>by
  unfold jv Da C7 A5
  simp
 |r::t,out,fault,hr,hk=>by
  have ht:Ek t:=fun x hx=>hr x (kF _ hx)
  rw [iO]at hk
  unfold jv
  rw [vW a.Arg r hl he (hr r (kJ ..)),be,E5]
  have eb:Da a.Arg.Nodes (r::t)=(((ox r a.Arg.Nodes).2 !=0&&(ox r a.Arg.Nodes).2 !=140)||Da a.Arg.Nodes t):=rfl
  have ef:C7 a.Arg.Nodes (r::t)=(((ox r a.Arg.Nodes).2==140)||C7 a.Arg.Nodes t):=rfl
  rw [eb,ef]
  rcases yd he (hr r (kJ ..))with q|q|q
  ·rw [q.1]
   simp only [Int.reduceBEq,gp,ek,Int.reduceBNe,DC,rN,true_and]
   by_cases hk0:(ox r a.Arg.Nodes).1.Kind=0
   ·rw [aM (by simp [hk0]),Dw a hl he t out fault ht (by omega)]
    simp only [hk0,pI,IY,ek]
   ·rw [aY (by simpa using hk0),aY hk0,cq (by simp only [zg];omega),be,Dw a hl he t _ fault ht (by simp only [jd,zg];omega)]
    simp only [jP,Gl]
  ·rw [aM (by simpa using q.2.1),aY (by simpa using q.1)]
   have:((ox r a.Arg.Nodes).2 !=0&&(ox r a.Arg.Nodes).2 !=140)=true:=by simp [q.1,q.2.1]
   rw [this];simp
  ·rw [q]
   simp only [Gg,eQ,Dw a hl he t out 140 ht (by omega),Int.reduceBNe,Bool.and_false,rN,Bool.true_or]
   rw [aM (by decide: ¬((140:Int)=0∧_))]
   simp
def qt:List ac→Int
 |[]=>0
 |v::t=>v.N+qt t
def pick(tag:Int)(b v:ac):ac:=if tag=4∧val v b<0∨tag=5∧0<val v b then v else b
def vf(tag:Int):List ac→ac
 |[]=>zV
 |v::t=>t.foldl (pick tag) v
def QF(vs:List ac):ac×Int:=if vs=[]then(zV,0)else if r64 (qt vs)then(iV (qt vs),0)else(zV,140)
def RF(tag:Int)(vs:List ac)(fault:Int):ac×Int:=
 if fault≠0 then(zV,fault)else if tag=2 then(iV (vs.length:Int),0)else if tag=3 then QF vs else(vf tag vs,0)
def wc(a:ea)(rows:List cM):ac×Int:=
 if a.Tag=1 then(iV (rows.length:Int),0)else if Da a.Arg.Nodes rows||rF a.Tag (A5 a.Arg.Nodes rows)then(zV,2)else RF a.Tag (A5 a.Arg.Nodes rows) (if C7 a.Arg.Nodes rows then 140 else 0)
theorem Jl(p q:List ac):qt (p++q)=qt p+qt q:=by
 induction p with
 |nil=>simp [qt]
 |cons v t ih=>simp only [wC,qt,ih];omega
theorem Nw: ∀(p:List ac),(∀v∈p,r64 v.N)→(qt p).natAbs≤p.length*9223372036854775808
 |[],_=>by simp [qt]
 |v::t,h=>by
  have h1:=Nw t fun x hx=>h x (kF _ hx)
  have h2:=h v (kJ ..)
  unfold r64 at h2
  simp only [qt,iO]
  omega
theorem HB{p:List ac}(h: ∀v∈p,r64 v.N)(hl:p.length≤100000):AI (qt p):=by
 have:=Nw p h
 unfold AI
 omega
theorem Sz(tag:Int)(p:List ac)(v:ac):vf tag (p++[v])=if p=[]then v else pick tag (vf tag p) v:=by
 cases p with
 |nil=>rfl
 |cons x t=>simp [vf]
theorem Sy(tag:Int): ∀(p:List ac),p≠[]→vf tag p∈p
 |[],h=>absurd rfl h
 |v::t,_=>by
  unfold vf
  have: ∀(t:List ac) (b:ac),t.foldl (pick tag) b∈b::t:=by
   intro t
   induction t with
   |nil=>intro b;simp
   |cons x t ih=>
    intro b
    simp only [List.foldl_cons]
    have:=ih (pick tag b x)
    have hp:pick tag b x=b∨pick tag b x=x:=by unfold pick;split<;>simp
    rcases hp with hp|hp<;>rw [hp]at this ⊢
    ·rcases fc.1 this with h|h
     ·rw [h];simp
     ·exact kF _ (kF _ h)
    ·exact kF _ this
  exact this t v
theorem EV(l:List ac)(h: ¬rF 3 l=true): ∀v∈l,v.Kind=2:=by
 intro v hv
 unfold rF at h
 simp only [Gg,uo,zf,IZ]at h
 simpa using h v hv
theorem Ch{f:ac→Option Bool}{g:ac→Bool}(hf: ∀v,f v=some (g v))(l:List ac):dW l f=some (l.any g):=by
 have key: ∀(l:List ac) (i:Nat),∃j:Int,cX f l i=some j∧decide (0≤j)=l.any g:=by
  intro l
  induction l with
  |nil=>intro i;exact⟨-1,rfl,rfl⟩
  |cons v t ih=>
   intro i
   unfold cX
   rw [hf,be,wH]
   by_cases hg:g v=true
   ·rw [aY hg,hg]
    exact⟨(i:Int),rfl,by simp⟩
   ·rw [aM hg,rA.2 hg,rN]
    exact ih (i+1)
 obtain⟨j,h1,h2⟩:=key l 0
 unfold dW gq
 rw [h1]
 simp only [be]
 rw [←h2]
theorem qH{x y:ac}(hx:fM x=true)(hy:fM y=true):ij x y=some (val x y):=by
 unfold ij
 have h1:ku [x]=true:=by unfold ku;simp [hx]
 have h2:ku [y]=true:=by unfold ku;simp [hy]
 rw [zd h1 h2,be]
 have:=Zm 0 0 0 0
 unfold eM
 simp only [eM]
 split<;>simp_all
theorem Mn: ∀(l:List ac) (m:ac),(∀v∈l,fM v=true)→fM m=true→cC ij l m=some (l.foldl (pick 4) m)
 |[],m,_,_=>rfl
 |v::t,m,h,hm=>by
  have hv:=h v (kJ ..)
  have ht:=fun x hx=>h x (kF v hx)
  unfold cC
  rw [qH hv hm,be,List.foldl_cons]
  by_cases hc:val v m<0
  ·rw [aY (by simpa using hc),Mn t v ht hv]
   simp [pick,hc]
  ·rw [aM (by simpa using hc),Mn t m ht hm]
   simp [pick,hc]
theorem Mo: ∀(l:List ac) (m:ac),(∀v∈l,fM v=true)→fM m=true→cD ij l m=some (l.foldl (pick 5) m)
 |[],m,_,_=>rfl
 |v::t,m,h,hm=>by
  have hv:=h v (kJ ..)
  have ht:=fun x hx=>h x (kF v hx)
  unfold cD
  rw [qH hv hm,be,List.foldl_cons]
  by_cases hc:0<val v m
  ·rw [aY (by simpa using hc),Mo t v ht hv]
   simp [pick,hc]
  ·rw [aM (by simpa using hc),Mo t m ht hm]
   simp [pick,hc]
theorem ZC(v:α)(t:List α):cN (v::t) (0:Int)=some v:=rfl
theorem XH{l:List ac}(h: ∀v∈l,fM v=true)(hne:l≠[]):eS l ij=some (vf 4 l):=by
 cases l with
 |nil=>exact absurd rfl hne
 |cons v t=>
  unfold eS ga
  rw [aM (by rw [iO,kO];omega),ZC,be]
  exact Mn t v (fun x hx=>h x (kF v hx)) (h v (kJ ..))
theorem XI{l:List ac}(h: ∀v∈l,fM v=true)(hne:l≠[]):eT l ij=some (vf 5 l):=by
 cases l with
 |nil=>exact absurd rfl hne
 |cons v t=>
  unfold eT gb
  rw [aM (by rw [iO,kO];omega),ZC,be]
  exact Mo t v (fun x hx=>h x (kF v hx)) (h v (kJ ..))
theorem SD(x:ac): ∀(l:List ac) (z:Int) (n:Nat),(∀v∈l,Pl v∧v.Kind=2)→z.natAbs≤n*9223372036854775808→n+l.length≤100000→mO l x (o4 z)=some (if r64 (z+qt l)then(iV (z+qt l),0)else(zV,140))
 |[],z,n,_,hz,hn=>by
  have hz2:AI z:=by unfold AI;omega
  unfold mO
  rw [V0 hz2,be]
  simp only [qt,Int.add_zero]
 |v::t,z,n,h,hz,hn=>by
  rw [iO]at hn
  obtain⟨hv,hk⟩:=h v (kJ ..)
  have hr:=hv.r64
  have hb:(z+v.N).natAbs≤(n+1)*9223372036854775808:=by unfold r64 at hr;omega
  unfold mO
  rw [SI hv.right hk hr (z:=z) (by unfold AI;omega) (by unfold AI;omega),be,aM (by show¬((0:Int) !=0)=true;decide)]
  have e:z+qt (v::t)=z+v.N+qt t:=by simp only [qt];omega
  rw [SD x t (z+v.N) (n+1) (fun y hy=>h y (kF _ hy)) hb (by omega),e]
theorem IH{l:List ac}(h: ∀v∈l,Pl v∧v.Kind=2)(hl:l.length≤90000):yj l=some (QF l):=by
 unfold yj
 rw [aM (by simp;omega)]
 have:oU=some zV:=rfl
 rw [this,be]
 cases l with
 |nil=>rfl
 |cons v t=>
  obtain⟨hv,hk⟩:=h v (kJ ..)
  have hr:=hv.r64
  rw [iO]at hl
  unfold mO
  rw [PU hv.right hk hr,be,aM (by show¬((0:Int) !=0)=true;decide)]
  rw [SD _ t v.N 1 (fun y hy=>h y (kF _ hy)) (by unfold r64 at hr;omega) (by omega)]
  rfl
theorem yH(a:ea)(hl:a.Arg.Nodes.length≤50000)(he:Jx a.Arg.Nodes)(ht:a.Tag=1∨a.Tag=2∨a.Tag=3∨a.Tag=4∨a.Tag=5)(hr:Ek rows)(hn:rows.length≤90000):lV a rows=some (wc a rows):=by
 unfold lV wc
 by_cases h1:a.Tag=1
 ·rw [aY (by simpa using h1),aY h1];rfl
 ·rw [aM (by simpa using h1),aM h1]
  have e:xu a rows=_:=Dw a hl he rows [] 0 hr (by simp only [pC];omega)
  rw [e,be]
  by_cases hb:Da a.Arg.Nodes rows=true
  ·rw [hb];rfl
  ·rw [rA.2 hb]
   simp only [gp,ek,rN,kL]
   rw [aM (by split<;>decide),Ch (f:=mJ) (g:=fun v=>v.Kind !=2) (fun v=>rfl)]
   have eo:(if(a.Tag==(3:Int))then((some ((A5 a.Arg.Nodes rows).any fun v=>v.Kind !=2)).bind fun r2=>some r2)else some false)=some (rF a.Tag (A5 a.Arg.Nodes rows)):=by
    unfold rF
    cases (a.Tag==(3:Int))<;>rfl
   rw [eo,be]
   by_cases ho:rF a.Tag (A5 a.Arg.Nodes rows)=true
   ·rw [ho];rfl
   ·rw [rA.2 ho]
    simp only [gp,ek]
    unfold RF
    have hpl:=IC he hr
    have hlen:=Ou a.Arg.Nodes rows
    by_cases hf:C7 a.Arg.Nodes rows=true
    ·rw [hf];rfl
    ·rw [rA.2 hf]
     simp only [gp,ek,pI,IY,yN]
     by_cases h2:a.Tag=2
     ·rw [aY (by simpa using h2),aY h2];rfl
     ·rw [aM (by simpa using h2),aM h2]
      by_cases h3:a.Tag=3
      ·rw [aY (by simpa using h3),aY h3]
       rw [h3]at ho
       rw [IH (fun v hv=>⟨hpl v hv,EV _ ho v hv⟩) (by omega)]
       rfl
      ·rw [aM (by simpa using h3),aM h3]
       by_cases hz:A5 a.Arg.Nodes rows=[]
       ·rw [hz,aY (by rfl)];rfl
       ·rw [aM (by
         intro hh;apply hz
         have:=eq_of_beq hh
         exact sH (by omega))]
        have hrt: ∀v∈A5 a.Arg.Nodes rows,fM v=true:=fun v hv=>(hpl v hv).right
        by_cases h4:a.Tag=4
        ·rw [aY (by simpa using h4),h4,XH hrt hz];rfl
        ·have h5:a.Tag=5:=by omega
         rw [aM (by simpa using h4),h5,XI hrt hz];rfl

def yB(tag:Int)(vs:List ac):ac:=if tag=3∧vs≠[]then o4 (qt vs)else zV
theorem JY(tag:Int)(p q:List ac):rF tag (p++q)=(rF tag p||rF tag q):=by
 unfold rF
 rw [Gb]
 cases (tag==3)<;>rfl
theorem Tp{vs:List ac}(h: ∀v∈vs,Pl v∧v.Kind=2)(hl:vs.length≤90000):uW (yB 3 vs)=some (QF vs):=by
 unfold yB QF
 by_cases hv:vs=[]
 ·rw [aM (by simp [hv]),aY hv,HP]
 ·rw [aY ⟨rfl,hv⟩,aM hv,Jz (HB (fun v hm=>(h v hm).1.r64) (by omega))]
theorem QE{vs:List ac}(h: ∀v∈vs,Pl v∧v.Kind=2)(hl:vs.length≤90000)(hv:Pl v)(hk:v.Kind=2):su (yB 3 vs) v=some (yB 3 (vs++[v]),0):=by
  have e:yB 3 (vs++[v])=o4 (qt vs+v.N):=by
    unfold yB
    rw [aY ⟨rfl,by simp⟩,Jl]
    simp [qt]
  rw [e]
  by_cases hn:vs=[]
  · subst hn
    have:yB 3 []=zV:=by unfold yB;simp
    rw [this,FU hv.right hk hv.r64]
    simp [qt]
  · have:yB 3 vs=o4 (qt vs):=by unfold yB;rw [aY ⟨rfl,hn⟩]
    have h1:AI (qt vs):=HB (fun v hm=>(h v hm).1.r64) (by omega)
    have h2:AI (qt vs+v.N):=by
      have:=HB (p:=vs++[v])
        (by
          intro w hw
          rcases Ad.1 hw with q|q
          · exact(h w q).1.r64
          · simp at q;rw [q];exact hv.r64) (by simp;omega)
      rw [Jl]at this
      simpa [qt] using this
    rw [this,HO hv.right hk hv.r64 h1 h2]
theorem SE(a:ea)(nx:Int→Int→ac→ac→ac→Option (ac×Int))(vs:List ac)(hl:vs.length≤90000)(fault:Int)(x:ac)(v:ac)(c:Int)(sm:ac):mp a nx (vs.length:Int) fault x (vf a.Tag vs) (v,c) sm=nx ((vs++[v]).length:Int) fault x sm (vf a.Tag (vs++[v])):=by
 unfold mp gR
 have hw:IntKind.i64.wrap ((vs.length:Int)+1)=((vs++[v]).length:Int):=by rw [tL (by omega) (by omega)];simp
 simp only [hw,Er,be]
 rw [Sz]
 by_cases hv:vs=[]
 ·subst hv
  simp
 ·rw [aM hv]
  have:(((vs++[v]).length:Int)==1)=false:=by
   rw [beq_eq_false_iff_ne]
   intro h
   apply hv
   simp only [jd,zg]at h
   exact sH (by omega)
  simp only [this,Bt,eQ]
  unfold pick
  by_cases h4:a.Tag=4
  ·rw [h4]
   by_cases hc:val v (vf 4 vs)<0
   ·simp [hc]
   ·simp [hc]
  ·by_cases h5:a.Tag=5
   ·rw [h5]
    by_cases hc:0<val v (vf 5 vs)
    ·simp [hc]
    ·simp [hc]
   ·simp [h4,h5]
theorem HN(a:ea)(he:Jx a.Arg.Nodes)(ht:a.Tag≠1)(x:ac): ∀(rows:List cM) (vs:List ac) (fault:Int),Ek rows→vs.length+rows.length≤90000→(∀v∈vs,Pl v)→rF a.Tag vs=false→(fault=0∨fault=140)→
  fQ a rows (vs.length:Int) fault x (yB a.Tag vs) (vf a.Tag vs)=some (if Da a.Arg.Nodes rows||rF a.Tag (A5 a.Arg.Nodes rows)then(zV,2)else RF a.Tag (vs++A5 a.Arg.Nodes rows) (if C7 a.Arg.Nodes rows then 140 else fault))
 |[],vs,fault,_,hl,hpl,hod,hf=>by
  have e1:Da a.Arg.Nodes []=false:=rfl
  have e2:A5 a.Arg.Nodes []=[]:=rfl
  have e3:C7 a.Arg.Nodes []=false:=rfl
  have e4:rF a.Tag []=false:=by unfold rF;simp
  rw [e1,e2,e3,e4,sG]
  simp only [Bool.or_self,gp,ek]
  unfold fQ RF
  rcases hf with hf|hf
  ·rw [hf]
   simp only [pI,IY,yN,gp,ek]
   by_cases h2:a.Tag=2
   ·rw [aY (by simpa using h2),aY h2];rfl
   ·rw [aM (by simpa using h2),aM h2]
    by_cases h3:a.Tag=3
    ·rw [aY (by simpa using h3),aY h3]
     rw [h3]at hod ⊢
     simp only [pC]at hl
     rw [Tp (fun v hv=>⟨hpl v hv,EV _ (by simpa using hod) v hv⟩) (by omega)]
     rfl
    ·rw [aM (by simpa using h3),aM h3]
  ·rw [hf];rfl
 |r::t,vs,fault,hr,hl,hpl,hod,hf=>by
  have htl:Ek t:=fun x hx=>hr x (kF _ hx)
  have hr1:=hr r (kJ ..)
  rw [iO]at hl
  unfold fQ
  rw [FW a.Arg r he hr1,be,E5]
  have eb:Da a.Arg.Nodes (r::t)=(((ox r a.Arg.Nodes).2 !=0&&(ox r a.Arg.Nodes).2 !=140)||Da a.Arg.Nodes t):=rfl
  have ef:C7 a.Arg.Nodes (r::t)=(((ox r a.Arg.Nodes).2==140)||C7 a.Arg.Nodes t):=rfl
  rw [eb,ef]
  rcases yd he hr1 with q|q|q
  ·rw [aM (by rw [q.1];decide)]
   have e0:((ox r a.Arg.Nodes).2 !=0&&(ox r a.Arg.Nodes).2 !=140)=false:=by rw [q.1];rfl
   have e1:((ox r a.Arg.Nodes).2==140)=false:=by rw [q.1];rfl
   have e2:((ox r a.Arg.Nodes).2 !=0)=false:=by rw [q.1];rfl
   rw [e0,e1,e2]
   simp only [rN]
   by_cases hk0:(ox r a.Arg.Nodes).1.Kind=0
   ·rw [aM (by simp [hk0]),aY (by simpa using hk0)]
    have hn2: ¬((ox r a.Arg.Nodes).2=0∧(ox r a.Arg.Nodes).1.Kind≠0):=fun h=>h.2 hk0
    simp only [aM hn2]
    unfold gR
    exact HN a he ht x t vs fault htl (by omega) hpl hod hf
   ·have hc2:(ox r a.Arg.Nodes).2=0∧(ox r a.Arg.Nodes).1.Kind≠0:=⟨q.1,hk0⟩
    rw [aY hc2]
    by_cases hodd:a.Tag=3∧(ox r a.Arg.Nodes).1.Kind≠2
    ·rw [aY (by simp [hodd.1,hodd.2,hk0])]
     have:rF a.Tag ((ox r a.Arg.Nodes).1::A5 a.Arg.Nodes t)=true:=by
      unfold rF
      simp [hodd.1,hodd.2]
     rw [this,Bool.or_true];rfl
    ·rw [aM (by simp only [kN,qZ,qo,pI];intro h;exact hodd ⟨h.1.1,h.2⟩),aM (by simpa using hk0)]
     have ho1:rF a.Tag [(ox r a.Arg.Nodes).1]=false:=by
      unfold rF
      simp only [wH,List.any_nil,Bool.or_false]
      rw [rA]
      intro h
      simp only [kN,qZ,qo,pI]at h
      exact hodd h
     have ho:rF a.Tag ((ox r a.Arg.Nodes).1::A5 a.Arg.Nodes t)=rF a.Tag (A5 a.Arg.Nodes t):=by
      have:=JY a.Tag [(ox r a.Arg.Nodes).1] (A5 a.Arg.Nodes t)
      rw [ho1,rN]at this
      exact this
     have hvs:rF a.Tag (vs++[(ox r a.Arg.Nodes).1])=false:=by rw [JY,hod,ho1];rfl
     have hpl2: ∀v∈vs++[(ox r a.Arg.Nodes).1],Pl v:=by
      intro v hv
      rcases Ad.1 hv with h|h
      ·exact hpl v h
      ·simp at h;rw [h];exact q.2
     have ih:=HN a he ht x t (vs++[(ox r a.Arg.Nodes).1]) fault htl (by simp only [jd,zg];omega) hpl2 hvs hf
     rw [ho]
     rw [jP,Gl]at ih
     rw [←ih]
     have hpair:ox r a.Arg.Nodes=((ox r a.Arg.Nodes).1,(ox r a.Arg.Nodes).2):=rfl
     by_cases h3:a.Tag=3
     ·rw [aY (by simpa using h3)]
      have hk2:(ox r a.Arg.Nodes).1.Kind=2:=by
       rcases Classical.em ((ox r a.Arg.Nodes).1.Kind=2)with h|h
       ·exact h
       ·exact absurd ⟨h3,h⟩ hodd
      have hod3: ¬rF 3 vs=true:=by rw [←h3,hod];simp
      have st:=QE (fun v hv=>⟨hpl v hv,EV _ hod3 v hv⟩) (by omega) q.2 hk2
      rw [←h3]at st
      rw [st,be]
      rw [hpair]
      exact SE a _ vs (by omega) fault x _ _ _
     ·rw [aM (by simpa using h3)]
      have es:yB a.Tag (vs++[(ox r a.Arg.Nodes).1])=yB a.Tag vs:=by
       unfold yB
       rw [aM (fun h=>h3 h.1),aM (fun h=>h3 h.1)]
      rw [es,hpair]
      exact SE a _ vs (by omega) fault x _ _ _
  ·rw [aM (by simpa using q.2.1),aY (by simp [q.1])]
   have:((ox r a.Arg.Nodes).2 !=0&&(ox r a.Arg.Nodes).2 !=140)=true:=by simp [q.1,q.2.1]
   rw [this]
   simp only [Bool.true_or,eQ]
   rfl
  ·rw [q,aM (by decide: ¬((140:Int)=0∧_)),aY (by rfl)]
   unfold gR
   have ih:=HN a he ht x t vs 140 htl (by omega) hpl hod (.inr rfl)
   rw [ih]
   simp
theorem zz(a:ea)(he:Jx a.Arg.Nodes)(hr:Ek rows)(hn:rows.length≤90000):rD a rows=some (wc a rows):=by
 unfold rD wc
 by_cases h1:a.Tag=1
 ·rw [aY (by simpa using h1),aY h1];rfl
 ·rw [aM (by simpa using h1),aM h1]
  have e:yB a.Tag []=zV:=by unfold yB;simp
  have:=HN a he h1 zV rows [] 0 hr (by simp only [pC];omega) (by simp) (by unfold rF;simp) (.inl rfl)
  rw [e,kL]at this
  exact this

def nb(r:Nat):Nat:=if r%2=1 then(r/2)^^^2197175160 else r/2
def nb8(r:Nat):Nat:=nb (nb (nb (nb (nb (nb (nb (nb r)))))))
def V5:List Int:=(List.range 256).map fun i=>(nb8 i:Int)

def nP(r:cM)(c:List Int):Bool:=decide (c.length≤16)&&c.all fun e=>decide (0≤e)&&decide (e<(r.length:Int))
theorem vl{f:Int→Option Bool}{g:Int→Bool}(hf: ∀v,f v=some (g v)): ∀(l:List Int) (i:Nat),∃j:Int,fE f l i=some j∧decide (0≤j)=l.any g
 |[],i=>⟨-1,rfl,rfl⟩
 |e::l,i=>by
  unfold fE
  rw [hf,be]
  cases h:g e with
  |true=>exact⟨(i:Int),by simp,by simp [h]⟩
  |false=>
   obtain⟨j,h1,h2⟩:=vl hf l (i+1)
   exact⟨j,by simpa using h1,by rw [h2];simp [h]⟩
theorem jN{f:Int→Option Bool}{g:Int→Bool}(hf: ∀v,f v=some (g v))(l:List Int):cx l f=some (l.any g):=by
 unfold cx ln
 obtain⟨j,h1,h2⟩:=vl hf l 0
 rw [h1,be,h2]
theorem LT(r:cM)(c:List Int):Dc r c=some (nP r c):=by
 unfold Dc nP
 rw [jN (f:=xM r) (g:=fun c=>(decide (c<(0:Int)))||(decide ((r.length:Int)≤c))) (fun v=>rfl)]
 by_cases h:c.length≤16
 ·rw [aY (by rw [kO];omega),be,be,yu h,uo]
  congr 1
  induction c with
  |nil=>rfl
  |cons e c ih=>
   rw [wH,Ab,Bool.not_or,ih (by simp at h;omega)]
   congr 1
   rw [Ac];simp only [CX,Bool.or_eq_false_iff,kN,kO,FH];omega
 ·rw [aM (by rw [kO];omega),be,yw h,DC]
theorem DZ(r:cM): ∀(c:List Int) (out:cM),(∀e∈c,0≤e∧e<(r.length:Int))→out.length+c.length≤1000→
  ∃t:cM,t.length=out.length+c.length∧(∀v∈t,v∈out∨v∈r)∧mb r c out=some t∧uw r c out=some t
 |[],out,_,_=>⟨out,rfl,fun v hv=> .inl hv,rfl,rfl⟩
 |e::c,out,h,hl=>by
  obtain⟨h1,h2⟩:=h e (kJ ..)
  obtain⟨n,rfl⟩:=DG h1
  have hn:n<r.length:=by omega
  rw [iO]at hl
  obtain⟨t,g1,g2,g3,g4⟩:=DZ r c (out++[r[n]]) (fun e he=>h e (kF _ he)) (by simp;omega)
  have hi:cN r (n:Int)=some r[n]:=by rw [bZ];exact oy hn
  refine⟨t,by rw [g1];simp;omega,fun v hv=>?_,?_,?_⟩
  ·rcases g2 v hv with g|g
   ·rcases Ad.1 g with g|g
    ·exact .inl g
    ·rw [CY.1 g];exact .inr (List.getElem_mem hn)
   ·exact .inr g
  ·unfold mb
   rw [hi,be,cq (by simp;omega),be]
   exact g3
  ·unfold uw
   rw [hi,be,cq (by simp;omega),be]
   exact g4
theorem VS(h:xs.length≤68719476736):app [] xs=some xs:=by rw [cq (by simpa using h)];rfl

def AL(l:List cM)(c:List Int):Bool:=decide (c.length≤16)&&c.all (fun e=>decide (0≤e))&&l.all (fun r=>nP r c)
def v7(l:List cM)(c:List Int):Int:=if vh l then(if AL l c then 0 else 2)else 150
theorem CT(c:List Int): ∀l:List cM,pP c l=some (if l.all (fun r=>nP r c)then 0 else 2)
 |[]=>rfl
 |r::l=>by
  unfold pP
  rw [LT,be,CT c l,Ab]
  cases nP r c<;>rfl
theorem FP(h:l.length≤8000)(c:List Int):xN l c=some (v7 l c):=by
 unfold xN v7
 rw [vJ,Hu l h,be]
 cases vh l with
 |false=>simp
 |true=>
  rw [aY rfl,aM (by decide),jN (f:=tP) (g:=fun c=>decide (c<(0:Int))) (fun v=>rfl),aY rfl]
  have hn:c.all (fun e=>decide (0≤e))= !c.any (fun e=>decide (e<(0:Int))):=by
   rw [List.not_any_eq_all_not]
   congr 1
   funext e
   rw [Ac];simp only [kO,CX,FH];omega
  unfold AL
  by_cases hc:c.length≤16
  ·rw [aY (by simp;omega),be,be,yu hc,hn,CT]
   cases c.any (fun e=>decide (e<(0:Int)))<;>cases l.all (fun r=>nP r c)<;>rfl
  ·rw [aM (by simp;omega),be,yw hc];rfl
theorem xV(h:AL l c=true)(hr:r∈l):nP r c=true:=by
 unfold AL at h
 rw [kN,jO]at h
 exact h.2 r hr
theorem KQ(h:v7 l c=0):vh l=true∧AL l c=true:=by
 unfold v7 at h
 cases h1:vh l<;>cases h2:AL l c<;>simp_all
def gy(c:List Int)(r:cM):cM:=(nJ r c).getD []
theorem At(h:nP r c=true):nJ r c=some (gy c r)∧(gy c r).length=c.length∧ ∀v∈gy c r,v∈r:=by
 unfold nP at h
 rw [kN,kO,jO]at h
 obtain⟨t,g1,g2,g3,g4⟩:=DZ r c [] (fun e he=>by have:=h.2 e he;rw [kN,kO,kO]at this;exact this) (by simp;omega)
 have e:nJ r c=some t:=g3
 unfold gy
 rw [e]
 exact⟨rfl,by simpa using g1,fun v hv=>(g2 v hv).elim (fun h=>by cases h) id⟩
def xl(c:List Int)(a b:cM):Int:=IU (eM (gy c a) (gy c b)) (eM a b)
theorem Kt(c:List Int):CW (xl c):=
 have h:=CW.lex i9 i9
 ⟨fun x y=>h.rng (gy c x,x) (gy c y,y),fun x y=>h.anti (gy c x,x) (gy c y,y),fun x y=>(h.eq (gy c x,x) (gy c y,y)).trans ⟨fun e=>(Prod.mk.injEq ..▸e).2,fun e=>by rw [e]⟩,fun x y z=>h.trans (gy c x,x) (gy c y,y) (gy c z,z)⟩
theorem Le{a b:cM}(ha:nP a c=true)(hb:nP b c=true):ml c a b=some (xl c a b):=by
 unfold ml
 rw [(At ha).1,(At hb).1]
 simp only [be,vI,B7,Xz]
 unfold xl IU
 congr 1
 by_cases h:eM (gy c a) (gy c b)=0
 ·by_cases h2:eM a b=0<;>simp [h,h2]
 ·simp [h]
theorem Ld{a b:cM}(ha:nP a c=true)(hb:nP b c=true):ge c a b=some (decide (gy c a=gy c b)):=by
 unfold ge
 rw [(At ha).1,(At hb).1]
 simp only [be,vK]
theorem ES{α:Type}{lt lt' :α→α→Bool}(x:α): ∀l:List α,(∀y∈l,lt y x=lt' y x)→Ib lt x l=Ib lt' x l
 |[],_=>rfl
 |y::l,h=>by
  unfold Ib
  rw [h y (kJ ..),ES x l fun z hz=>h z (kF _ hz)]
theorem CH{α:Type}{lt lt' :α→α→Bool}: ∀l:List α,(∀x∈l,∀y∈l,lt x y=lt' x y)→y6 lt l=y6 lt' l
 |[],_=>rfl
 |x::l,h=>by
  unfold y6
  rw [←CH l fun y hy z hz=>h y (kF _ hy) z (kF _ hz)]
  exact ES x _ fun y hy=>h y (kF _ ((s7 lt l).mem_iff.1 hy)) x (kJ ..)
theorem Jo [DecidableEq α]{f:α→α→Int}(h:CW f){c:α×α→Option Int}{l:List α}(hc: ∀x∈l,∀y∈l,c (x,y)=some (f x y))(hl:l.length≤1099511627776):yV c l=some (uu f l):=by
 have hg:=xC h (c:=fun p=>some (f p.1 p.2)) (fun _ _=>rfl) hl
 have hlt: ∀x∈l,∀y∈l,uA c x y=uA (fun p:α×α=>some (f p.1 p.2)) x y:=fun x hx y hy=>by unfold uA;rw [hc x hx y hy]
 have hg' :z7 c l:=⟨hl,fun x hx y hy=>by rw [hc x hx y hy];rfl,fun x hx=>by rw [hlt x hx x hx];exact hg.irr x hx,
  fun x hx y hy z hz h1 h2=>by rw [hlt x hx y hy]at h1;rw [hlt y hy z hz]at h2;rw [hlt x hx z hz];exact hg.tr x hx y hy z hz h1 h2,
  fun x hx y hy h1 h2=>by rw [hlt x hx y hy]at h1;rw [hlt y hy x hx]at h2;exact hg.anti x hx y hy h1 h2⟩
 rw [D1 hg',CH l hlt]
 rfl
def uS(al:cM→cM→Bool):Nat→List cM→List (List cM)
 |0,_=>[]
 |_+1,[]=>[]
 |k+1,x::t=>(x::t.takeWhile (al x))::uS al k (t.dropWhile (al x))
theorem Ea{Sg:Type}{alike:cM→cM→Option Bool}{al:cM→cM→Bool}(yld:List cM→Sg→Option (Bool×Sg))(nx:Sg→List cM→Option Sg)(s:Sg)(x:cM)(t:List cM)(hal: ∀y∈t,alike x y=some (al x y))(ht:t.length≤8000):
  ∀(rest pre:List cM) (fuel:Nat),t=pre++rest→rest.length<fuel→m9 alike yld nx s (x::t) fuel ((1+pre.length:Nat):Int)=(yld (x::(pre++rest.takeWhile (al x))) s).bind fun r=>if(!r.1)then some r.2 else nx r.2 (rest.dropWhile (al x))
 |rest,pre,0,_,h=>by omega
 |[],pre,fuel+1,e,_=>by
  rw [sG]at e
  subst e
  unfold m9
  rw [aM (by simp;omega),be,aM (by decide),show(0:Int)=((0:Nat):Int)from rfl,lF (by omega) (by simp;omega),be]
  rw [lF (by simp;omega) (dK _)]
  simp only [be,List.takeWhile_nil,List.dropWhile_nil,sG,yr]
  rw [rO (by simp;omega),rO (dK _),Dz (by simp;omega)]
 |b::rest,pre,fuel+1,e,hf=>by
  have hlen:t.length=pre.length+rest.length+1:=by rw [e];simp;omega
  have hb:cN (x::t) ((1+pre.length:Nat):Int)=some b:=by
   rw [bZ,Nat.add_comm,Nn,e]
   simp
  unfold m9
  rw [aY (by simp;omega),show cN (x::t) 0=some x from rfl,be,hb,be,hal b (by rw [e];simp),be,be]
  cases hb2:al x b with
  |true=>
   rw [aY rfl,cn (by omega) (by omega),show(((1+pre.length:Nat):Int)+1)=((1+(pre++[b]).length:Nat):Int) by simp;omega]
   rw [Ea yld nx s x t hal ht rest (pre++[b]) fuel (by rw [e];simp) (by simp at hf;omega)]
   simp [List.takeWhile_cons,List.dropWhile_cons,hb2]
  |false=>
   rw [aM (by decide),show(0:Int)=((0:Nat):Int)from rfl,lF (by omega) (by simp;omega),be]
   rw [lF (by simp;omega) (dK _)]
   simp only [be,yr]
   rw [rO (l:=x::t) (dK _)]
   have e1:(x::t).take (1+pre.length)=x::pre:=by rw [Nat.add_comm,List.take_succ_cons,e];simp
   have e2:(x::t).drop (1+pre.length)=b::rest:=by rw [Nat.add_comm,List.drop_succ_cons,e];simp
   rw [e1,e2]
   simp [List.takeWhile_cons,List.dropWhile_cons,hb2]
def GN(c:List Int)(y:List cM):ic:=⟨gy c (y.headD []),y⟩
def F7(c:List Int)(a b:cM):Bool:=decide (gy c a=gy c b)
theorem Eb(c:List Int): ∀(k fuel:Nat) (l:List cM) (out:List ic),(∀r∈l,nP r c=true)→l.length≤k→l.length<fuel→out.length+l.length≤8000→
  jY (ge c) (CR (fun x s=>jZ c x s)) fuel out l=some (out++(uS (F7 c) k l).map (GN c))
 |k,0,l,out,_,_,h,_=>by omega
 |k,fuel+1,[],out,_,_,_,_=>by
  unfold jY
  rw [aM (by simp)]
  cases k<;>simp [uS]
 |0,fuel+1,x::t,out,_,h,_,_=>by simp at h
 |k+1,fuel+1,x::t,out,h,hk,hf,ho=>by
  simp only [iO]at hk hf ho
  have hx:=h x (kJ ..)
  have hsub: ∀r∈t.dropWhile (F7 c x),r∈t:=fun r hr=>(I4 _).subset hr
  have hdl:(t.dropWhile (F7 c x)).length≤t.length:=(I4 _).length_le
  have htl:(t.takeWhile (F7 c x)).length≤t.length:=(List.takeWhile_sublist _).length_le
  unfold jY
  rw [aY (by simp),show(1:Int)=((1+([]:List cM).length:Nat):Int)from rfl,
   Ea (al:=F7 c) _ _ out x t (fun y hy=>Ld hx (h y (kF _ hy))) (by omega) t [] gX rfl (by unfold gX;omega)]
  rw [kL]
  have hb:jZ c (x::t.takeWhile (F7 c x)) out=some (out++[GN c (x::t.takeWhile (F7 c x))]):=by
   unfold jZ fe
   rw [show cN (x::t.takeWhile (F7 c x)) 0=some x from rfl,be,(At hx).1,be,VS (by simp;omega),be,be,cq (by simp;omega)]
   rfl
  have hb2:CR (fun x s=>jZ c x s) (x::t.takeWhile (F7 c x)) out=some (true,out++[GN c (x::t.takeWhile (F7 c x))]):=by
   show Option.map _ (jZ c (x::t.takeWhile (F7 c x)) out)=_
   rw [hb];rfl
  rw [hb2]
  simp only [be,mS,gp,ek]
  have ih:=Eb c k fuel (t.dropWhile (F7 c x)) (out++[GN c (x::t.takeWhile (F7 c x))]) (fun r hr=>h r (kF _ (hsub r hr))) (by omega) (by omega) (by simp;omega)
  rw [ih]
  simp [uS]
theorem FS(h:G5 l)(c:List Int):sQ l c=some (if v7 l c=0 then((uS (F7 c) l.length (uu (xl c) l)).map (GN c),0)else([],v7 l c)):=by
 unfold sQ
 have hlen:=h.len
 rw [FP h.len,be]
 by_cases ha:v7 l c=0
 ·obtain⟨_,hok⟩:=KQ ha
  rw [aM (by simp [ha]),aY ha,yY l (fun r hr=>by have:=h.row r hr;omega) (by omega),be]
  rw [Jo (Kt c) (fun x hx y hy=>Le (xV hok hx) (xV hok hy)) (by omega),be]
  unfold Eg
  rw [be]
  unfold vG
  have hl:=xI (xl c) l
  show((jY (ge c) (CR fun x s=>jZ c x s) gX [] (uu (xl c) l)).bind fun xs1=>some (xs1,(0:Int)))=_
  rw [Eb c l.length gX (uu (xl c) l) [] (fun r hr=>xV hok ((nH _ _).mem_iff.1 hr)) (by omega) (by unfold gX;omega) (by simp;omega)]
  rfl
 ·rw [aY (by simp [ha]),aM ha]
theorem Gz(al:cM→cM→Bool): ∀(k:Nat) (l:List cM),l.length≤k→(uS al k l).flatten=l
 |0,l,h=>by
  have:l=[]:=sH (by omega)
  subst this
  rfl
 |k+1,[],_=>rfl
 |k+1,x::t,h=>by
  have hdl:(t.dropWhile (al x)).length≤t.length:=(I4 _).length_le
  unfold uS
  rw [List.flatten_cons,Gz al k _ (by simp at h;omega),wC,List.takeWhile_append_dropWhile]
theorem D9(al:cM→cM→Bool): ∀(k:Nat) (l:List cM) (y:List cM),y∈uS al k l→ ∃x t,y=x::t∧x∈l∧ ∀z∈t,z∈l∧al x z=true
 |0,l,y,h=>by cases h
 |k+1,[],y,h=>by cases h
 |k+1,x::t,y,h=>by
  unfold uS at h
  rcases fc.1 h with rfl|h
  ·exact⟨x,_,rfl,kJ ..,fun z hz=>⟨kF _ ((List.takeWhile_sublist _).subset hz),by simpa using jO.1 (List.all_takeWhile (p:=al x) (l:=t)) z hz⟩⟩
  ·obtain⟨x',t',e,h1,h2⟩:=D9 al k _ y h
   have hsub: ∀r∈t.dropWhile (al x),r∈t:=fun r hr=>(I4 _).subset hr
   exact⟨x',t',e,kF _ (hsub _ h1),fun z hz=>⟨kF _ (hsub _ (h2 z hz).1),(h2 z hz).2⟩⟩
theorem N1{a b:cM}(h:xl c a b≤0):eM (gy c a) (gy c b)≤0:=by
 unfold xl IU at h
 split at h
 ·exact h
 ·rename_i h2;simp at h2;omega
theorem Oy(c:List Int)(x:cM): ∀t:List cM,sk (xl c) (x::t)→ ∀z∈t.dropWhile (F7 c x),eM (gy c x) (gy c z)<0
 |[],_,z,hz=>by cases hz
 |b::t,hs,z,hz=>by
  have hs' :=Bu.1 hs
  have hs2:=Bu.1 hs'.2
  rw [List.dropWhile_cons]at hz
  split at hz
  ·exact Oy c x t (Bu.2 ⟨fun w hw=>hs'.1 w (kF _ hw),hs2.2⟩) z hz
  ·rename_i hb
   have hlt:eM (gy c x) (gy c b)<0:=by
    have h1:=N1 (hs'.1 b (kJ ..))
    rcases Int.lt_or_eq_of_le h1 with h|h
    ·exact h
    ·exact absurd (yu ((i9.eq _ _).1 h)) hb
   rcases fc.1 hz with rfl|hz
   ·exact hlt
   ·exact i9.lt (Int.le_of_lt hlt) (N1 (hs2.1 z hz)) (.inl hlt)
theorem Gy(c:List Int): ∀(k:Nat) (l:List cM),sk (xl c) l→((uS (F7 c) k l).map (GN c)).Pairwise (fun a b=>eM a.Key b.Key<0)
 |0,l,_=>List.Pairwise.nil
 |k+1,[],_=>List.Pairwise.nil
 |k+1,x::t,hs=>by
  unfold uS
  rw [wi]
  have hs' :=Bu.1 hs
  refine Bu.2 ⟨fun g hg=>?_,Gy c k _ (hs'.2.sublist (I4 _))⟩
  obtain⟨y,hy,rfl⟩:=uI.1 hg
  obtain⟨x',t',rfl,h1,_⟩:=D9 _ _ _ y hy
  exact Oy c x t hs x' h1

theorem iN{tl:List α}{y:α}(h:xs.drop i=y::tl):cN xs (i:Int)=some y∧i<xs.length∧xs.drop (i+1)=tl:=by
 have hi:i<xs.length:=by
  rcases nm i xs.length with h1|h1
  ·exact h1
  ·rw [CZ h1]at h;cases h
 rw [wG hi]at h
 injection h with h1 h2
 exact⟨by rw [bZ,oy hi,h1],hi,h2⟩
theorem oJ(h:xs.drop i=[]):xs.length≤i:=Hm.1 h
theorem vk{f:gL→Option Bool}{g:gL→Bool}(hf: ∀v,f v=some (g v)): ∀(l:List gL) (i:Nat),∃j:Int,dH f l i=some j∧decide (0≤j)=l.any g
 |[],i=>⟨-1,rfl,rfl⟩
 |e::l,i=>by
  unfold dH
  rw [hf,be]
  cases h:g e with
  |true=>exact⟨(i:Int),by simp,by simp [h]⟩
  |false=>
   obtain⟨j,h1,h2⟩:=vk hf l (i+1)
   exact⟨j,by simpa using h1,by rw [h2];simp [h]⟩
theorem yK{f:gL→Option Bool}{g:gL→Bool}(hf: ∀v,f v=some (g v))(l:List gL):eF l f=some (l.any g):=by
 unfold eF ik
 obtain⟨j,h1,h2⟩:=vk hf l 0
 rw [h1,be,h2]
theorem sl(l:List Int)(h:l.length≤68719476736):cu l=some l:=by
 unfold cu
 rw [cq (by simpa using h)];rfl
theorem SO(n:Int)(h0:0≤n)(h:n≤68719476736):lz n=some []:=by
 unfold lz mi
 rw [aM (by simp;omega)]
 have e:IntKind.i64.wrap (n-IntKind.i64.wrap ((0:Int)-0))=n:=by
  rw [cn (n:=(0:Int)-0) (by omega) (by omega),cn (by omega) (by omega)];omega
 rw [e]
 by_cases hp:0<n
 ·rw [aY (by simpa using hp)]
  unfold Wj nC
  rw [aY hp]
  simp only [be]
  rw [aY ⟨h0,h⟩]
  simp only [be]
  rw [show dD (List.replicate n.toNat (0:Int)) 0 0=some []from by unfold dD;rw [aY (by simp;omega)];simp]
  rfl
 ·rw [aM (by simpa using hp)];rfl
theorem Lf(a b:List Int)(ha:a.length≤8000)(hb:b.length≤8000):iP [a,b]=some (a++b):=by
 unfold iP
 simp only [jg]
 rw [cn (n:=(0:Int)+(a.length:Int)) (by omega) (by omega),aM (by simp),cn (by omega) (by omega),aM (by simp;omega),SO _ (by omega) (by omega)]
 simp only [be,jf]
 rw [cq (by simp;omega)]
 simp only [be,kL]
 rw [cq (by omega)]
 rfl
structure iy(n:am):Prop where
 cond:n.Cond.Nodes.length≤5000
 kinds:n.Kinds.length≤5000
 keys:n.Keys.length≤5000
 aggs:n.Aggs.length≤5000
 items:n.Items.length≤5000
 order:n.Order.length≤5000
 args: ∀g∈n.Aggs,g.Arg.Nodes.length≤5000
 exprs: ∀e∈n.Items,e.Nodes.length≤5000
def DV(e:br)(kinds:List Int):Bool:=(fb e kinds).2==0&&((fb e kinds).1==1||(fb e kinds).1==0)
theorem xi(e:br)(kinds:List Int)(h:e.Nodes.length≤5000):rh e kinds=some (DV e kinds):=by
 unfold rh
 rw [vV e kinds (by omega)]
 rfl
theorem jm(e:br)(kinds:List Int):tR e kinds=some (DV e kinds):=by
 unfold tR DV
 rw [j3 e kinds]
 simp only [be,Bool.or_comm]
def MX(a:ea)(kinds:List Int):Int×Bool:=
 if a.Tag=1 then(2,a.Arg.Nodes.length==0)else if a.Tag=2 then(2,(fb a.Arg kinds).2==0)else if a.Tag=3 then(2,(fb a.Arg kinds).2==0&&((fb a.Arg kinds).1==2||(fb a.Arg kinds).1==0))else if a.Tag=4∨a.Tag=5 then((fb a.Arg kinds).1,(fb a.Arg kinds).2==0)else(0,false)
theorem NT(n:Nat):((n:Int)==0)=(n==0):=by rw [Ac];simp
theorem H8(a:ea)(kinds:List Int)(h:a.Arg.Nodes.length≤5000):xX a kinds=some (MX a kinds):=by
 unfold xX MX si
 by_cases h1:a.Tag=1
 ·rw [aY (by simp [h1]),aY h1,NT]
 rw [aM (by simpa using h1),aM h1,vV _ _ (by omega)]
 simp only [be]
 by_cases h2:a.Tag=2
 ·rw [aY (by simp [h2]),aY h2]
 rw [aM (by simpa using h2),aM h2]
 by_cases h3:a.Tag=3
 ·rw [aY (by simp [h3]),aY h3]
 rw [aM (by simpa using h3),aM h3]
 by_cases h4:a.Tag=4
 ·rw [aY (by simp [h4]),aY (by simp [h4]),aY (.inl h4)]
 rw [aM (by simpa using h4)]
 by_cases h5:a.Tag=5
 ·rw [aY (by simp [h5]),aY (.inr h5)]
 rw [aM (by simpa using h5),aM (by omega)]
def zQ(a:ea)(kinds:List Int):Int×Bool:=(kR a kinds).getD (0,false)
theorem mq(a:ea)(kinds:List Int):kR a kinds=some (zQ a kinds):=by
 unfold zQ kR
 rw [j3]
 simp only [be]
 repeat' split
 all_goals rfl
theorem Bj(a:ea)(kinds:List Int):(MX a kinds).2=(zQ a kinds).2∧((MX a kinds).2=true→(MX a kinds).1=(zQ a kinds).1):=by
 unfold zQ kR MX
 rw [j3]
 simp only [be]
 by_cases h1:a.Tag=1
 ·simp [h1,NT]
 by_cases h2:a.Tag=2
 ·by_cases he:(fb a.Arg kinds).2=0<;>simp [h2,he]
 by_cases h3:a.Tag=3
 ·by_cases he:(fb a.Arg kinds).2=0
  ·by_cases h0:(fb a.Arg kinds).1=0
   ·simp [h3,he,h0]
   ·by_cases h02:(fb a.Arg kinds).1=2<;>simp [h3,he,h0,h02]
  ·simp [h3,he]
 by_cases h4:a.Tag=4
 ·by_cases he:(fb a.Arg kinds).2=0<;>simp [h4,he]
 by_cases h5:a.Tag=5
 ·by_cases he:(fb a.Arg kinds).2=0<;>simp [h5,he]
 have:a.Tag<1∨5<a.Tag:=by omega
 simp [h1,h2,h3,h4,h5,this]
def Bl(p:Option (List Int×Bool))(q:Option (List Int×Bool))(last:Bool):Prop:=
 ∃k o k',p=some (k,o&&last)∧q=some (k',o)∧(o=true→k=k')
theorem BG(c:aE)(n:am)(a b:List Int)(hn:iy n)(hop:n.Op=1):Bl (eX c n) (bo n a b) true:=by
 have h:=hn.kinds
 have key: ∀(tl:List Int) (i:Nat) (fu:Nat) (ok:Bool),n.Kinds.drop i=tl→tl.length<fu→dx n fu ok (i:Int)=some (n.Kinds,((((ok&&tl.all fun k=>decide (1≤k)&&decide (k≤3))&&(decide ((0:Int)≤n.Table)))&&(decide (n.Table≤(3:Int))))&&(decide ((1:Int)≤(n.Kinds.length:Int))))&&(decide ((n.Kinds.length:Int)≤(4:Int)))):=by
  intro tl
  induction tl with
  |nil=>
   intro i fu ok hd hf
   obtain⟨fu,rfl⟩: ∃k,fu=k+1:=⟨fu-1,by omega⟩
   have:=oJ hd
   rw [dx,aM (by simp;omega)]
   simp
  |cons x tl ih=>
   intro i fu ok hd hf
   simp only [iO]at hf
   obtain⟨fu,rfl⟩: ∃k,fu=k+1:=⟨fu-1,by omega⟩
   obtain⟨h1,h2,h3⟩:=iN hd
   rw [dx,aY (by simp;omega),h1,cn (by omega) (by omega)]
   simp only [be]
   have e:((i:Int)+1)=((i+1:Nat):Int):=by omega
   rw [e]
   have e2:((if ok=true then some (decide ((1:Int)≤x))else some false).bind fun t=>(if t=true then some (decide (x≤(3:Int)))else some false).bind fun t1=>dx n fu t1 ((i+1:Nat):Int))=dx n fu (ok&&(decide (1≤x)&&decide (x≤3))) ((i+1:Nat):Int):=by
    cases ok<;>by_cases hx:(1:Int)≤x<;>simp [hx]
   rw [e2,ih (i+1) fu _ h3 (by omega)]
   simp only [Ab,Ga]
 have hr:bo n a b=dx n gX true (0:Int):=by unfold bo;rw [aY (by simp [hop])]
 rw [hr,show((0:Int))=((0:Nat):Int)from rfl,key n.Kinds 0 gX true rfl (wE (Dx _) (my (by omega)))]
 unfold eX
 have hc:cx n.Kinds jr=some (n.Kinds.any fun k=> !(((k==(1:Int))||(k==(2:Int)))||(k==(3:Int)))):=jN (fun v=>rfl) _
 rw [hc]
 simp only [be]
 have e3:(!(n.Kinds.any fun k=> !(((k==(1:Int))||(k==(2:Int)))||(k==(3:Int)))))=n.Kinds.all fun k=>decide (1≤k)&&decide (k≤3):=by
  rw [List.not_any_eq_all_not]
  congr 1
  funext k
  rw [Bool.not_not,Ac]
  simp;omega
 rw [e3]
 refine⟨n.Kinds,_,n.Kinds,?_,rfl,fun _=>rfl⟩
 cases h4:(n.Kinds.all fun k=>decide (1≤k)&&decide (k≤3))<;>by_cases t1:0≤n.Table<;>by_cases t2:n.Table<4<;>by_cases l1:(1:Int)≤(n.Kinds.length:Int)<;>by_cases l2:(n.Kinds.length:Int)≤4<;>simp [t1,t2,l1,l2]<;>omega
theorem Px(c:aE)(n:am)(a b:List Int)(hn:iy n)(hop:n.Op=2)(ha:cN c.kinds n.A=some a)(hb:cN c.kinds n.B=some b)(hal:a.length≤16)(hbl:b.length≤16):Bl (gS c n) (bo n a b) true:=by
 unfold gS bo
 rw [ha,hb,aM (by simp [hop]),aY (by simp [hop])]
 simp only [be]
 rw [Lf _ _ (by omega) (by omega),cq (by simp;omega)]
 simp only [be,kL]
 rw [cq (by omega)]
 simp only [be]
 rw [xi _ _ hn.cond,jm]
 exact⟨_,DV n.Cond (a++b),_,by simp,rfl,fun _=>rfl⟩
theorem Kz(c:aE)(n:am)(a b:List Int)(hn:iy n)(hop:n.Op=3)(ha:cN c.kinds n.A=some a):Bl (fT c n) (bo n a b) true:=by
 unfold fT bo
 rw [ha,aM (by simp [hop]),aM (by simp [hop]),aY (by simp [hop])]
 simp only [be]
 rw [xi _ _ hn.cond,jm]
 exact⟨_,DV n.Cond a,_,by simp,rfl,fun _=>rfl⟩
theorem F6(c:aE)(n:am)(a b:List Int)(hop:n.Op=6)(ha:cN c.kinds n.A=some a):Bl (eZ c n) (bo n a b) true:=by
 unfold eZ bo
 rw [ha,aM (by simp [hop]),aM (by simp [hop]),aM (by simp [hop]),aM (by simp [hop]),aM (by simp [hop]),aY (by simp [hop])]
 exact⟨_,true,_,rfl,rfl,fun _=>rfl⟩
theorem HU(c:aE)(n:am)(a b:List Int)(hn:iy n)(hop:n.Op=5)(ha:cN c.kinds n.A=some a):Bl (fy c n) (bo n a b) true:=by
 have h:=hn.items
 have hr:bo n a b=cQ n a gX [] true (0:Int):=by unfold bo;rw [aM (by simp [hop]),aM (by simp [hop]),aM (by simp [hop]),aM (by simp [hop]),aY (by simp [hop])]
 have key: ∀(tl:List br) (i:Nat) (fu:Nat) (out:List Int) (ok:Bool),n.Items.drop i=tl→i+tl.length=n.Items.length→tl.length<fu→out.length=i→cQ n a fu out ok (i:Int)=some (out++tl.map (fun e=>(fb e a).1),((ok&&tl.all fun e=>(fb e a).2==0)&&(decide ((1:Int)≤(n.Items.length:Int))))&&(decide ((n.Items.length:Int)≤(16:Int)))):=by
  intro tl
  induction tl with
  |nil=>
   intro i fu out ok hd hi hf ho
   obtain⟨fu,rfl⟩: ∃k,fu=k+1:=⟨fu-1,by omega⟩
   simp only [pC,yq]at hi
   rw [cQ,aM (by simp;omega)]
   simp [ho,hi]
  |cons x tl ih=>
   intro i fu out ok hd hi hf ho
   simp only [iO]at hf hi
   obtain⟨fu,rfl⟩: ∃k,fu=k+1:=⟨fu-1,by omega⟩
   obtain⟨h1,h2,h3⟩:=iN hd
   rw [cQ,aY (by simp;omega),h1]
   simp only [be]
   rw [j3]
   simp only [be]
   rw [cq (by simp;omega),cn (by omega) (by omega)]
   simp only [be]
   have e:((i:Int)+1)=((i+1:Nat):Int):=by omega
   rw [e,ih (i+1) fu _ _ h3 (by omega) (by omega) (by simp [ho])]
   simp [Ga]
 rw [hr,show((0:Int))=((0:Nat):Int)from rfl,key n.Items 0 gX [] true rfl (by simp) (wE (Dx _) (my (by omega))) rfl]
 unfold fy
 have key2: ∀(tl:List br) (out:List Int) (ok:Bool),(∀e∈tl,e.Nodes.length≤5000)→out.length+tl.length≤5000→fm c n tl out ok=some (out++tl.map (fun e=>(fb e a).1),ok&&tl.all fun e=>(fb e a).2==0):=by
  intro tl
  induction tl with
  |nil=>intro out ok _ _;simp [fm]
  |cons x tl ih=>
   intro out ok he hl
   simp only [iO]at hl
   rw [fm,ha]
   simp only [be]
   rw [vV _ _ (by have:=he x (kJ ..);omega)]
   simp only [be]
   rw [cq (by simp;omega)]
   simp only [be]
   rw [ih _ _ (fun e h=>he e (kF _ h)) (by simp;omega)]
   simp [Ga]
 rw [key2 n.Items [] _ hn.exprs (by simp;omega)]
 refine⟨_,_,_,?_,rfl,fun _=>rfl⟩
 simp only [yM,uo]
 congr 2
 cases (n.Items.all fun e=>(fb e a).2==0)<;>simp
def XM(a:List Int)(e:Int):Int:=(a[e.toNat]?).getD 0
def H1(a:List Int)(e:Int):Bool:=decide (e<0)||decide ((a.length:Int)≤e)
theorem Rs{a:List Int}{e:Int}(h:H1 a e=false):cN a e=some (XM a e):=by
 simp [H1]at h
 rw [gT e.toNat (by omega),oy (by omega)]
 unfold XM
 rw [oy (by omega)];rfl
theorem Ms(c:aE)(n:am)(a b:List Int)(hn:iy n)(hop:n.Op=4)(ha:cN c.kinds n.A=some a):Bl (gx c n) (bo n a b) true:=by
 have hK:=hn.keys
 have hA:=hn.aggs
 have hr:bo n a b=cR n a gX [] (0:Int):=by unfold bo;rw [aM (by simp [hop]),aM (by simp [hop]),aM (by simp [hop]),aY (by simp [hop])]
 have key3: ∀(tl:List ea) (i:Nat) (fu:Nat) (out:List Int) (ok:Bool),n.Aggs.drop i=tl→i+tl.length=n.Aggs.length→tl.length<fu→out.length≤5000+i→cI n a fu out ok (i:Int)=some (out++tl.map (fun e=>(zQ e a).1),(((ok&&tl.all fun e=>(zQ e a).2)&&(decide ((n.Keys.length:Int)≤(3:Int))))&&(decide ((n.Aggs.length:Int)≤(12:Int))))&&(decide ((0:Int)<((out.length+tl.length:Nat):Int)))):=by
  intro tl
  induction tl with
  |nil=>
   intro i fu out ok hd hi hf ho
   obtain⟨fu,rfl⟩: ∃k,fu=k+1:=⟨fu-1,by omega⟩
   simp only [pC,yq]at hi
   rw [cI,aM (by simp;omega)]
   simp
  |cons x tl ih=>
   intro i fu out ok hd hi hf ho
   simp only [iO]at hf hi
   obtain⟨fu,rfl⟩: ∃k,fu=k+1:=⟨fu-1,by omega⟩
   obtain⟨h1,h2,h3⟩:=iN hd
   rw [cI,aY (by simp;omega),h1]
   simp only [be]
   rw [mq]
   simp only [be]
   rw [cq (by simp;omega),cn (by omega) (by omega)]
   simp only [be]
   have e:((i:Int)+1)=((i+1:Nat):Int):=by omega
   rw [e,ih (i+1) fu _ _ h3 (by omega) (by omega) (by simp;omega)]
   simp only [wi,Ab,Ga,jP,jd,iO,pC,wC,kL]
   rw [show out.length+(0+1)+tl.length=out.length+(tl.length+1)from by omega]
 have key2: ∀(tl:List Int) (i:Nat) (fu:Nat) (out:List Int),n.Keys.drop i=tl→i+tl.length=n.Keys.length→tl.length<fu→out.length=i→cR n a fu out (i:Int)=if tl.any (H1 a)then some ([],false)else cI n a gX (out++tl.map (XM a)) true 0:=by
  intro tl
  induction tl with
  |nil=>
   intro i fu out hd hi hf ho
   obtain⟨fu,rfl⟩: ∃k,fu=k+1:=⟨fu-1,by omega⟩
   simp only [pC,yq]at hi
   rw [cR,aM (by simp;omega)]
   simp
  |cons x tl ih=>
   intro i fu out hd hi hf ho
   simp only [iO]at hf hi
   obtain⟨fu,rfl⟩: ∃k,fu=k+1:=⟨fu-1,by omega⟩
   obtain⟨h1,h2,h3⟩:=iN hd
   rw [cR,aY (by simp;omega),h1]
   simp only [be]
   cases hx:H1 a x with
   |true=>
    have hx' :(decide (x<0)||decide ((a.length:Int)≤x))=true:=hx
    rw [aY hx',aY (by simp [hx])]
   |false=>
    have hx' : ¬(decide (x<0)||decide ((a.length:Int)≤x))=true:=by rw [show(decide (x<0)||decide ((a.length:Int)≤x))=H1 a x from rfl,hx];decide
    rw [aM hx',Rs hx]
    simp only [be]
    rw [cq (by simp;omega),cn (by omega) (by omega)]
    simp only [be]
    have e:((i:Int)+1)=((i+1:Nat):Int):=by omega
    rw [e,ih (i+1) fu _ h3 (by omega) (by omega) (by simp [ho])]
    simp [hx]
 rw [hr,show((0:Int))=((0:Nat):Int)from rfl,key2 n.Keys 0 gX [] rfl (by simp) (wE (Dx _) (my (by omega))) rfl]
 rw [show((0:Int))=((0:Nat):Int)from rfl,key3 n.Aggs 0 gX _ true rfl (by simp) (wE (Dx _) (my (by omega))) (by simp;omega)]
 unfold gx
 rw [ha,cn (by omega) (by omega)]
 simp only [be]
 have hp:se n.Keys a=some (!(n.Keys.any (H1 a))):=by
  unfold se
  rw [jN (f:=pW a) (g:=H1 a) (fun v=>rfl)]
  rfl
 rw [hp]
 simp only [be,kL,Cm]
 have kl: ∀(tl:List ea) (out:List Int) (ok:Bool),(∀e∈tl,e.Arg.Nodes.length≤5000)→out.length+tl.length≤10000→eY a tl out ok=some (out++tl.map (fun e=>(MX e a).1),ok&&tl.all fun e=>(MX e a).2):=by
  intro tl
  induction tl with
  |nil=>intro out ok _ _;simp [eY]
  |cons x tl ih=>
   intro out ok he hl
   simp only [iO]at hl
   rw [eY,H8 _ _ (he x (kJ ..))]
   simp only [be]
   rw [cq (by simp;omega)]
   simp only [be]
   rw [ih _ _ (fun e h=>he e (kF _ h)) (by simp;omega)]
   simp [Ga]
 have kl1: ∀(t:Bool) (tl out:List Int),tl.any (H1 a)=false→out.length+tl.length≤5000→gh n a t tl out=eY a n.Aggs (out++tl.map (XM a)) t:=by
  intro t tl
  induction tl with
  |nil=>intro out _ _;simp [gh]
  |cons x tl ih=>
   intro out ho hl
   simp only [iO]at hl
   simp only [wH,Bool.or_eq_false_iff]at ho
   rw [gh,Rs ho.1]
   simp only [be]
   rw [cq (by simp;omega)]
   simp only [be]
   rw [ih _ ho.2 (by simp;omega)]
   simp
 have hall:(n.Aggs.all fun e=>(MX e a).2)=n.Aggs.all fun e=>(zQ e a).2:=by
  congr 1;funext e;exact(Bj e a).1
 have hmap:(n.Aggs.all fun e=>(MX e a).2)=true→n.Aggs.map (fun e=>(MX e a).1)=n.Aggs.map fun e=>(zQ e a).1:=by
  intro h
  exact I1 fun e he=>(Bj e a).2 (jO.1 h e he)
 cases hany:n.Keys.any (H1 a)with
 |true=>exact⟨[],false,[],by simp,by simp,fun _=>rfl⟩
 |false=>
  by_cases hb:((n.Keys.length≤3∧n.Aggs.length≤12)∧0<n.Keys.length+n.Aggs.length)
  ·have hb' :(((decide ((n.Keys.length:Int)≤(3:Int)))&&(decide ((n.Aggs.length:Int)≤(12:Int))))&&(decide ((0:Int)<(n.Keys.length:Int)+(n.Aggs.length:Int))))=true:=by simp;omega
   simp only [hb',eQ,Bt,mS,gp,ek,be]
   rw [kl1 true n.Keys [] hany (by simp;omega),kl n.Aggs _ true hn.args (by simp;omega)]
   refine⟨n.Keys.map (XM a)++n.Aggs.map (fun e=>(MX e a).1),n.Aggs.all fun e=>(zQ e a).2,n.Keys.map (XM a)++n.Aggs.map (fun e=>(zQ e a).1),by simp [hall],?_,fun h=>?_⟩
   ·have h1:(decide ((n.Keys.length:Int)≤(3:Int)))=true:=by simp;omega
    have h2:(decide ((n.Aggs.length:Int)≤(12:Int)))=true:=by simp;omega
    have h3:(decide ((0:Int)<((n.Keys.length+n.Aggs.length:Nat):Int)))=true:=by simp;omega
    simp only [h1,h2,h3,yM,uo]
   ·rw [hmap (by rw [hall];exact h)]
  ·have hb' :(((decide ((n.Keys.length:Int)≤(3:Int)))&&(decide ((n.Aggs.length:Int)≤(12:Int))))&&(decide ((0:Int)<(n.Keys.length:Int)+(n.Aggs.length:Int))))=false:=by rw [rA];simp;omega
   simp only [hb',eQ,Bt,gp,ek,be]
   refine⟨[],false,n.Keys.map (XM a)++n.Aggs.map (fun e=>(zQ e a).1),by simp,?_,by simp⟩
   have:((((true&&n.Aggs.all fun e=>(zQ e a).2)&&(decide ((n.Keys.length:Int)≤(3:Int))))&&(decide ((n.Aggs.length:Int)≤(12:Int))))&&(decide ((0:Int)<((n.Keys.length+n.Aggs.length:Nat):Int))))=false:=by rw [rA];simp;omega
   rw [this]
def Qu(x y:Int):Int:=if x=0 then y else x
def Jf(p:Int×Int):Bool:=(p.2==Qu p.1 p.2)||p.2==0
theorem Lx(c:aE)(n:am)(a b:List Int)(hop:n.Op=7)(ha:cN c.kinds n.A=some a)(hb:cN c.kinds n.B=some b)(hal:a.length≤16):Bl (gv c n) (bo n a b) true:=by
 unfold gv bo
 rw [ha,hb,aM (by simp [hop]),aM (by simp [hop]),aM (by simp [hop]),aM (by simp [hop]),aM (by simp [hop]),aM (by simp [hop]),aY (by simp [hop])]
 simp only [be]
 by_cases hl:a.length=b.length
 ·rw [aM (by simp;omega),aM (by simp;omega),sl _ (by omega)]
  simp only [be]
  have kc: ∀(tl pre suf:List Int) (ok:Bool),suf.length=tl.length→dF tl pre.length (pre++suf) ok=some (pre++List.zipWith Qu suf tl,ok&&(suf.zip tl).all Jf):=by
   intro tl
   induction tl with
   |nil=>
    intro pre suf ok h
    have:suf=[]:=sH h
    subst this
    simp [dF]
   |cons y tl ih=>
    intro pre suf ok h
    cases suf with
    |nil=>simp at h
    |cons x suf=>
     simp only [iO,Nat.add_right_cancel_iff]at h
     rw [dF,bZ,ur (dK _),ze]
     simp only [FI,be]
     have step: ∀(z:Int),iv (dF tl) pre.length y ok (pre++z::suf)=some (pre++z::List.zipWith Qu suf tl,ok&&((z==y||y==0)&&(suf.zip tl).all Jf)):=by
      intro z
      unfold iv
      rw [bZ,ur (dK _),ze]
      simp only [FI,be]
      have e1:pre++z::suf=(pre++[z])++suf:=by simp
      have e2:pre.length+1=(pre++[z]).length:=by simp
      cases ok with
      |true=>
       simp only [eQ,be,uo]
       rw [e1,e2,ih (pre++[z]) suf _ h]
       simp
      |false=>
       simp only [gp,ek,be,DC]
       rw [e1,e2,ih (pre++[z]) suf _ h]
       simp
     by_cases hx:x=0
     ·subst hx
      rw [aY (by simp)]
      have e3:(pre++(0:Int)::suf).set ((pre.length:Int)).toNat y=pre++y::suf:=by
       rw [Af,List.set_append_right _ _ (dK _),ze];rfl
      rw [e3]
      refine(step y).trans ?_
      simp [Jf,Qu]
     ·rw [aM (by simpa using hx),step x]
      have:Qu x y=x:=by unfold Qu;rw [aM hx]
      simp only [List.zipWith_cons_cons,List.zip_cons_cons,Ab,Jf,this]
      have e4:(y==x)=(x==y):=by rw [Ac,qZ,qZ];exact eq_comm
      rw [e4]
  have kr: ∀(tl tb:List Int) (i:Nat) (out:List Int) (ok:Bool),b.drop i=tb→tl.length=tb.length→out.length+tl.length≤1000→dw b tl i out ok=some (out++List.zipWith Qu tl tb,ok&&(tl.zip tb).all Jf):=by
   intro tl
   induction tl with
   |nil=>
    intro tb i out ok hd h _
    have:tb=[]:=sH h.symm
    subst this
    simp [dw]
   |cons x tl ih=>
    intro tb i out ok hd h hm
    cases tb with
    |nil=>simp at h
    |cons y tb=>
     simp only [iO,Nat.add_right_cancel_iff]at h hm
     obtain⟨h1,h2,h3⟩:=iN hd
     rw [dw,h1]
     simp only [be]
     have step: ∀z:Int,ip b (dw b tl) i out ok z=some (out++z::List.zipWith Qu tl tb,ok&&((y==z||y==0)&&(tl.zip tb).all Jf)):=by
      intro z
      unfold ip
      rw [cq (by simp;omega),h1]
      simp only [be]
      cases ok with
      |true=>
       simp only [eQ,be,uo]
       cases hyz:y==z with
       |true=>
        simp only [mS,gp,ek,be]
        rw [ih tb (i+1) _ _ h3 h (by simp;omega)]
        simp
       |false=>
        simp only [Bt,eQ,be]
        rw [ih tb (i+1) _ _ h3 h (by simp;omega)]
        simp
      |false=>
       simp only [gp,ek,be,DC]
       rw [ih tb (i+1) _ _ h3 h (by simp;omega)]
       simp
     by_cases hx:x=0
     ·subst hx
      rw [aY (by simp),step y]
      simp [Jf,Qu]
     ·rw [aM (by simpa using hx),step x]
      have:Qu x y=x:=by unfold Qu;rw [aM hx]
      simp only [List.zipWith_cons_cons,List.zip_cons_cons,Ab,Jf,this]
  have h1:=kc b [] a true hl
  rw [pC,kL]at h1
  rw [h1,kr a b 0 [] true rfl hl (by simp;omega)]
  exact⟨_,_,_,by rw [yM],rfl,fun _=>rfl⟩
 ·rw [aY (by simp;omega),aY (by simp;omega)]
  exact⟨[],false,[],rfl,rfl,fun _=>rfl⟩
theorem Me(c:aE)(n:am)(a b:List Int)(hn:iy n)(hop:n.Op=8)(ha:cN c.kinds n.A=some a):Bl (gw c n) (bo n a b) ((c.kinds.length:Int)==IntKind.i64.wrap ((c.Logic.Nodes.length:Int)-(1:Int))):=by
 have h:=hn.order
 have hr:bo n a b=de n a gX true (0:Int):=by unfold bo;rw [aM (by simp [hop]),aM (by simp [hop]),aM (by simp [hop]),aM (by simp [hop]),aM (by simp [hop]),aM (by simp [hop]),aM (by simp [hop])]
 have key: ∀(tl:List gL) (i:Nat) (fu:Nat) (ok:Bool),n.Order.drop i=tl→i+tl.length=n.Order.length→tl.length<fu→de n a fu ok (i:Int)=some (a,((((ok&&tl.all fun e=>decide (0≤e.Col)&&decide (e.Col<(a.length:Int)))&&(decide ((n.Order.length:Int)≤(3:Int))))&&(decide ((-1:Int)≤n.Limit)))&&(decide (n.Limit≤(2147483647:Int))))):=by
  intro tl
  induction tl with
  |nil=>
   intro i fu ok hd hi hf
   obtain⟨fu,rfl⟩: ∃k,fu=k+1:=⟨fu-1,by omega⟩
   simp only [pC,yq]at hi
   rw [de,aM (by simp;omega)]
   simp
  |cons x tl ih=>
   intro i fu ok hd hi hf
   simp only [iO]at hf hi
   obtain⟨fu,rfl⟩: ∃k,fu=k+1:=⟨fu-1,by omega⟩
   obtain⟨h1,h2,h3⟩:=iN hd
   rw [de,aY (by simp;omega),h1,cn (by omega) (by omega)]
   simp only [be]
   have e:((i:Int)+1)=((i+1:Nat):Int):=by omega
   rw [e]
   have e2:((if ok=true then some (decide ((0:Int)≤x.Col))else some false).bind fun t=>(if t=true then some (decide (x.Col<(a.length:Int)))else some false).bind fun t1=>de n a fu t1 ((i+1:Nat):Int))=de n a fu (ok&&(decide (0≤x.Col)&&decide (x.Col<(a.length:Int)))) ((i+1:Nat):Int):=by
    cases ok<;>by_cases hx:(0:Int)≤x.Col<;>simp [hx]
   rw [e2,ih (i+1) fu _ h3 (by omega) (by omega)]
   simp only [Ab,Ga]
 rw [hr,show((0:Int))=((0:Nat):Int)from rfl,key n.Order 0 gX true rfl (by simp) (wE (Dx _) (my (by omega)))]
 unfold gw
 rw [ha]
 simp only [be]
 rw [yK (f:=kH a) (g:=fun o=>(decide (o.Col<(0:Int)))||(decide ((a.length:Int)≤o.Col))) (fun v=>rfl)]
 simp only [be]
 have e3:(!(n.Order.any fun o=>(decide (o.Col<(0:Int)))||(decide ((a.length:Int)≤o.Col))))=n.Order.all fun e=>decide (0≤e.Col)&&decide (e.Col<(a.length:Int)):=by
  rw [List.not_any_eq_all_not]
  congr 1
  funext k
  rw [Ac]
  simp
 rw [e3]
 refine⟨a,_,a,?_,rfl,fun _=>rfl⟩
 cases h4:(n.Order.all fun e=>decide (0≤e.Col)&&decide (e.Col<(a.length:Int)))<;>by_cases l1:(n.Order.length:Int)≤3<;>simp [l1]

def atR(r:cM)(c:Int):ac:=(r[c.toNat]?).getD zV
def Zj(o:gL)(n:Int):Int:=if o.Desc then -n else n
def G2:List gL→cM→cM→Int
 |[],a,b=>eM a b
 |o::t,a,b=>IU (Zj o (val (atR a o.Col) (atR b o.Col))) (G2 t a b)
theorem Tj(o:gL):CW (fun x y=>Zj o (val x y)):=by
 have h:=rR
 unfold Zj
 cases o.Desc with
 |false=>exact h
 |true=>
  refine⟨fun x y=>?_,fun x y=>?_,fun x y=>?_,fun x y z h1 h2=>?_⟩
  ·rcases h.rng x y with q|q|q<;>simp [q]
  ·have:=h.anti x y;simp [this]
  ·simp only [eQ];rw [←h.eq x y];omega
  ·simp only [eQ]at h1 h2 ⊢
   have a1:=h.anti x y;have a2:=h.anti y z;have a3:=h.anti x z
   have:=h.trans z y x (by omega) (by omega)
   omega
theorem G1: ∀order:List gL,CW (G2 order)
 |[]=>i9
 |o::t=>
  have h:=CW.lex (Tj o) (G1 t)
  ⟨fun x y=>h.rng (atR x o.Col,x) (atR y o.Col,y),fun x y=>h.anti (atR x o.Col,x) (atR y o.Col,y),fun x y=>(h.eq (atR x o.Col,x) (atR y o.Col,y)).trans ⟨fun e=>(Prod.mk.injEq ..▸e).2,fun e=>by rw [e]⟩,fun x y z=>h.trans (atR x o.Col,x) (atR y o.Col,y) (atR z o.Col,z)⟩
def V9(order:List gL)(r:cM):Bool:=order.all fun o=>decide (0≤o.Col)&&decide (o.Col<(r.length:Int))
theorem Ic{c:Int}(h:0≤c)(h2:c<(r.length:Int)):cN r c=some (atR r c):=by
 obtain⟨k,hk⟩:=DG h
 subst hk
 have hk:k<r.length:=by omega
 unfold atR
 rw [gT k rfl]
 simp [hk]
theorem G3(hr:ku r=true){c:Int}(h:0≤c)(h2:c<(r.length:Int)):fM (atR r c)=true:=by
 have hm:atR r c∈r:=by
  obtain⟨k,hk⟩:=DG h
  subst hk
  have hk:k<r.length:=by omega
  unfold atR
  simp [hk]
 unfold ku at hr
 simp only [kN,jO]at hr
 exact hr.2 _ hm
theorem Ti{β:Type}(o:gL){n:Int}(h:n= -1∨n=0∨n=1)(f:Int→β):(if o.Desc then f (IntKind.i64.wrap (0-n))else f n)=f (Zj o n):=by
 unfold Zj
 cases o.Desc with
 |false=>rfl
 |true=>rcases h with h|h|h<;>subst h<;>rfl
theorem JW{o:gL}{t:List gL}(h:V9 (o::t) r=true):0≤o.Col∧o.Col<(r.length:Int)∧V9 t r=true:=by
 unfold V9 at h ⊢
 rw [Ab]at h
 simp only [kN,kO]at h
 exact⟨h.1.1,h.1.2,h.2⟩
theorem WM{a b:cM}(ha:ku a=true)(hb:ku b=true): ∀order:List gL,V9 order a=true→V9 order b=true→nV order a b=some (G2 order a b)
 |[],_,_=>by
  unfold nV ju
  rw [zd ha hb];rfl
 |o::t,h1,h2=>by
  obtain⟨p1,p2,p3⟩:=JW h1
  obtain⟨q1,q2,q3⟩:=JW h2
  have ih:=WM ha hb t p3 q3
  unfold nV at ih ⊢
  unfold ju
  rw [Ic p1 p2,Ic q1 q2,be,be,qH (G3 ha p1 p2) (G3 hb q1 q2),be]
  have hs:=Ti o (rR.rng (atR a o.Col) (atR b o.Col)) (nU (ju a b t))
  rw [hs,ih]
  unfold nU
  show _=some (IU _ _)
  unfold IU
  split<;>rfl
def ML(limit:Int)(l:List cM):List cM:=if 0≤limit∧limit<(l.length:Int)then l.take limit.toNat else l
theorem Yz(limit:Int)(l:List cM)(k:List cM→Option (List cM))(hk: ∀x,k x=some x):(if((decide ((0:Int)≤limit))&&(decide (limit<(l.length:Int))))then((dD l 0 limit).bind fun y=>k y)else k l)=some (ML limit l):=by
 unfold ML
 by_cases h:0≤limit∧limit<(l.length:Int)
 ·rw [aY (by simp [h.1,h.2]),aY h,lG (xs:=l) (i:=0) (j:=limit) 0 limit.toNat rfl (by omega) (lC _) (by omega),be,hk]
  simp
 ·rw [aM (by simp only [kN,kO];exact h),aM h,hk]
structure Na(order:List gL)(l:List cM):Prop where
 right: ∀r∈l,ku r=true
 cols: ∀r∈l,V9 order r=true
theorem Gt(order:List gL)(limit:Int): ∀(rows out:List cM),Na order (out++rows)→out.length+rows.length≤1000000→kg order limit rows out=some (ML limit (uu (G2 order) (out++rows)))
 |[],out,h,hl=>by
  unfold kg
  rw [sG]at h ⊢
  have e:B4 order=some (nV order):=rfl
  rw [e,be]
  rw [Jo (G1 order) (fun x hx y hy=>by exact WM (h.right x hx) (h.right y hy) order (h.cols x hx) (h.cols y hy)) (by simp at hl;omega),be]
  exact Yz limit _ ol (fun _=>rfl)
 |r::t,out,h,hl=>by
  rw [iO]at hl
  unfold kg
  have hr:=LV (h.right r (by simp))
  rw [Cj r (by omega),be,cq (by simp;omega),be,Gt order limit t (out++[r]) (by rwa [jP,Gl]) (by simp only [jd,zg];omega)]
  rw [jP,Gl]
theorem B3{order:List gL}(h:Na order rows)(hl:rows.length≤1000000)(limit:Int):oK rows order limit=some (ML limit (uu (G2 order) rows)):=by
 unfold oK
 rw [Gt order limit rows [] (by simpa using h) (by simpa using hl)]
 rfl
end Go.Proofs.YtfhhakidodmdfaaGreatDoor

