/- cT of this claim: G1. -/
import Derived.Test.YtdohlidddcgfjaaGreatFaQ1
set_option linter.all false
namespace Go.Proofs.YtdohlidddcgfjaaGreat
open Go

theorem go{n:Nat}(h:n≤900000):n<ef:=vd (yT _) (m8 (by omega))
def gb(p:Int):Nat→List Int
 |0=>[]
 |k+1=>IntKind.u8.wrap (p.fdiv (2^(8*k)))::gb p k
theorem cQ(p:Int): ∀k,(gb p k).length=k
 |0=>rfl
 |k+1=>by simp [gb,cQ p k]
theorem iJ(p:Int): ∀k,xF (gb p k)
 |0=>fun x hx=>by cases hx
 |k+1=>fun x hx=>by
  rcases jW.1 hx with rfl|hx
  ·exact AH _ _ (Cj.2 rfl)
  ·exact iJ p k x hx
theorem sm(n:Nat): ∀k,gb (n:Int) k=sl n k
 |0=>rfl
 |k+1=>by
  unfold gb sl
  rw [sm n k,Int.fdiv_eq_ediv_of_nonneg _ (Int.pow_nonneg (by omega)),show(2:Int)^(8*k)=((256^k:Nat):Int) by rw [show(256:Nat)=2^8 from rfl,←Nat.pow_mul];norm_cast,show((n:Int)/((256^k:Nat):Int))=((n/256^k:Nat):Int)from rfl]
  congr 1
theorem yH: ∀(k:Nat) {m n:Nat},m%256^k=n%256^k→sl m k=sl n k
 |0,_,_,_=>rfl
 |k+1,m,n,h=>by
  have h1:m/256^k%256=n/256^k%256:=by
   rw [←Nat.mod_mul_right_div_self,←Nat.mod_mul_right_div_self,←Nat.pow_succ,h]
  have h2:m%256^k=n%256^k:=by
   have:=congrArg (· %256^k) h
   simpa [Nat.mod_mod_of_dvd _ (Nat.pow_dvd_pow 256 (Nat.le_succ k))] using this
  unfold sl
  rw [h1,yH k h2]
theorem Ar(p:Int): ∃n:Nat,n<18446744073709551616∧IntKind.u64.wrap p=(n:Int):=⟨(IntKind.u64.wrap p).toNat,by rw [xO];omega,by rw [xO];omega⟩
theorem Lh(k w:Nat)(hk:k+1≤w)(hw:w≤8):IntKind.i64.wrap (IntKind.i64.wrap (8*IntKind.i64.wrap ((w:Int)-((w-(k+1):Nat):Int)))-8)=((8*k:Nat):Int):=by
 rw [show(w:Int)-((w-(k+1):Nat):Int)=((k+1:Nat):Int) by omega,Ab,Ab,Ab]
 omega
theorem Iz(p:Int)(k:Nat)(hk:k≤8):p.fdiv (2^(min (Int.toNat ((8*k:Nat):Int)) IntKind.u64.bits))=p.fdiv (2^(8*k)):=by
 rw [AJ,show IntKind.u64.bits=64 from rfl,xI (by omega)]
theorem uv(p:Int)(w:Nat)(hw:w≤8): ∀(k f:Nat) (b:List Int),k≤w→k<f→b.length+k≤60000000000→ei p (w:Int) f b ((w-k:Nat):Int)=some (b++gb p k)
 |0,f+1,b,_,_,_=>by
  unfold ei
  rw [aW (by simp),gb,t8]
 |k+1,f+1,b,hk,hf,hb=>by
  unfold ei
  rw [bq (by rw [rl];omega),Lh k w hk hw,show Pz ((8*k:Nat):Int)=some ()from bq (by omega),bj,Iz p k (by omega),bH (by simp;omega),bj]
  rw [show IntKind.i64.wrap (((w-(k+1):Nat):Int)+1)=((w-k:Nat):Int) by rw [Ab];omega]
  rw [uv p w hw k f _ (by omega) (by omega) (by simp;omega),nh];rfl
theorem FO(p w:Int): ∀(f:Nat) (b:List Int) (x:Int),jF p w f b x=ei (IntKind.u64.wrap p) w f b x
 |0,_,_=>rfl
 |f+1,b,x=>by
  unfold jF ei
  simp only [FO p w f]
theorem FN(p w:Int): ∀(f:Nat) (b:List Int) (x:Int),jE p w f b x=ei (IntKind.u64.wrap p) w f b x
 |0,_,_=>rfl
 |f+1,b,x=>by
  unfold jE ei
  simp only [FN p w f]
theorem yX{n:Nat}(h:n≤68719476736):vm (0:Int) (n:Int) (0:Int)=some []:=by
 unfold vm
 rw [bq (by omega)];rfl
theorem H9(b:List Int)(w:Nat)(h:b.length+w≤60000000000):IntKind.i64.wrap ((b.length:Int)+(w:Int))=((b.length+w:Nat):Int):=by
 rw [Ab];omega
theorem lB(b:List Int)(p:Int)(h:b.length≤50000000000):jd b p=some (b++gb p 8):=by
 unfold jd qg
 have:=uv p 8 (by omega) 8 ef b (by omega) (go (by omega)) (by omega)
 rw [show((8:Int))=((8:Nat):Int)from rfl,H9 b 8 (by omega),yX (by omega),bj,bH (by simp;omega),bj,lL]
 rw [show((0:Int))=((8-8:Nat):Int)from rfl,this]
 rfl
theorem vM(b:List Int)(p:Int)(h:b.length≤50000000000):lS b p=some (b++gb (IntKind.u64.wrap p) 4):=by
 unfold lS qh
 have:=uv (IntKind.u64.wrap p) 4 (by omega) 4 ef b (by omega) (go (by omega)) (by omega)
 rw [show((4:Int))=((4:Nat):Int)from rfl,H9 b 4 (by omega),yX (by omega),bj,bH (by simp;omega),bj,lL]
 rw [show((0:Int))=((4-4:Nat):Int)from rfl,FN,this]
 rfl
theorem vN(b:List Int)(p:Int)(h:b.length≤50000000000):pi b p=some (b++gb (IntKind.u64.wrap p) 2):=by
 unfold pi qi
 have:=uv (IntKind.u64.wrap p) 2 (by omega) 2 ef b (by omega) (go (by omega)) (by omega)
 rw [show((2:Int))=((2:Nat):Int)from rfl,H9 b 2 (by omega),yX (by omega),bj,bH (by simp;omega),bj,lL]
 rw [show((0:Int))=((2-2:Nat):Int)from rfl,FO,this]
 rfl
theorem sF(n w:Nat)(hn:n<18446744073709551616)(hw:w≤8): ∀(k j f:Nat),k+j=w→k<f→ku (w:Int) f (sl n j) ((n/256^j:Nat):Int) (j:Int)=some (sl n w)
 |0,j,f+1,h,_=>by
  unfold ku
  rw [aW (by simp;omega),show j=w by omega]
 |k+1,j,f+1,h,hf=>by
  unfold ku
  rw [bq (by rw [rl];omega)]
  rw [show(((n/256^j:Nat):Int).tmod 256)=((n/256^j%256:Nat):Int)from rfl,show IntKind.u8.wrap ((n/256^j%256:Nat):Int)=((n/256^j%256:Nat):Int) by rw [Cf];omega,
   bH (by rw [BU];simp;omega),bj]
  rw [show(((n/256^j:Nat):Int).tdiv 256)=((n/256^j/256:Nat):Int)from rfl]
  have h1:n/256^j/256≤n:=vf (Nat.div_le_self _ _) (Nat.div_le_self _ _)
  rw [show IntKind.u64.wrap ((n/256^j/256:Nat):Int)=((n/256^j/256:Nat):Int) by
   generalize n/256^j/256=m at h1
   rw [xO];omega]
  rw [Nat.div_div_eq_div_mul,←Nat.pow_succ,show IntKind.i64.wrap ((j:Int)+1)=((j+1:Nat):Int) by rw [Ab];omega]
  exact sF n w hn hw k (j+1) f (by omega) (by omega)
theorem oP(n w:Nat)(hn:n<18446744073709551616)(hw:w≤8):fh (n:Int) (w:Int)=some (gb (n:Int) w):=by
 have:=sF n w hn hw w 0 ef (by omega) (go (by omega))
 rw [sm]
 simpa [sl,fh] using this
theorem sM(p:Int): ∀(k f:Nat) (b:List Int),k≤8→k<f→b.length+k≤60000000000→kx p f b ((k:Int)-1)=some (b++gb p k)
 |0,f+1,b,_,_,_=>by
  unfold kx
  rw [aW (by simp),gb,t8]
 |k+1,f+1,b,hk,hf,hb=>by
  unfold kx
  rw [show((k+1:Nat):Int)-1=(k:Int) by omega,bq (by rw [rl];omega),show IntKind.i64.wrap (8*(k:Int))=((8*k:Nat):Int) by rw [Ab];omega,show Pz ((8*k:Nat):Int)=some ()from bq (by omega),bj,Iz p k (by omega),bH (by simp;omega),bj]
  rw [show IntKind.i64.wrap ((k:Int)-1)=(k:Int)-1 by rw [Ab];omega]
  rw [sM p k f _ (by omega) (by omega) (by simp;omega),nh];rfl
theorem ra(p:Int):lZ p=some (gb p 8):=by
 have:=sM p 8 ef [] (by omega) (go (by omega)) (by simp)
 simpa [lZ] using this
def vB(v:aF):List Int:=IntKind.u8.wrap v.Kind::(if v.Kind=1 then [IntKind.u8.wrap v.N]else if v.Kind=2 then gb (IntKind.u64.wrap v.N) 8 else if v.Kind=3 then IntKind.u8.wrap (v.S.length:Int)::oV v.S else if v.Kind=4 then gb (IntKind.u64.wrap v.N) 8++gb v.U 8 else [])
theorem wa(s:Ky):(oV s).length=s.length:=by simp [oV]
theorem yY(v:aF):(vB v).length≤17+v.S.length:=by
 unfold vB
 have:=wa v.S
 split
 ·simp;omega
 ·split
  ·simp [cQ];omega
  ·split
   ·simp [this];omega
   ·split
    ·simp [cQ]
    ·simp;omega
theorem gT{n:Int}{l:List Int}(h:xF l):xF (IntKind.u8.wrap n::l):=ii (AH n) h
theorem oW:xF []:=fun x hx=>by cases hx
theorem MH(v:aF):xF (vB v):=by
 unfold vB
 refine gT ?_
 split
 ·exact AH _
 ·split
  ·exact iJ _ _
  ·split
   ·exact gT (Kx _)
   ·split
    ·exact ii (iJ _ _) (iJ _ _)
    ·exact oW
theorem vC(v:aF)(h:v.S.length≤100000):qR v=some (vB v):=by
 have hl:=wa v.S
 unfold qR vB
 by_cases h1:v.Kind=1
 ·rw [bq (by simp [h1]),bq h1,bH (by simp)];rfl
 by_cases h2:v.Kind=2
 ·rw [aW (by simp [h1]),bq (by simp [h2]),aW h1,bq h2,ra,bj,bH (by simp [cQ])];rfl
 by_cases h3:v.Kind=3
 ·rw [aW (by simp [h1]),aW (by simp [h2]),bq (by simp [h3]),aW h1,aW h2,bq h3,bH (by simp),bj,bH (by simp [hl];omega)];rfl
 by_cases h4:v.Kind=4
 ·rw [aW (by simp [h1]),aW (by simp [h2]),aW (by simp [h3]),bq (by simp [h4]),aW h1,aW h2,aW h3,bq h4,ra,bj,bH (by simp [cQ]),bj,ra,bj,bH (by simp [cQ])];rfl
 ·rw [aW (by simp [h1]),aW (by simp [h2]),aW (by simp [h3]),aW (by simp [h4]),aW h1,aW h2,aW h3,aW h4]
theorem v8(v:aF)(h:v.S.length≤100000):qY v=some (if jJ v then(vB v,0)else([],120)):=by
 have hl:=wa v.S
 unfold qY vB
 rw [rP,bj]
 by_cases hr:jJ v=true
 ·rw [bq hr,aW (by simp),bq hr]
  by_cases h1:v.Kind=1
  ·rw [bq (by simp [h1]),bq h1,bH (by simp)];rfl
  by_cases h2:v.Kind=2
  ·rw [aW (by simp [h1]),bq (by simp [h2]),aW h1,bq h2,lB _ _ (by simp)];rfl
  by_cases h3:v.Kind=3
  ·rw [aW (by simp [h1]),aW (by simp [h2]),bq (by simp [h3]),aW h1,aW h2,bq h3,bH (by simp),bj,bH (by simp [hl];omega)];rfl
  by_cases h4:v.Kind=4
  ·rw [aW (by simp [h1]),aW (by simp [h2]),aW (by simp [h3]),bq (by simp [h4]),aW h1,aW h2,aW h3,bq h4,lB _ _ (by simp),bj,lB _ _ (by simp [cQ]),bj,nh];rfl
  ·rw [aW (by simp [h1]),aW (by simp [h2]),aW (by simp [h3]),aW (by simp [h4]),aW h1,aW h2,aW h3,aW h4]
 ·rw [aW hr,bq (by simp),aW hr]
end Go.Proofs.YtdohlidddcgfjaaGreat

