/- cd of this claim: Y10. -/
import Derived.Test.YtmogpgcfognefaaGreatDoorNcY9
import Derived.Test.YtmogpgcfognefaaGreatDoorNcY8
set_option linter.all false
namespace Go.Proofs.YtmogpgcfognefaaGreatDoor
open Go

def CC(T:Int)(kinds:List Int):aZ:=⟨1,-1,-1,T,kinds,false,⟨[]⟩,[],[],[],[],0⟩
def Re(kinds:List Int):aZ:=⟨9,-1,-1,0,kinds,false,⟨[]⟩,[],[],[],[],0⟩
def pY(T:Int)(kinds:List Int):eC:=⟨[⟨[CC T kinds],1,3,[]⟩,⟨[Re kinds],2,4,[]⟩]⟩
theorem xH(op T:Int){kinds:List Int}(hk:kinds.length≤1000):y0 ⟨op,-1,-1,T,kinds,false,⟨[]⟩,[],[],[],[],0⟩:=
 ⟨by show 0≤5000;omega,by show kinds.length≤5000;omega,by show 0≤5000;omega,by show 0≤5000;omega,by show 0≤5000;omega,by show 0≤5000;omega,fun g hg=>(by cases hg),fun e he=>(by cases he)⟩
theorem D4(T:Int){kinds:List Int}(hk:kinds.length≤1000):BZ (pY T kinds):=
  ⟨by show 2≤100;omega,fun f hf=>by
    rcases gz.1 hf with rfl|hf
    · exact⟨by show 1≤90;omega,fun n hn=>by rw [wB.1 hn];exact xH 1 T hk⟩
    · rw [wB.1 hf]
      exact⟨by show 1≤90;omega,fun n hn=>by rw [wB.1 hn];exact xH 9 0 hk⟩⟩
section
variable{c:aT}{T:Int}{kinds:List Int}{KS:List (List (List Int))}
theorem Aq{f:dc}{n:aZ}{j:Nat}{K:List (List Int)}(hf:f.Nodes=[n])(hK:KS[j]? =some K)(hF:zd c f K): ∃R,cB (some ⟨pY T kinds,c,KS⟩) (j:Int)=some R∧DI n (kA K n.A) (kA K n.B) R:=by
 obtain⟨R,h1,h2,_⟩:=Fl (q:=pY T kinds) hK hF
 refine⟨R,h1,?_⟩
 rw [hf]at h2
 have h2' :K[0]? =some R:=h2
 obtain⟨m,R',g1,g2,_,_,g5,_⟩:=hF.1.at_ 0 (by rw [hf];exact Nat.one_pos)
 rw [hf]at g1
 have g1' :some n=some m:=g1
 cases g1'
 rw [h2']at g2
 cases g2
 exact g5
theorem EA(hk: ∀(i:Nat) (f:dc),(pY T kinds).Frags[i]? =some f→ ∃K,KS[i]? =some K∧zd c f K){i:Nat}(hi:i<2):fR (some ⟨pY T kinds,c,KS⟩) (i:Int)=some true:=by
 obtain⟨K0,hK0,hF0⟩:=hk 0 ⟨[CC T kinds],1,3,[]⟩ rfl
 obtain⟨K1,hK1,hF1⟩:=hk 1 ⟨[Re kinds],2,4,[]⟩ rfl
 obtain⟨R0,h0,r0⟩:=Aq (T:=T) (kinds:=kinds) (n:=CC T kinds) rfl hK0 hF0
 obtain⟨R1,h1,r1⟩:=Aq (T:=T) (kinds:=kinds) (n:=Re kinds) rfl hK1 hF1
 obtain⟨e0,_,_,_,hin⟩:=r0.1 rfl
 obtain⟨e1,_⟩:=r1.2.1 rfl
 have e0' :R0=kinds:=e0
 have e1' :R1=kinds:=e1
 subst e0'
 rw [e1']at h1
 have h4:decide ((4:Int)∈R0)=false:=qg fun h=>by have:=hin 4 h;omega
 match i,hi with
 |0,_=>rfl
 |1,_=>
  show((if(!(decide ((1:Int)≤0)))then((cB (some ⟨pY T R0,c,KS⟩) ((0:Nat):Int)).bind fun r2=>(ee R0 r2).bind fun r3=>some (!r3))else some true).bind fun t2=>some t2).bind (fun t1=>if t1 then(some false)else(dS (some ⟨pY T R0,c,KS⟩) ((1:Nat):Int) ⟨[Re R0],2,4,[]⟩ []))=_
  rw [h0,c8 (by decide),ce,vd,ce,ce,ce,dg (by simp)]
  show((cB (some ⟨pY T R0,c,KS⟩) ((1:Nat):Int)).bind fun r=>(cN r (4:Int)).bind fun r1=>some (!r1)).bind (fun t=>some t)=_
  rw [h1,ce,nG,h4]
  rfl
def nH(t:bj):bB:=if t.Keys=[]then⟨1,[]⟩else⟨2,t.Keys⟩
theorem Ei{t:bj}(ht:ea c.Tables T=some t)(hk:t.Keys.length≤100000):jy (some ⟨pY T kinds,c,KS⟩) 0=some [nH t]:=by
 show((ko (some ⟨some ⟨pY T kinds,c,KS⟩,CC T kinds,⟨0,[]⟩,⟨0,[]⟩⟩)).bind fun r1=>ij (dr (some ⟨pY T kinds,c,KS⟩) ⟨[CC T kinds],1,3,[]⟩ ((yc).getD []) []) [] r1)=_
 unfold ko
 rw [ce,ce,ce]
 show((ea c.Tables T).bind _).bind _=_
 rw [ht,ce]
 unfold nH
 by_cases h:t.Keys=[]
 ·rw [dg (by simp [h]),c8 h]
  rfl
 ·have:0<t.Keys.length:=List.length_pos_iff.2 h
  rw [c8 (by simpa using this),dg h,qY _ (by omega)]
  rfl
end
theorem Ji{c:aT}(hs:mq c){T:Int}{t:bj}(ht:ea c.Tables T=some t)(h0:0≤T)(h1:T<(c.Tables.length:Int))(r:oS){n:Int}(hn:1≤n)(hn8:n≤8):
  (∃a e,nt c T r n=some (a,e)∧e≠0)∨(oh t=true∧vF (ke t) r=true∧nt c T r n=(qx t r n).bind fun a=>some (a,0)):=by
 have htm:t∈c.Tables:=by
  rw [lz T.toNat (by omega)]at ht
  exact oa ht
 unfold nt
 rw [mY hs,ce]
 cases hc:uX c with
 |false=>exact .inl ⟨_,_,rfl,by decide⟩
 |true=>
  have htab:=F3 hc t htm
  rw [c8 rfl,dg (by decide),c8 (by simp;omega),ht,ce,zB hs htm htab,ce,ce]
  cases hf:vF (ke t) r with
  |false=>exact .inl ⟨_,_,rfl,by decide⟩
  |true=>exact .inr ⟨htab,rfl,rfl⟩
section
variable{c:aT}{T:Int}{t:bj}{cA:Int}
theorem Cy(hs:mq c)(hT:IntKind.i64.wrap ((IntKind.u64.wrap cA).tmod (IntKind.u64.wrap (c.Tables.length:Int)))=T)(ht:ea c.Tables T=some t)(h0:0≤T)(h1:T<(c.Tables.length:Int))(nx:Nat→Option Bool)(i:Nat)(r:oS)(hu:M7 r)(hnx:nx (i+1)=some true):
  ∀(k N:Nat),10≤k+N→1≤N→N≤9→eg cA c ([nH t],0) nx i r k (N:Int)=some true
 |0,N,h,_,h9=>by omega
 |k+1,N,h,hN,h9=>by
  have ih:=fun hlt:N≤8=>Cy hs hT ht h0 h1 nx i r hu hnx k (N+1) (by omega) (by omega) (by omega)
  have step:N≤8→ia (eg cA c ([nH t],0) nx i r k) (N:Int)=some true:=fun hlt=>by
   unfold ia
   rw [j8 (by omega) (by omega)]
   exact ih hlt
  unfold eg
  by_cases hle:N≤8
  ·rw [c8 (by simp;omega),hT]
   rcases Ji hs ht h0 h1 r (n:=(N:Int)) (by omega) (by omega)with⟨a,e,hw,he⟩|⟨htab,hfit,hw⟩
   ·rw [hw,ce,c8 (by simpa using he)]
    exact hnx
   ·rw [hw]
    have hi:ea [nH t] (0:Int)=some (nH t):=rfl
    unfold qx
    rw [Iz]
    by_cases hk:t.Keys=[]
    ·rw [rm hk,c8 rfl,ce,ce,dg (by simp)]
     show((ea [nH t] (0:Int)).bind _)=_
     rw [hi,ce]
     have e1:(nH t).Kind=1:=by rw [show nH t=⟨1,[]⟩from c8 hk]
     rw [e1,c8 (by decide),dg (by decide)]
     exact step hle
    ·have hok:=Kc htab hfit
     have hv:=JP htab hfit hu
     have hb:=(tK hfit (by have:=ru htab;simp [ke];omega)).1
     obtain⟨n,g0,g1⟩:=CF hok hb hv
     rw [qg hk,dg (by simp),g1,ce,OT hN (by omega),ce,ce,ce,dg (by simp)]
     show((ea [nH t] (0:Int)).bind _)=_
     rw [hi,ce]
     have e0:nH t=⟨2,t.Keys⟩:=dg hk
     have e1:(nH t).Kind=2:=by rw [e0]
     have e2:(nH t).Cols=t.Keys:=by rw [e0]
     rw [e1,e2,dg (by decide)]
     show((pR r t.Keys).bind _)=_
     rw [g1,ce,c8 (by rfl),ce]
     simp only [bne_self_eq_false,ce,tZ,pr]
     exact step hle
  ·rw [dg (by simp;omega)]
   exact hnx
theorem Cz(hs:mq c)(hT:IntKind.i64.wrap ((IntKind.u64.wrap cA).tmod (IntKind.u64.wrap (c.Tables.length:Int)))=T)(ht:ea c.Tables T=some t)(h0:0≤T)(h1:T<(c.Tables.length:Int))(nx:Nat→Option Bool)(i:Nat)(hnx:nx (i+1)=some true):
  ∀(k i2:Nat) (r:oS),M7 r→i2+k=r.length→hZ cA c ([nH t],0) nx i k i2 r=some true
 |0,i2,r,hu,_=>Cy hs hT ht h0 h1 nx i r hu hnx sP 1 (by unfold sP;omega) (by omega) (by omega)
 |k+1,i2,r,hu,hl=>by
  have hi:i2<r.length:=by omega
  unfold hZ
  rw [dy,nK hi,ce]
  obtain⟨y,a1,_⟩:=p6 (r[i2]).S 41 41 rfl (by decide)
  have a1' :cG (r[i2]).S 0 (min ((r[i2]).S.length:Int) (41:Int))=some y:=a1
  rw [a1',ce,ce]
  refine Cz hs hT ht h0 h1 nx i hnx k (i2+1) _ (fun v hv=>?_) (by simp;omega)
  rcases List.mem_or_eq_of_mem_set hv with h|h
  ·exact hu v h
  ·rw [h];exact hu (r[i2]) (Cf hi)
theorem CA(hs:mq c)(hT:IntKind.i64.wrap ((IntKind.u64.wrap cA).tmod (IntKind.u64.wrap (c.Tables.length:Int)))=T)(ht:ea c.Tables T=some t)(h0:0≤T)(h1:T<(c.Tables.length:Int)):
  ∀(rows:List oS) (i:Nat),(∀r∈rows,M7 r)→c0 cA c ([nH t],0) rows i=some true
 |[],_,_=>rfl
 |r::tl,i,hu=>by
  unfold c0
  split
  ·rfl
  ·obtain⟨y,g1,_,g3,g4⟩:=p6 r 16 16 rfl (by decide)
   have e:iQ r (16:Int)=some y:=by
    have g1' :cG r 0 (min (r.length:Int) (16:Int))=some y:=g1
    unfold iQ
    rw [g1',ce,g3];rfl
   rw [e,ce]
   exact Cz hs hT ht h0 h1 (c0 cA c ([nH t],0) tl) i (CA hs hT ht h0 h1 tl (i+1) (fun x hx=>hu x (kR _ hx))) y.length 0 y (fun v hv=>hu r (kU ..) v (g4 v hv)) (pt _)
theorem CB(hs:mq c)(hT:IntKind.i64.wrap ((IntKind.u64.wrap cA).tmod (IntKind.u64.wrap (c.Tables.length:Int)))=T)(ht:ea c.Tables T=some t)(h0:0≤T)(h1:T<(c.Tables.length:Int))(rows:List oS)(hu: ∀r∈rows,M7 r):
  ∀(tl:List aU) (kinds:List Int),kinds.length+tl.length≤1000→fS cA rows c tl kinds=some true
 |[],kinds,hk=>by
  simp only [zk]at hk
  unfold fS
  rw [hT]
  show((mM (pY T kinds) c 0).bind fun r3=>if(r3.2 !=(0:Int))then(some ((r3.2==(210:Int))||(r3.2==(291:Int))))else(c0 cA c r3 rows 0))=some true
  have htm:t∈c.Tables:=by
   rw [lz T.toNat (by omega)]at ht
   exact oa ht
  obtain⟨p,i,a,e,hb,hcase⟩:=Jd hs (D4 T (kinds:=kinds) (by omega))
  unfold mM
  rw [hb,ce]
  rcases hcase with⟨he,hi,ha,KS,hp,hP⟩|⟨he,h⟩
  ·subst he;subst hp
   rw [dg (by simp),dg (show¬((decide ((0:Int)<0))||(decide (((pY T kinds).Frags.length:Int)≤0)))=true from(show¬((decide ((0:Int)<0))||(decide ((2:Int)≤0)))=true by decide)),Ei ht (hs t htm),ce,ce,dg (by simp)]
   exact CA hs hT ht h0 h1 rows 0 hu
  ·rw [c8 (by simpa using he),ce,c8 (by simpa using he)]
   rcases h with h|h|⟨h,hbad⟩
   ·rw [h];rfl
   ·rw [h];rfl
   ·exfalso
    rcases hbad with hbad|⟨KS,i,_,hk,hi,hr⟩
    ·exact hbad ⟨by show 1≤2;omega,by show 2≤30;omega⟩
    ·have:=EA hk (show i<2 from hi)
     rw [this]at hr
     cases hr
 |t' ::tl,kinds,hk=>by
  unfold fS
  rw [fh (by simp at hk ⊢;omega),ce]
  exact CB hs hT ht h0 h1 rows hu tl _ (by simp at hk ⊢;omega)
end
theorem ug: ∀(tl:List bj) (i:Nat) (out c:aT),hY tl i out=some c→c.Tables.length=out.Tables.length
 |[],i,out,c,h=>by
  have:out=c:=kD h
  rw [this]
 |e::tl,i,out,c,h=>by
  unfold hY at h
  simp only [Option.bind_eq_some_iff]at h
  obtain⟨a1,_,a2,h2,a3,_,a4,h4,a5,h5,a6,_,a7,h7,h⟩:=h
  have:=ug tl (i+1) _ c h
  rw [this]
  cases h5
  cases h7
  simp
theorem GH{c c' :aT}(h:lL c=some c'):c'.Tables.length≤5:=by
 unfold lL at h
 obtain⟨r,h1,h2⟩:=FZ c.Tables
 rw [h1,ce]at h
 rw [ug r 0 ⟨r⟩ c' h]
 exact h2
theorem yd(c:aT)(cA:Int)(rows:List oS)(hu: ∀r∈rows,M7 r):li c cA rows=some true:=by
 unfold li
 rw [Bb,ce,dg (by simp)]
 obtain⟨c',h1,hs,hcol⟩:=Ie c
 rw [h1,ce]
 by_cases hT:c'.Tables.length=0
 ·rw [c8 (by simp [hT])]
 ·rw [dg (by simp [hT])]
  have hlen:=GH h1
  have hn:IntKind.u64.wrap (c'.Tables.length:Int)=(c'.Tables.length:Int):=by rw [IntKind.wrap_u64];omega
  obtain⟨m,hm⟩: ∃m:Nat,IntKind.u64.wrap cA=(m:Int):=⟨(IntKind.u64.wrap cA).toNat,by rw [IntKind.wrap_u64];omega⟩
  have hlt:m%c'.Tables.length<c'.Tables.length:=Nat.mod_lt _ (by omega)
  have Ru:IntKind.i64.wrap ((IntKind.u64.wrap cA).tmod (IntKind.u64.wrap (c'.Tables.length:Int)))=((m%c'.Tables.length:Nat):Int):=by
   rw [hn,hm,show(m:Int).tmod (c'.Tables.length:Int)=((m%c'.Tables.length:Nat):Int)from rfl,j8 (by omega) (by omega)]
  rw [show nz (IntKind.u64.wrap (c'.Tables.length:Int))=some ()from by rw [hn];exact dg (by omega),ce,Ru,dy,nK hlt,ce]
  exact CB hs Ru (by rw [dy,nK hlt]) (by omega) (by omega) rows hu _ [] (by have:=hcol _ (Cf hlt);simp;omega)
end Go.Proofs.YtmogpgcfognefaaGreatDoor

