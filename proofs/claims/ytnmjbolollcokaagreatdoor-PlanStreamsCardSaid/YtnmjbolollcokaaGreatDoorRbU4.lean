/- cJ of this claim: U4. -/
import Derived.Test.YtnmjbolollcokaaGreatDoorRbU3
set_option linter.all false
namespace Go.Proofs.YtnmjbolollcokaaGreatDoor
open Go

def kS(s:aV):Int×Int×Int:=(s.Frag,s.From,s.To)
theorem BS{a b:aV}(h:kS a=kS b):a=b:=by
 obtain⟨a1,a2,a3⟩:=a
 obtain⟨b1,b2,b3⟩:=b
 unfold kS at h
 simp only [Prod.mk.injEq]at h
 obtain⟨h1,h2,h3⟩:=h
 subst h1;subst h2;subst h3
 rfl
def gI(D:List aV):List ((Int×Int×Int)×Int):=D.map fun s=>(kS s,(1:Int))
theorem yA{s:aV}: ∀{D:List aV},s∈D→dB (gI D) (kS s)=some 1
 |d::D,h=>by
  unfold gI
  rw [vo]
  unfold dB
  by_cases he:kS d=kS s
  ·rw [cU he]
  ·rw [cM he]
   rcases lM.1 h with rfl|h
   ·exact absurd rfl he
   ·exact yA h
theorem zS{s:aV}: ∀{D:List aV},s∉D→dB (gI D) (kS s)=none
 |[],_=>rfl
 |d::D,h=>by
  unfold gI
  rw [vo]
  unfold dB
  rw [cM (fun he=>h (by rw [BS he];exact lr ..))]
  exact zS fun hm=>h (lA _ hm)
theorem Ax{s:aV}{v:Int}: ∀{D:List aV},s∉D→cw (gI D) (kS s) v=gI D++[(kS s,v)]
 |[],_=>rfl
 |d::D,h=>by
  unfold gI
  rw [vo]
  unfold cw
  rw [cM (fun he=>h (by rw [BS he];exact lr ..))]
  have:=Ax (v:=v) (D:=D) fun hm=>h (lA _ hm)
  unfold gI at this
  rw [this]
  rfl
theorem xH{s:aV}{v y:Int}: ∀{D:List aV},s∉D→cw (gI D++[(kS s,y)]) (kS s) v=gI D++[(kS s,v)]
 |[],_=>by
  show cw [(kS s,y)] (kS s) v=[(kS s,v)]
  unfold cw
  rw [cU rfl]
 |d::D,h=>by
  unfold gI
  rw [vo,List.cons_append]
  unfold cw
  rw [cM (fun he=>h (by rw [BS he];exact lr ..))]
  have:=xH (v:=v) (y:=y) (D:=D) fun hm=>h (lA _ hm)
  unfold gI at this
  rw [this]
  rfl
theorem xh{s:aV}{D:List aV}(h:s∉D):cw (cw (gI D) (s.Frag,s.From,s.To) ((dB (gI D) (s.Frag,s.From,s.To)).getD (0:Int))) (s.Frag,s.From,s.To) (IntKind.i64.wrap (((dB (gI D) (s.Frag,s.From,s.To)).getD (0:Int))+(1:Int)))=gI (D++[s]):=by
 show cw (cw (gI D) (kS s) ((dB (gI D) (kS s)).getD (0:Int))) (kS s) (IntKind.i64.wrap (((dB (gI D) (kS s)).getD (0:Int))+(1:Int)))=_
 rw [zS h,Option.getD_none,Ax h,xH h,zN (by omega) (by omega)]
 unfold gI
 rw [xc]
 rfl
theorem oq{α:Type}: ∀{a b:List α},a.Nodup→(∀x∈a,x∈b)→a.length≤b.length
 |[],_,_,_=>im _
 |x::a,b,hn,h=>by
  obtain⟨hx,hn⟩:=List.nodup_cons.1 hn
  obtain⟨p,q,rfl⟩:=List.append_of_mem (h x (lr ..))
  have:=oq (b:=p++q) hn fun y hy=>by
   have h1:=h y (lA _ hy)
   rcases vq.1 h1 with h1|h1
   ·exact Bh _ h1
   ·rcases lM.1 h1 with rfl|h1
    ·exact absurd hy hx
    ·exact Cp _ h1
  simp only [kW,tf]at this ⊢
  omega
section
variable(L:List (aV×Int))(q:Int→Int→aV×Int→Bool)
def ro(i j:Int):List aV:=(L.filter (q i j)).map Prod.fst
def tS(i:Int):Nat→Nat→List aV
 |0,_=>[]
 |k+1,j=>ro L q i (j:Int)++tS i k (j+1)
def tX(N:Nat):Nat→Nat→List aV
 |0,_=>[]
 |k+1,i=>tS L q (i:Int) (N+1) 0++tX N k (i+1)
structure nO(c1 c2:aV→Int):Prop where
 hq: ∀x∈L,∀i j,q i j x=true↔c1 x.1=i∧c2 x.1=j
 nd:(L.map Prod.fst).Nodup
variable{L q}{c1 c2:aV→Int}
theorem nO.cell(h:nO L q c1 c2){i j:Int}{s:aV}:s∈ro L q i j↔s∈L.map Prod.fst∧c1 s=i∧c2 s=j:=by
 unfold ro
 rw [pK,pK]
 constructor
 ·rintro⟨x,hx,rfl⟩
  rw [List.mem_filter]at hx
  exact⟨⟨x,hx.1,rfl⟩,(h.hq x hx.1 i j).1 hx.2⟩
 ·rintro⟨⟨x,hx,rfl⟩,h2⟩
  exact⟨x,List.mem_filter.2 ⟨hx,(h.hq x hx i j).2 h2⟩,rfl⟩
theorem nO.col(h:nO L q c1 c2){i:Int}{s:aV}: ∀{k j:Nat},s∈tS L q i k j↔s∈L.map Prod.fst∧c1 s=i∧(j:Int)≤c2 s∧c2 s<((j+k:Nat):Int)
 |0,j=>by
  unfold tS
  constructor
  ·intro h;cases h
  ·rintro⟨_,_,h1,h2⟩;omega
 |k+1,j=>by
  unfold tS
  rw [vq,h.cell,h.col (k:=k) (j:=j+1)]
  constructor
  ·rintro(⟨a,b,c⟩|⟨a,b,c,d⟩)
   ·exact⟨a,b,by omega,by omega⟩
   ·exact⟨a,b,by omega,by omega⟩
  ·rintro⟨a,b,c,d⟩
   by_cases e:c2 s=(j:Int)
   ·exact .inl ⟨a,b,e⟩
   ·exact .inr ⟨a,b,by omega,by omega⟩
theorem nO.all(h:nO L q c1 c2){N:Nat}{s:aV}: ∀{k i:Nat},s∈tX L q N k i↔s∈L.map Prod.fst∧((i:Int)≤c1 s∧c1 s<((i+k:Nat):Int))∧0≤c2 s∧c2 s≤(N:Int)
 |0,i=>by
  unfold tX
  constructor
  ·intro h;cases h
  ·rintro⟨_,⟨h1,h2⟩,_⟩;omega
 |k+1,i=>by
  unfold tX
  rw [vq,h.col,h.all (k:=k) (i:=i+1)]
  constructor
  ·rintro(⟨a,b,c,d⟩|⟨a,⟨b,c⟩,d,e⟩)
   ·exact⟨a,⟨by omega,by omega⟩,by omega,by omega⟩
   ·exact⟨a,⟨by omega,by omega⟩,by omega,by omega⟩
  ·rintro⟨a,⟨b,c⟩,d,e⟩
   by_cases e:c1 s=(i:Int)
   ·exact .inl ⟨a,e,by omega,by omega⟩
   ·exact .inr ⟨a,⟨by omega,by omega⟩,by omega,by omega⟩
theorem nO.nd_cell(h:nO L q c1 c2)(i j:Int):(ro L q i j).Nodup:=List.Nodup.sublist (List.filter_sublist.map _) h.nd
theorem nO.nd_col(h:nO L q c1 c2)(i:Int): ∀k j:Nat,(tS L q i k j).Nodup
 |0,_=>Bc
 |k+1,j=>by
  unfold tS
  refine wK.2 ⟨h.nd_cell i j,h.nd_col i k (j+1),fun a ha b hb e=>?_⟩
  subst e
  rw [h.cell]at ha
  rw [h.col]at hb
  omega
theorem nO.nd_all(h:nO L q c1 c2)(N:Nat): ∀k i:Nat,(tX L q N k i).Nodup
 |0,_=>Bc
 |k+1,i=>by
  unfold tX
  refine wK.2 ⟨h.nd_col i (N+1) 0,h.nd_all N k (i+1),fun a ha b hb e=>?_⟩
  subst e
  rw [h.col]at ha
  rw [h.all]at hb
  omega
end
theorem qO{α β:Type}{f:α→β}(hf: ∀a b,f a=f b→a=b): ∀{l:List α},l.Nodup→(l.map f).Nodup
 |[],_=>Bc
 |x::l,h=>by
  obtain⟨h1,h2⟩:=List.nodup_cons.1 h
  rw [vo]
  refine List.nodup_cons.2 ⟨fun hm=>?_,qO hf h2⟩
  obtain⟨y,hy,he⟩:=pK.1 hm
  rw [hf _ _ he]at hy
  exact h1 hy
theorem BT(n:Nat):(q5 n).Nodup:=qO (fun a b h=>by omega) List.nodup_range
theorem uj(f:cA)(n:Nat):(mF f n).Nodup:=by
 unfold mF
 split
 ·exact List.nodup_cons.2 ⟨List.not_mem_nil,Bc⟩
 ·exact qO (fun a b h=>by omega) (BT n)
theorem um(k r:Int){bs:List Int}(hb:bs.Nodup): ∀{aa:List Int},aa.Nodup→((rj k r aa bs).map Prod.fst).Nodup
 |[],_=>Bc
 |a::aa,h=>by
  obtain⟨h1,h2⟩:=List.nodup_cons.1 h
  have ih:=um k r hb h2
  unfold rj at ih ⊢
  rw [List.flatMap_cons,xc]
  refine wK.2 ⟨?_,ih,fun x hx y hy e=>?_⟩
  ·rw [List.map_map]
   exact qO (fun b c e=>by injection e) hb
  ·subst e
   rw [List.map_map,pK]at hx
   obtain⟨b,_,rfl⟩:=hx
   obtain⟨z,hz,he⟩:=pK.1 hy
   have:=(tG (k:=k) (r:=r) (aa:=aa) (bs:=bs) (x:=z)).1 hz
   rw [he]at this
   exact h1 this.2.2.1
theorem oI(p:bW)(n:Nat): ∀(fs:List cA) (i:Nat),((iX p n fs i).map Prod.fst).Nodup
 |[],_=>Bc
 |f::tl,i=>by
  have ih:=oI p n tl (i+1)
  unfold iX
  rw [xc]
  refine wK.2 ⟨?_,ih,fun x hx y hy e=>?_⟩
  ·unfold Dv
   split
   ·exact Bc
   ·exact um _ _ (uj _ n) (uj f n)
  ·subst e
   obtain⟨z,hz,rfl⟩:=pK.1 hx
   obtain⟨u,hu,he⟩:=pK.1 hy
   have h1:=ot hu
   unfold Dv at hz
   split at hz
   ·cases hz
   ·have h2:=(tG (x:=z)).1 hz
    rw [he]at h1
    omega
section
variable{p:bW}{N:Nat}
theorem xB(p:bW)(N:Nat):nO (iX p N p.Frags 0) lU (fun s=>s.Frag) (fun s=>s.From):=⟨fun x _ i j=>by
 unfold lU
 rw [ki,beq_iff_eq,beq_iff_eq],oI p N p.Frags 0⟩
theorem AB(p:bW)(N:Nat):nO (iX p N p.Frags 0) Eu (fun s=>BI p s.Frag) (fun s=>s.To):=⟨fun x hx i j=>by
 unfold Eu
 rw [ki,beq_iff_eq,beq_iff_eq,(ot hx).2.2.2.2.1],oI p N p.Frags 0⟩
theorem EO{i:Nat}{nx2:Int→(List ((Int×Int×Int)×Int))→(List ((Int×Int×Int)×Int))→Option Bool}{n:Int}{in2:List ((Int×Int×Int)×Int)}{r4:(List aV)×Int}: ∀(ss D:List aV),(D++ss).Nodup→(∀s∈ss,s.Frag=(i:Int)∧s.From=n)→
  dD p i nx2 n in2 r4 ss (gI D)=dC p i nx2 n (gI (D++ss)) r4.1 in2
 |[],D,_,_=>by unfold dD;rw [zE]
 |s::ss,D,hn,h=>by
  obtain⟨h1,h2⟩:=h s (lr ..)
  have hs:s∉D:=fun hm=>(wK.1 hn).2.2 s hm s (lr ..) rfl
  unfold dD
  rw [cM (by simp [h1,h2]),xh hs,EO ss (D++[s]) (by rw [oc];exact hn) (fun x hx=>h x (lA _ hx)),oc]
  rfl
theorem EN{i:Nat}(hi:p.Frags.length≤30){nx2:Int→(List ((Int×Int×Int)×Int))→(List ((Int×Int×Int)×Int))→Option Bool}{n:Int}{out2:List ((Int×Int×Int)×Int)}: ∀(ss D:List aV),(D++ss).Nodup→(∀s∈ss,(0≤s.Frag∧s.Frag<(p.Frags.length:Int))∧BI p s.Frag=(i:Int)∧s.To=n)→
  dC p i nx2 n out2 ss (gI D)=nx2 (IntKind.i64.wrap (n+(1:Int))) out2 (gI (D++ss))
 |[],D,_,_=>by unfold dC;rw [zE]
 |s::ss,D,hn,h=>by
  obtain⟨⟨h0,h1⟩,h2,h3⟩:=h s (lr ..)
  have hs:s∉D:=fun hm=>(wK.1 hn).2.2 s hm s (lr ..) rfl
  unfold dC
  rw [Ch ⟨by omega,hi,h0,h1⟩,kU,cM (by simp [h2,h3]),xh hs,EN hi ss (D++[s]) (by rw [oc];exact hn) (fun x hx=>h x (lA _ hx)),oc]
  rfl
theorem EP(hs:rY p)(h30:p.Frags.length≤30)(hN:1≤N∧N≤4){nodes:Int}(hw:IntKind.i64.wrap ((((max nodes (0:Int))).tmod (4:Int))+(1:Int))=(N:Int)){i:Nat}(hi:i<p.Frags.length)(nx:Nat→(List ((Int×Int×Int)×Int))→(List ((Int×Int×Int)×Int))→Option Bool):
  ∀(k j fu:Nat) (D1 D2:List aV),j+k=N+1→k<fu→(D1++tS (iX p N p.Frags 0) lU (i:Int) k j).Nodup→(D2++tS (iX p N p.Frags 0) Eu (i:Int) k j).Nodup→
   cO p nodes nx i fu (j:Int) (gI D1) (gI D2)=nx (i+1) (gI (D1++tS (iX p N p.Frags 0) lU (i:Int) k j)) (gI (D2++tS (iX p N p.Frags 0) Eu (i:Int) k j))
 |k,j,0,_,_,_,h,_,_=>by omega
 |0,j,fu+1,D1,D2,hj,_,_,_=>by
  unfold cO tS
  rw [hw,cM (by simp;omega),zE,zE]
 |k+1,j,fu+1,D1,D2,hj,hf,hn1,hn2=>by
  have hF:n8 p (i:Int):=⟨by omega,h30,by omega,by omega⟩
  unfold tS at hn1 hn2
  have hm1: ∀s∈ro (iX p N p.Frags 0) lU (i:Int) (j:Int),s.Frag=(i:Int)∧s.From=(j:Int):=fun s h=>((xB p N).cell.1 h).2
  have hm2: ∀s∈ro (iX p N p.Frags 0) Eu (i:Int) (j:Int),(0≤s.Frag∧s.Frag<(p.Frags.length:Int))∧BI p s.Frag=(i:Int)∧s.To=(j:Int):=fun s h=>by
   obtain⟨a,b,c⟩:=(AB p N).cell.1 h
   obtain⟨x,hx,rfl⟩:=pK.1 a
   have:=ot hx
   exact⟨by omega,b,c⟩
  have n1:(D1++ro (iX p N p.Frags 0) lU (i:Int) (j:Int)).Nodup:=by
   rw [←oc]at hn1
   exact(wK.1 hn1).1
  have n2:(D2++ro (iX p N p.Frags 0) Eu (i:Int) (j:Int)).Nodup:=by
   rw [←oc]at hn2
   exact(wK.1 hn2).1
  unfold cO
  rw [hw,cU (by simp;omega),Ej hs hF ⟨hN.1,by omega⟩,kU,F0 hs hF ⟨hN.1,by omega⟩,kU,cM (by simp)]
  show dD p i (cO p nodes nx i fu) (j:Int) (gI D2) (ro (iX p N p.Frags 0) Eu (i:Int) (j:Int),0) (ro (iX p N p.Frags 0) lU (i:Int) (j:Int)) (gI D1)=_
  rw [EO _ _ n1 hm1,EN h30 _ _ n2 hm2,zN (by omega) (by omega)]
  have e:(j:Int)+1=((j+1:Nat):Int):=by omega
  rw [e,EP hs h30 hN hw hi nx k (j+1) fu _ _ (by omega) (by omega) (by rw [oc];exact hn1) (by rw [oc];exact hn2),oc,oc]
  rfl
theorem EQ{L:List (aV×Int)}{out in1:List aV}(h1: ∀s∈L.map Prod.fst,s∈out∧s∈in1)(hl:out.length=L.length∧in1.length=L.length): ∀tl:List aV,(∀s∈tl,s∈L.map Prod.fst)→di (L.map Prod.fst,0) (gI out) (gI in1) tl=some true
 |[],_=>by
  unfold di
  simp [gI,hl.1,hl.2]
 |s::tl,h=>by
  obtain⟨a,b⟩:=h1 s (h s (lr ..))
  have e1:dB (gI out) (s.Frag,s.From,s.To)=some 1:=yA a
  have e2:dB (gI in1) (s.Frag,s.From,s.To)=some 1:=yA b
  unfold di
  rw [e1,e2,cM (by simp)]
  exact EQ h1 hl tl fun x hx=>h x (lA _ hx)
theorem ER(hs:rY p)(h30:p.Frags.length≤30)(hN:1≤N∧N≤4){nodes:Int}(hw:IntKind.i64.wrap ((((max nodes (0:Int))).tmod (4:Int))+(1:Int))=(N:Int))(r2:(List aV)×Int):
  ∀(fs:List cA) (i:Nat) (D1 D2:List aV),i+fs.length=p.Frags.length→(D1++tX (iX p N p.Frags 0) lU N fs.length i).Nodup→(D2++tX (iX p N p.Frags 0) Eu N fs.length i).Nodup→
   cP p nodes r2 fs i (gI D1) (gI D2)=di r2 (gI (D1++tX (iX p N p.Frags 0) lU N fs.length i)) (gI (D2++tX (iX p N p.Frags 0) Eu N fs.length i)) r2.1
 |[],i,D1,D2,_,_,_=>by
  unfold cP
  show _=di r2 (gI (D1++[])) (gI (D2++[])) r2.1
  rw [zE,zE]
 |f::fs,i,D1,D2,hi,hn1,hn2=>by
  rw [tf]at hi hn1 hn2
  unfold tX at hn1 hn2
  unfold cP
  have n1:=hn1
  have n2:=hn2
  rw [←oc]at n1 n2
  rw [←Int.ofNat_zero,EP hs h30 hN hw (by omega) _ (N+1) 0 ni D1 D2 (by omega) (AF (by omega)) (wK.1 n1).1 (wK.1 n2).1]
  rw [ER hs h30 hN hw r2 fs (i+1) _ _ (by omega) n1 n2,oc,oc,tf]
  rfl
end
theorem tz(p:bW)(nodes:Int):kH p nodes=some true:=by
 unfold kH
 rw [yy,kU,cM (by simp)]
 obtain⟨b,h1,h2⟩:=An p
 rw [h1,kU]
 cases b with
 |true=>rfl
 |false=>
  have hs:=h2 rfl
  rw [cM (by simp)]
  obtain⟨N,hw,hN⟩: ∃N:Nat,IntKind.i64.wrap ((((max nodes (0:Int))).tmod (4:Int))+(1:Int))=(N:Int)∧1≤N∧N≤4:=by
   have hm:0≤max nodes 0:=Int.le_max_right _ _
   have e:(max nodes 0).tmod 4=(max nodes 0)%4:=Int.tmod_eq_emod_of_nonneg hm
   refine⟨((max nodes 0)%4+1).toNat,?_,by omega,by omega⟩
   rw [e,zN (by omega) (by omega)]
   omega
  by_cases hI:qV p (N:Int)
  ·have h30:=hI.2.1
   rw [hw,AS hs hI,kU,cM (by simp)]
   have c1:=xB p N
   have c2:=AB p N
   have z1:=c1.nd_all N p.Frags.length 0
   have z2:=c2.nd_all N p.Frags.length 0
   have:=ER hs h30 hN hw ((iX p N p.Frags 0).map Prod.fst,0) p.Frags 0 [] [] (by omega) (by rw [te];exact z1) (by rw [te];exact z2)
   rw [te,te]at this
   refine Eq.trans this ?_
   have m1: ∀s,s∈tX (iX p N p.Frags 0) lU N p.Frags.length 0↔s∈(iX p N p.Frags 0).map Prod.fst:=fun s=>by
    rw [c1.all]
    refine⟨fun h=>h.1,fun h=>⟨h,?_⟩⟩
    obtain⟨x,hx,rfl⟩:=pK.1 h
    have:=ot hx
    refine⟨⟨by omega,by omega⟩,by omega,by omega⟩
   have m2: ∀s,s∈tX (iX p N p.Frags 0) Eu N p.Frags.length 0↔s∈(iX p N p.Frags 0).map Prod.fst:=fun s=>by
    rw [c2.all]
    refine⟨fun h=>h.1,fun h=>⟨h,?_⟩⟩
    obtain⟨x,hx,rfl⟩:=pK.1 h
    have h3:=ot hx
    rcases EZ p x.1.Frag with h4|⟨a,f,h4,h5⟩
    ·omega
    ·have:=(md.1 h5).1
     refine⟨⟨by omega,by omega⟩,by omega,by omega⟩
   have hnd:=oI p N p.Frags 0
   refine EQ (fun s hs=>⟨(m1 s).2 hs,(m2 s).2 hs⟩) ⟨?_,?_⟩ _ (fun s h=>h)
   ·have a:=oq z1 (fun s h=>(m1 s).1 h)
    have b:=oq hnd (fun s h=>(m1 s).2 h)
    rw [List.length_map]at a b
    omega
   ·have a:=oq z2 (fun s h=>(m2 s).1 h)
    have b:=oq hnd (fun s h=>(m2 s).2 h)
    rw [List.length_map]at a b
    omega
  ·rw [hw,AU hI,kU,cU (by simp)]
   unfold qV at hI
   congr 1
   simp only [List.length_nil,ki,yk,beq_iff_eq,decide_eq_true_eq]
   omega
end Go.Proofs.YtnmjbolollcokaaGreatDoor

