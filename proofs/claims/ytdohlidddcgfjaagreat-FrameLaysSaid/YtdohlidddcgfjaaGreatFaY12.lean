/- cT of this claim: Y12. -/
import Derived.Test.YtdohlidddcgfjaaGreatFaY11
import Derived.KernelRfl
set_option linter.all false
namespace Go.Proofs.YtdohlidddcgfjaaGreat
open Go

structure Kd(k:List Int):Prop where
 pos:1≤k.length
 le:k.length≤16
 vals: ∀x∈k,0≤x∧x≤4
def K3(k:List Int):Prop:= ∀x∈k,0≤x∧x≤3
theorem Kd.k3{k:List Int}(h:Kd k)(h4:(4:Int)∉k):K3 k:=fun x hx=>by
 have:=h.vals x hx
 have:x≠4:=fun e=>h4 (e▸hx)
 omega
theorem K3.four{k:List Int}(h:K3 k):(4:Int)∉k:=fun hx=>by have:=h 4 hx;omega
theorem IR{e:bv}{kinds:List Int}(h:(fO e kinds).2=0):0≤(fO e kinds).1∧(fO e kinds).1≤3:=by
 unfold fO at h ⊢
 by_cases h1:np e.Nodes=true
 ·by_cases h2:LU kinds=true
  ·by_cases h3:qt kinds.length e.Nodes=true
   ·simp only [h1,h2,h3,ow]at h ⊢
    cases ht:p7 e.Nodes with
    |none=>simp [ht]at h
    |some t=>
     cases hk:kd kinds t with
     |none=>simp [ht,hk]at h
     |some k=>
      have:=IS (fun k hk=>Ei h2 hk) t (nl ht).1 hk
      simp only [ht,hk,bj]
      unfold k4 at this
      omega
   ·simp [h1,h2,h3]at h
  ·simp [h1,h2]at h
 ·simp [h1]at h
theorem UC{g:fy}{a:List Int}(h:(Ic g a).2=true):0≤(Ic g a).1∧(Ic g a).1≤3:=by
 obtain⟨e1,e2⟩:=BX g a
 rw [h]at e1
 rw [←e2 e1]
 unfold zu at e1 ⊢
 by_cases h1:g.Tag=1
 ·simp [h1]
 by_cases h3:g.Tag=3
 ·simp [h3]
 by_cases h45:g.Tag=4∨g.Tag=5
 ·rw [aW h1,aW h3,bq h45]at e1 ⊢
  simp only [gX,ss]at e1
  exact IR e1.1.1
 ·rw [aW h1,aW h3,aW h45]
  simp
theorem Sb{a b:List Int}(ha:K3 a)(hb:K3 b):K3 (List.zipWith DO a b):=by
 intro z hz
 obtain⟨i,hi,hzi⟩:=List.getElem_of_mem hz
 rw [List.getElem_zipWith]at hzi
 rw [←hzi]
 unfold DO
 split
 ·exact hb _ (CQ _)
 ·exact ha _ (CQ _)
theorem QC{a:List Int}{e:Int}(h:vK a e=false):KR a e∈a:=by
 simp [vK]at h
 unfold KR
 rw [kW (by omega)]
 exact CQ _
theorem Ps{n:ap}{a b k:List Int}(hn:jg n)(hop:Da n.Op=true)(ha:K3 a)(hb:K3 b)(hal:a.length≤16)(hbl:b.length≤16)(hpa:n.Op≠1→1≤a.length)(h:cD n a b=some (k,true)):K3 k∧1≤k.length:=by
 rcases qe hop with h1|h1|h1|h1|h1|h1|h1|h1
 ·rw [Qn hn h1]at h
  injection h with h
  injection h with h2 h3
  subst h2
  simp only [gX,pq,rl]at h3
  exact⟨fun x hx=>by have:=h3.1.1.1.1 x hx;omega,by omega⟩
 ·have hp:=hpa (by omega)
  rw [SG h1 hal hbl]at h
  injection h with h
  injection h with h2 h3
  subst h2
  exact⟨fun x hx=>(yS.1 hx).elim (ha x) (hb x),by simp;omega⟩
 ·rw [SF h1]at h
  injection h with h
  injection h with h2 h3
  subst h2
  exact⟨ha,hpa (by omega)⟩
 ·rw [SE hn h1]at h
  cases hany:n.Keys.any (vK a)with
  |true=>rw [hany,bq rfl]at h;cases h
  |false=>
   rw [hany,aW (by simp)]at h
   injection h with h
   injection h with h2 h3
   subst h2
   simp only [gX,pq,rl]at h3
   refine⟨fun x hx=>?_,by simp;omega⟩
   rcases yS.1 hx with hx|hx
   ·obtain⟨e,he,rfl⟩:=AL.1 hx
    exact ha _ (QC (by have:=List.any_eq_false.1 hany e he;simpa using this))
   ·obtain⟨g,hg,rfl⟩:=AL.1 hx
    exact UC (h3.1.1.1 g hg)
 ·rw [RZ hn h1]at h
  injection h with h
  injection h with h2 h3
  subst h2
  simp only [gX,pq,rl,ss]at h3
  refine⟨fun x hx=>?_,by simp;omega⟩
  obtain⟨e,he,rfl⟩:=AL.1 hx
  exact IR (h3.1.1 e he)
 ·rw [SD h1]at h
  injection h with h
  injection h with h2 h3
  subst h2
  exact⟨ha,hpa (by omega)⟩
 ·have hp:=hpa (by omega)
  rw [SC h1 hal]at h
  by_cases hl:a.length=b.length
  ·rw [bq hl]at h
   injection h with h
   injection h with h2 h3
   subst h2
   exact⟨Sb ha hb,by simp;omega⟩
  ·rw [aW hl]at h;cases h
 ·rw [SB hn h1]at h
  injection h with h
  injection h with h2 h3
  subst h2
  exact⟨ha,hpa (by omega)⟩
def j3:ap:=⟨1,-1,-1,0,[1,2,3],false,⟨[]⟩,[],[],[],[],0⟩
def GY(x:Int):bv:=if 0<x then⟨[⟨2,-1,-1,x-1,⟨0,0,0,[]⟩⟩]⟩else⟨[⟨1,-1,-1,0,⟨0,0,0,[]⟩⟩]⟩
def jm(j:Nat)(k:List Int):ap:=⟨5,(j:Int),-1,0,[],false,⟨[]⟩,[],[],k.map GY,[],0⟩
theorem Kh:fO (GY 0) [1,2,3]=(0,0):=by kernel_rfl
theorem Kg:fO (GY 1) [1,2,3]=(1,0):=by kernel_rfl
theorem Kf:fO (GY 2) [1,2,3]=(2,0):=by kernel_rfl
theorem Ke:fO (GY 3) [1,2,3]=(3,0):=by kernel_rfl
theorem Ge{x:Int}(h:0≤x∧x≤3):fO (GY x) [1,2,3]=(x,0):=by
 have:x=0∨x=1∨x=2∨x=3:=by omega
 rcases this with rfl|rfl|rfl|rfl
 ·exact Kh
 ·exact Kg
 ·exact Kf
 ·exact Ke
theorem NH(x:Int):(GY x).Nodes.length≤5000:=by
 unfold GY
 split<;>(show 1≤5000;omega)
theorem Fq:jg j3:=⟨by decide,by decide,by decide,by decide,by decide,by decide,fun g hg=>(by cases hg),fun e he=>(by cases he)⟩
theorem Fs(j:Nat){k:List Int}(hk:k.length≤16):jg (jm j k):=
 ⟨by show 0≤5000;omega,by show 0≤5000;omega,by show 0≤5000;omega,by show 0≤5000;omega,by show(k.map GY).length≤5000;rw [List.length_map];omega,by show 0≤5000;omega,fun g hg=>(by cases hg),fun e he=>by
  obtain⟨x,_,rfl⟩:=AL.1 he
  exact NH x⟩
theorem A2{l:dh}{j:Nat}{n:ap}(hn:gj l.Nodes (j:Int)=some n)(hj:j<l.Nodes.length)(hl:l.Nodes.length≤1000)(fu:Nat):dC (fu+1) l (j:Int)=
  if n.Op=1 then(if n.A= -1∧n.B= -1 then some 1 else some 0)
  else if n.Op=2∨n.Op=7 then(if n.B=(j:Int)-1 then((dC fu) l n.B).bind (fun r2=>if((decide ((0:Int)<r2))&&(n.A==(IntKind.i64.wrap (n.B-r2))))then(((dC fu) l n.A).bind fun r3=>if(decide ((0:Int)<r3))then(some (IntKind.i64.wrap ((IntKind.i64.wrap (r3+r2))+(1:Int))))else(some (0:Int)))else(some (0:Int)))else some 0)
  else if Da n.Op=true then(if n.A=(j:Int)-1∧n.B= -1 then((dC fu) l n.A).bind (fun r1=>if(decide ((0:Int)<r1))then(some (IntKind.i64.wrap (r1+(1:Int))))else(some (0:Int)))else some 0)
  else some 0:=by
 conv=>lhs;unfold dC
 rw [aW (by simp;omega),hn]
 simp only [bj,Bj]
 by_cases h1:n.Op=1
 ·simp only [h1,ow]
  rw [bq (by decide)]
  by_cases hAB:n.A= -1∧n.B= -1
  ·rw [bq hAB,bq (by simp [hAB])]
  ·rw [aW hAB,aW (by simpa using hAB)]
 by_cases h27:n.Op=2∨n.Op=7
 ·simp only [h1,h27,ow,qK]
  rw [aW (by decide),aW (by decide),bq (by decide),eC (n:=(j:Int)-1) (by omega) (by omega)]
  by_cases hB:n.B=(j:Int)-1
  ·rw [bq (by simp [hB]),bq hB]
  ·rw [aW (by simpa using hB),aW hB]
 by_cases hop:Da n.Op=true
 ·simp only [h1,h27,hop,ow,qK]
  rw [aW (by decide),bq (by decide),eC (n:=(j:Int)-1) (by omega) (by omega)]
  by_cases hB:n.A=(j:Int)-1∧n.B= -1
  ·rw [bq (by simp [hB]),bq hB]
  ·rw [aW (by simpa using hB),aW hB]
 ·simp only [h1,h27,hop,qK]
  rw [aW (by decide),aW (by decide),aW (by decide)]
  rfl
theorem B6(l:dh):KH l 0 [] []:=⟨rfl,rfl,fun j h=>absurd h (Nat.not_lt_zero _)⟩
theorem vR{l:dh}{i:Nat}{first:List Int}{kinds:List (List Int)}(hI:KH l i first kinds){n:ap}(hn:gj l.Nodes (i:Int)=some n)(hl:l.Nodes.length≤1000)(hi:i<l.Nodes.length){s:Nat}(hs:1≤s)(hsz: ∀fu,i+1<fu→dC fu l (i:Int)=some (s:Int))(hp:Pm n i)(ho:Cy n=true)(hop:Da n.Op=true){a b:List Int}(ha:n.Op≠1→gj kinds n.A=some a)(hb:n.Op=2∨n.Op=7→gj kinds n.B=some b)(h1:n.Op=1→a=[])(h27: ¬(n.Op=2∨n.Op=7)→b=[]):
  ∀fu,i+1<fu→fz fu l (i:Int)=i0 l (i:Int) n a b:=by
 obtain⟨p1,p2,p3,p4⟩:=hp
 have hsz0:xo l (i:Int)=some (s:Int):=hsz ef (vd (yT _) (m8 (by omega)))
 have hu: ∀fu,fz (fu+1) l (i:Int)=if(decide ((0:Int)≤n.A))then(((fz fu) l n.A).bind fun r4=>if(!r4.2)then(some ([],false))else(ka (fz fu) l (i:Int) n r4.1))else(ka (fz fu) l (i:Int) n ([])):=by
  intro fu
  conv=>lhs;unfold fz
  rw [hsz0,hn]
  simp only [bj,pB,ho]
  have: ¬(s=0):=by omega
  simp [this]
 intro fu hf
 obtain⟨fu,rfl⟩: ∃k,fu=k+1:=⟨fu-1,by omega⟩
 by_cases hop1:n.Op=1
 ·obtain⟨hA,hB⟩:=p1 hop1
  rw [hu,aW (by simp [hA])]
  unfold ka
  rw [aW (by simp [hB]),h1 hop1,h27 (by omega)]
 ·obtain⟨hi0,hA0,hAi⟩:=p2 hop1
  obtain⟨fA,kA,sA,g1,g2,g3⟩:=hI.node n.A.toNat (by omega)
  have eA:((n.A.toNat:Nat):Int)=n.A:=by omega
  have hkA:gj kinds n.A=some kA:=by rw [←eA,dJ];exact g2
  rw [ha hop1]at hkA
  cases hkA
  rw [hu,bq (by simpa using hA0)]
  have e1:=g3.kinds fu (by omega)
  rw [eA]at e1
  rw [e1]
  simp only [bj,uY,vb,qK]
  unfold ka
  by_cases hop27:n.Op=2∨n.Op=7
  ·have hB:=p3 hop27
   obtain⟨fB,kB,sB,q1,q2,q3⟩:=hI.node (i-1) (by omega)
   have eB:((i-1:Nat):Int)=n.B:=by omega
   have hkB:gj kinds n.B=some kB:=by rw [←eB,dJ];exact q2
   rw [hb hop27]at hkB
   cases hkB
   rw [bq (by simp;omega)]
   have e2:=q3.kinds fu (by omega)
   rw [eB]at e2
   rw [e2]
   simp only [bj,uY,vb,qK]
  ·have hB:=p4 hop1 (fun h=>hop27 (.inl h)) (fun h=>hop27 (.inr h))
   rw [aW (by simp [hB]),h27 hop27]
theorem HD{l:dh}{i:Nat}{first:List Int}{kinds:List (List Int)}(hI:KH l i first kinds)(hn:gj l.Nodes (i:Int)=some j3)(hl:l.Nodes.length≤1000)(hi:i<l.Nodes.length):zx l i (i:Int) [1,2,3] 1:=by
 have hsz: ∀fu,i+1<fu→dC fu l (i:Int)=some ((1:Nat):Int):=fun fu hf=>by
  obtain⟨fu,rfl⟩: ∃k,fu=k+1:=⟨fu-1,by omega⟩
  rw [A2 hn hi hl]
  rfl
 refine⟨eE _,by omega,by omega,hsz,by decide,fun fu hf=>?_⟩
 rw [vR hI hn hl hi (eE _) hsz ⟨fun _=>⟨rfl,rfl⟩,fun h=>absurd rfl h,fun h=>(by rcases h with h|h<;>cases h),fun h=>absurd rfl h⟩ (by rfl) (by rfl) (a:=[]) (b:=[]) (fun h=>absurd rfl h) (fun h=>by rcases h with h|h<;>cases h) (fun _=>rfl) (fun _=>rfl) fu hf]
 unfold i0
 rw [Qn Fq rfl,bj]
 rfl
theorem HE{l:dh}{i:Nat}{first:List Int}{kinds:List (List Int)}{k:List Int}(hI:KH l (i+1) first kinds)(h0:zx l i (i:Int) [1,2,3] 1)(hk0:kinds[i]? =some [1,2,3])(hn:gj l.Nodes ((i+1:Nat):Int)=some (jm i k))(hl:l.Nodes.length≤1000)(hi:i+1<l.Nodes.length)(hk1:1≤k.length)(hk2:k.length≤16)(hk3:K3 k):zx l (i+1) (i:Int) k 2:=by
 have hsz: ∀fu,i+1+1<fu→dC fu l ((i+1:Nat):Int)=some ((2:Nat):Int):=fun fu hf=>by
  obtain⟨fu,rfl⟩: ∃k,fu=k+1:=⟨fu-1,by omega⟩
  rw [A2 hn hi hl,aW (by show¬(5:Int)=1;decide),aW (by show¬((5:Int)=2∨(5:Int)=7);decide),bq (by rfl),bq ⟨by show(i:Int)=((i+1:Nat):Int)-1;omega,rfl⟩]
  show((dC fu l (i:Int)).bind _)=_
  rw [h0.size fu (by omega),bj,bq (by decide)]
  rfl
 refine⟨by omega,by omega,by omega,hsz,hk2,fun fu hf=>?_⟩
 rw [vR hI hn hl hi (by omega) hsz ⟨fun h=>(by cases h),fun _=>⟨by omega,by show(0:Int)≤(i:Int);omega,by show(i:Int)<((i+1:Nat):Int);omega⟩,fun h=>(by rcases h with h|h<;>cases h),fun _ _ _=>rfl⟩ (by rfl) (by rfl) (a:=[1,2,3]) (b:=[]) (fun _=>by show gj kinds (i:Int)=_;rw [dJ];exact hk0) (fun h=>by rcases h with h|h<;>cases h) (fun h=>by cases h) (fun _=>rfl) fu hf]
 unfold i0
 rw [RZ (Fs i hk2) rfl,bj]
 have e1:(jm i k).Items.map (fun e=>(fO e [1,2,3]).1)=k:=by
  show(k.map GY).map _=k
  rw [List.map_map]
  conv=>rhs;rw [←List.map_id k]
  exact List.map_congr_left fun x hx=>by show(fO (GY x) [1,2,3]).1=x;rw [Ge (hk3 x hx)]
 have e2:((jm i k).Items.all fun e=>(fO e [1,2,3]).2==0)=true:=by
  rw [pq]
  intro e he
  obtain⟨x,hx,rfl⟩:=AL.1 he
  rw [Ge (hk3 x hx)];rfl
 have e3:(jm i k).Items.length=k.length:=List.length_map ..
 rw [e1,e2,e3,aW (by show¬(((5:Int)==8)&&_||decide ((16:Int)<(k.length:Int)))=true;simp;omega)]
 simp only [mZ]
 congr 2
 simp
 omega
theorem zb{l:dh}{i:Nat}{first:List Int}{kinds:List (List Int)}{k:List Int}(hI:KH l i first kinds)(h1:gj l.Nodes (i:Int)=some j3)(h2:gj l.Nodes ((i+1:Nat):Int)=some (jm i k))(hl:l.Nodes.length≤1000)(hi:i+1<l.Nodes.length)(hk1:1≤k.length)(hk2:k.length≤16)(hk3:K3 k):
  KH l (i+2) (first++[(i:Int)]++[(i:Int)]) (kinds++[[1,2,3]]++[k])∧zx l (i+1) (i:Int) k 2:=by
 have n0:=HD hI h1 hl (by omega)
 have I1:=hI.push n0
 have n1:=HE I1 n0 (by rw [ve (by rw [hI.kl];exact eE _),hI.kl,vg];rfl) h2 hl hi hk1 hk2 hk3
 exact⟨I1.push n1,n1⟩
def C9(n:ap)(a b:List Int):List Int×Bool:=match cD n a b with
 |some (k,o)=>if 16<k.length then([],false)else(k,o)
 |none=>([],false)
theorem HJ{l:dh}{i:Nat}{n:ap}{a b:List Int}(hlast:i+1=l.Nodes.length)(hl:l.Nodes.length≤1000){k:List Int}{o:Bool}(hk:cD n a b=some (k,o)):i0 l (i:Int) n a b=some (C9 n a b):=by
 unfold i0 C9
 rw [hk,bj,eC (by omega) (by omega)]
 have:((i:Int) !=(l.Nodes.length:Int)-1)=false:=by simp;omega
 rw [this,Bool.and_false,vj]
 by_cases h:16<k.length
 ·rw [bq (by simp;omega)]
  show _=some (if 16<k.length then([],false)else(k,o))
  rw [bq h]
 ·rw [aW (by simp;omega)]
  show _=some (if 16<k.length then([],false)else(k,o))
  rw [aW h]
theorem KG(n:bC):uq n []=some ⟨[⟨n.Tag,-1,-1,n.Col,n.Value⟩]⟩:=by
 unfold uq k8
 rw [bH (by simp)]
 rfl
theorem wg: ∀k:List Int,uk k=some (decide ((4:Int)∈k))
 |[]=>rfl
 |x::k=>by
  have ih:=wg k
  unfold uk at ih ⊢
  unfold qA
  by_cases h:x=4
  ·rw [bq (by simp [h])];simp [h]
  ·rw [aW (by simpa using h),ih]
   have: ¬(4:Int)=x:=fun e=>h e.symm
   simp [this]
theorem yl(nx:Nat→ap→dh→Option ((List Int)×Bool))(i:Nat)(n1:ap)(l:dh): ∀(k:List Int) (p:ap),K3 k→p.Items.length+k.length≤1000→dw nx i n1 l k p=dw nx i n1 l [] {p with Items:=p.Items++k.map GY}
 |[],p,_,_=>by simp
 |x::k,p,hk,hl=>by
  simp only [nT]at hl
  have hx:=hk x (nf ..)
  have key: ∀e2:bC,(⟨[⟨e2.Tag,-1,-1,e2.Col,e2.Value⟩]⟩:bv)=GY x→kI (dw nx i n1 l k) p e2=dw nx i n1 l [] {p with Items:=p.Items++(x::k).map GY}:=by
   intro e2 he
   unfold kI
   rw [KG,bj,he,bH (by simp;omega),bj,yl nx i n1 l k _ (fun y hy=>hk y (oO _ hy)) (by simp;omega)]
   simp
  conv=>lhs;unfold dw
  by_cases h0:0<x
  ·rw [bq (by simpa using h0)]
   refine key _ ?_
   unfold GY
   rw [bq h0,eC (by omega) (by omega)]
  ·rw [aW (by simpa using h0)]
   refine key _ ?_
   unfold GY
   rw [aW h0]
theorem J2{n:ap}(hn:jg n)(hop:n.Op=1)(hA:n.A= -1)(hB:n.B= -1)(ho:Cy n=true):du n []=some (C9 n [] []):=by
 unfold du bP
 rw [bH (by simp),bj]
 show((lR ⟨[n]⟩ ((0:Nat):Int)).bind _)=_
 have hi:gj (⟨[n]⟩:dh).Nodes ((0:Nat):Int)=some n:=rfl
 have hsz: ∀fu,0+1<fu→dC fu ⟨[n]⟩ ((0:Nat):Int)=some ((1:Nat):Int):=fun fu hf=>by
  obtain⟨fu,rfl⟩: ∃k,fu=k+1:=⟨fu-1,by omega⟩
  rw [A2 hi (by show 0<1;omega) (by show 1≤1000;omega),bq hop,bq ⟨hA,hB⟩]
  rfl
 have:=vR (B6 ⟨[n]⟩) hi (by show 1≤1000;omega) (by show 0<1;omega) (eE _) hsz ⟨fun _=>⟨hA,hB⟩,fun h=>absurd hop h,fun h=>by omega,fun h=>absurd hop h⟩ ho (by rw [hop];rfl) (a:=[]) (b:=[]) (fun h=>absurd hop h) (fun h=>by omega) (fun _=>rfl) (fun _=>rfl) ef (vd (yT _) (m8 (by omega)))
 unfold lR
 rw [this,HJ (by rfl) (by show 1≤1000;omega) (Qn hn hop),bj]
theorem jg.AB{n:ap}(h:jg n)(A B:Int):jg {n with A:=A,B:=B}:=⟨h.cond,h.kinds,h.keys,h.aggs,h.items,h.order,h.args,h.exprs⟩
theorem LS{n:ap}(hn:jg n)(hop:Da n.Op=true)(A B:Int){a b:List Int}(hal:a.length≤16)(hbl:b.length≤16):cD {n with A:=A,B:=B} a b=cD n a b:=by
 have hn' :=hn.AB A B
 rcases qe hop with h|h|h|h|h|h|h|h
 ·rw [Qn hn h,Qn hn' h]
 ·rw [SG h hal hbl,SG (n:={n with A:=A,B:=B}) h hal hbl]
 ·rw [SF h,SF (n:={n with A:=A,B:=B}) h]
 ·rw [SE hn h,SE hn' h]
 ·rw [RZ hn h,RZ hn' h]
 ·rw [SD h,SD (n:={n with A:=A,B:=B}) h]
 ·rw [SC h hal,SC (n:={n with A:=A,B:=B}) h hal]
 ·rw [SB hn h,SB hn' h]
theorem LB{n:ap}(hn:jg n)(hop:Da n.Op=true)(A B:Int){a b:List Int}(hal:a.length≤16)(hbl:b.length≤16):C9 {n with A:=A,B:=B} a b=C9 n a b:=by
 unfold C9
 rw [LS hn hop A B hal hbl]
theorem IC{n:ap}(hn:jg n)(hop:Da n.Op=true){a b:List Int}(hal:a.length≤16)(hbl:b.length≤16): ∃k o,cD n a b=some (k,o):=by
 rcases qe hop with h|h|h|h|h|h|h|h
 ·exact⟨_,_,Qn hn h⟩
 ·exact⟨_,_,SG h hal hbl⟩
 ·exact⟨_,_,SF h⟩
 ·rw [SE hn h];split<;>exact⟨_,_,rfl⟩
 ·exact⟨_,_,RZ hn h⟩
 ·exact⟨_,_,SD h⟩
 ·rw [SC h hal];split<;>exact⟨_,_,rfl⟩
 ·exact⟨_,_,SB hn h⟩
theorem ym(n:ap){a:List Int}(h:(4:Int)∈a)(t:List (List Int))(i:Nat)(l:dh):bP (a::t) i n l=some ([],false):=by
 unfold bP
 rw [wg,bj,bq (by simpa using h)]
theorem FU{n:ap}(hn:jg n)(hop:Da n.Op=true)(h1:n.Op≠1)(h27: ¬(n.Op=2∨n.Op=7))(hB:n.B= -1)(ho:Cy n=true){a:List Int}(ha:Kd a)(h3:K3 a):du n [a]=some (C9 n a []):=by
 have hal:=ha.le
 have hap:=ha.pos
 have hn' :=hn.AB 1 n.B
 unfold du bP
 rw [wg,bj,aW (by simpa using h3.four),yl _ _ _ _ _ _ h3 (by show 0+a.length≤1000;omega)]
 unfold dw
 show((gn ([]:List ap) [j3,jm 0 a]).bind fun l5=>if(((0:Nat):Int)==(0:Int))then(bP [] 1 {n with A:=IntKind.i64.wrap ((l5.length:Int)-1)} ⟨l5⟩)else(bP [] 1 {n with B:=IntKind.i64.wrap ((l5.length:Int)-1)} ⟨l5⟩))=_
 rw [bH (by simp),bj,bq (by rfl)]
 show bP [] 1 {n with A:=1} ⟨[j3,jm 0 a]⟩=_
 unfold bP
 rw [bH (by simp),bj]
 show((lR ⟨[j3,jm 0 a,{n with A:=1}]⟩ ((2:Nat):Int)).bind _)=_
 have hI:=zb (l:=⟨[j3,jm 0 a,{n with A:=1}]⟩) (k:=a) (B6 _) rfl rfl (by show 3≤1000;omega) (by show 1<3;omega) hap hal h3
 have hi:gj (⟨[j3,jm 0 a,{n with A:=1}]⟩:dh).Nodes ((2:Nat):Int)=some {n with A:=1}:=rfl
 have hsz: ∀fu,2+1<fu→dC fu ⟨[j3,jm 0 a,{n with A:=1}]⟩ ((2:Nat):Int)=some ((3:Nat):Int):=fun fu hf=>by
  obtain⟨fu,rfl⟩: ∃k,fu=k+1:=⟨fu-1,by omega⟩
  rw [A2 hi (by show 2<3;omega) (by show 3≤1000;omega),aW h1,aW h27,bq hop,bq ⟨rfl,hB⟩]
  have:=hI.2.size fu (by omega)
  show((dC fu ⟨[j3,jm 0 a,{n with A:=1}]⟩ ((0+1:Nat):Int)).bind _)=_
  rw [this]
  rfl
 have:=vR hI.1 hi (by show 3≤1000;omega) (by show 2<3;omega) (by omega) hsz ⟨fun h=>absurd h h1,fun _=>⟨by omega,by show(0:Int)≤1;omega,by show(1:Int)<((2:Nat):Int);omega⟩,fun h=>absurd h h27,fun _ _ _=>hB⟩ (by exact ho) hop (a:=a) (b:=[]) (fun _=>rfl) (fun h=>absurd h h27) (fun h=>absurd h h1) (fun _=>rfl) ef (vd (yT _) (m8 (by omega)))
 unfold lR
 obtain⟨k,o,hk⟩:=IC (n:={n with A:=1}) (a:=a) (b:=[]) hn' hop hal (by simp)
 rw [this,HJ (by rfl) (by show 3≤1000;omega) hk,bj]
 have e:=LB hn hop 1 n.B hal (b:=[]) (by simp)
 exact congrArg some e
theorem Ly{n:ap}(hn:jg n)(h27:n.Op=2∨n.Op=7)(ho:Cy n=true){a b:List Int}(ha:Kd a)(h3:K3 a)(hb:Kd b)(h3b:K3 b):du n [a,b]=some (C9 n a b):=by
 have hal:=ha.le
 have hap:=ha.pos
 have hbl:=hb.le
 have hbp:=hb.pos
 have hop:Da n.Op=true:=by rcases h27 with h|h<;>rw [h]<;>rfl
 have h1:n.Op≠1:=by omega
 have hn' :=hn.AB 1 3
 unfold du bP
 rw [wg,bj,aW (by simpa using h3.four),yl _ _ _ _ _ _ h3 (by show 0+a.length≤1000;omega)]
 unfold dw
 show((gn ([]:List ap) [j3,jm 0 a]).bind fun l5=>if(((0:Nat):Int)==(0:Int))then(bP [b] 1 {n with A:=IntKind.i64.wrap ((l5.length:Int)-1)} ⟨l5⟩)else(bP [b] 1 {n with B:=IntKind.i64.wrap ((l5.length:Int)-1)} ⟨l5⟩))=_
 rw [bH (by simp),bj,bq (by rfl)]
 show bP [b] 1 {n with A:=1} ⟨[j3,jm 0 a]⟩=_
 unfold bP
 rw [wg,bj,aW (by simpa using h3b.four),yl _ _ _ _ _ _ h3b (by show 0+b.length≤1000;omega)]
 unfold dw
 show((gn [j3,jm 0 a] [j3,jm 2 b]).bind fun l5=>if(((1:Nat):Int)==(0:Int))then(bP [] 2 {n with A:=IntKind.i64.wrap ((l5.length:Int)-1)} ⟨l5⟩)else(bP [] 2 {n with A:=1,B:=IntKind.i64.wrap ((l5.length:Int)-1)} ⟨l5⟩))=_
 rw [bH (by simp),bj,aW (by decide)]
 show bP [] 2 {n with A:=1,B:=3} ⟨[j3,jm 0 a,j3,jm 2 b]⟩=_
 unfold bP
 rw [bH (by simp),bj]
 show((lR ⟨[j3,jm 0 a,j3,jm 2 b,{n with A:=1,B:=3}]⟩ ((4:Nat):Int)).bind _)=_
 have hI:=zb (l:=⟨[j3,jm 0 a,j3,jm 2 b,{n with A:=1,B:=3}]⟩) (k:=a) (B6 _) rfl rfl (by show 5≤1000;omega) (by show 1<5;omega) hap hal h3
 have hJ:=zb (l:=⟨[j3,jm 0 a,j3,jm 2 b,{n with A:=1,B:=3}]⟩) (k:=b) hI.1 rfl rfl (by show 5≤1000;omega) (by show 3<5;omega) hbp hbl h3b
 have hi:gj (⟨[j3,jm 0 a,j3,jm 2 b,{n with A:=1,B:=3}]⟩:dh).Nodes ((4:Nat):Int)=some {n with A:=1,B:=3}:=rfl
 have hsz: ∀fu,4+1<fu→dC fu ⟨[j3,jm 0 a,j3,jm 2 b,{n with A:=1,B:=3}]⟩ ((4:Nat):Int)=some ((5:Nat):Int):=fun fu hf=>by
  obtain⟨fu,rfl⟩: ∃k,fu=k+1:=⟨fu-1,by omega⟩
  rw [A2 hi (by show 4<5;omega) (by show 5≤1000;omega),aW h1,bq h27,bq (by rfl)]
  have g1:=hJ.2.size fu (by omega)
  have g2:=hI.2.size fu (by omega)
  show((dC fu ⟨[j3,jm 0 a,j3,jm 2 b,{n with A:=1,B:=3}]⟩ ((2+1:Nat):Int)).bind _)=_
  rw [g1,bj,bq (show((decide ((0:Int)<((2:Nat):Int)))&&((1:Int)==(IntKind.i64.wrap ((3:Int)-((2:Nat):Int)))))=true from by decide)]
  show((dC fu ⟨[j3,jm 0 a,j3,jm 2 b,{n with A:=1,B:=3}]⟩ ((0+1:Nat):Int)).bind _)=_
  rw [g2]
  rfl
 have:=vR hJ.1 hi (by show 5≤1000;omega) (by show 4<5;omega) (by omega) hsz ⟨fun h=>absurd h h1,fun _=>⟨by omega,by show(0:Int)≤1;omega,by show(1:Int)<((4:Nat):Int);omega⟩,fun _=>by show(3:Int)=((4:Nat):Int)-1;omega,fun _ h2 h7=>(by rcases h27 with h|h;exact absurd h h2;exact absurd h h7)⟩ (by exact ho) hop (a:=a) (b:=b) (fun _=>rfl) (fun _=>rfl) (fun h=>absurd h h1) (fun h=>absurd h27 h) ef (vd (yT _) (m8 (by omega)))
 unfold lR
 obtain⟨k,o,hk⟩:=IC (n:={n with A:=1,B:=3}) (a:=a) (b:=b) hn' hop hal hbl
 rw [this,HJ (by rfl) (by show 5≤1000;omega) hk,bj]
 have e:=LB hn hop 1 3 hal hbl
 exact congrArg some e
end Go.Proofs.YtdohlidddcgfjaaGreat

