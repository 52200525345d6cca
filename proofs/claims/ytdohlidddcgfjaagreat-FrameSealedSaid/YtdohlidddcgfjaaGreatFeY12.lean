/- bO of this claim: Y12. -/
import Derived.Test.YtdohlidddcgfjaaGreatFeY11
import Derived.KernelRfl
set_option linter.all false
namespace Go.Proofs.YtdohlidddcgfjaaGreat
open Go

structure Kd(k:List Int):Prop where
 pos:1<=k.length
 le:k.length<=16
 vals: ∀x∈k,0<=x/\x<=4
def K3(k:List Int):Prop:= ∀x∈k,0<=x/\x<=3
def Kd.k3{k:List Int}(h:Kd k)(h4:(4:Int)∉k):K3 k:=fun x X=>by
 have:=h.vals x X
 have:x≠4:=fun e=>h4 (e▸X)
 omega
def K3.four{k:List Int}(h:K3 k):(4:Int)∉k:=fun X=>by have:=h 4 X;omega
def Ma{e:aR}{kinds:List Int}(h:(fM e kinds).2=0):0<=(fM e kinds).1/\(fM e kinds).1<=3:=by
 unfold fM at h ⊢
 by_cases Y:mY e.Nodes=true
 ·by_cases H:PH kinds=true
  ·by_cases s:qz kinds.length e.Nodes=true
   ·simp only [Y,H,s,jl]at h ⊢
    cases D:qg e.Nodes with
    |none=>simp [D]at h
    |some t=>
     cases hk:kd kinds t with
     |none=>simp [D,hk]at h
     |some k=>
      have:=Mb (fun k hk=>Gu H hk) t (nl D).1 hk
      simp only [D,hk,bg]
      unfold k4 at this
      omega
   ·simp [Y,H,s]at h
  ·simp [Y,H]at h
 ·simp [Y]at h
def YQ{g:fI}{a:List Int}(h:(Li g a).2=true):0<=(Li g a).1/\(Li g a).1<=3:=by
 obtain⟨e1,e2⟩:=Dz g a
 rw [h]at e1
 rw [<-e2 e1]
 unfold AN at e1 ⊢
 by_cases Y:g.Tag=1
 ·simp [Y]
 by_cases s:g.Tag=3
 ·simp [s]
 by_cases h45:g.Tag=4\/g.Tag=5
 ·rw [aV Y,aV s,bo h45]at e1 ⊢
  simp only [nP,qQ]at e1
  exact Ma e1.1.1
 ·rw [aV Y,aV s,aV h45]
  simp
def Wd{a b:List Int}(ha:K3 a)(W:K3 b):K3 (List.zipWith FX a b):=by
 intro z hz
 obtain⟨i,hi,hzi⟩:=List.getElem_of_mem hz
 rw [List.getElem_zipWith]at hzi
 rw [<-hzi]
 unfold FX
 split
 ·exact W _ (EA _)
 ·exact ha _ (EA _)
def UM{a:List Int}{e:Int}(h:wh a e=false):Ou a e∈a:=by
 simp [wh]at h
 unfold Ou
 rw [sG (by omega)]
 exact EA _
def Ti{n:aa}{a b k:List Int}(hn:ju n)(hop:E6 n.Op=true)(ha:K3 a)(W:K3 b)(hal:a.length<=16)(hbl:b.length<=16)(hpa:n.Op≠1->1<=a.length)(h:cI n a b=some (k,true)):K3 k/\1<=k.length:=by
 rcases qm hop with Y|Y|Y|Y|Y|Y|Y|Y
 ·rw [Uq hn Y]at h
  injection h with h
  injection h with H s
  subst H
  simp only [nP,lw,mg]at s
  exact⟨fun x X=>by have:=s.1.1.1.1 x X;omega,by omega⟩
 ·have hp:=hpa (by omega)
  rw [Wu Y hal hbl]at h
  injection h with h
  injection h with H s
  subst H
  exact⟨fun x X=>(xV.1 X).elim (ha x) (W x),by simp;omega⟩
 ·rw [Wt Y]at h
  injection h with h
  injection h with H s
  subst H
  exact⟨ha,hpa (by omega)⟩
 ·rw [Ws hn Y]at h
  cases hany:n.Keys.any (wh a)with
  |true=>rw [hany,bo rfl]at h;cases h
  |false=>
   rw [hany,aV (by simp)]at h
   injection h with h
   injection h with H s
   subst H
   simp only [nP,lw,mg]at s
   refine⟨fun x X=>?_,by simp;omega⟩
   rcases xV.1 X with X|X
   ·obtain⟨e,he,rfl⟩:=B5.1 X
    exact ha _ (UM (by have:=List.any_eq_false.1 hany e he;simpa using this))
   ·obtain⟨g,V,rfl⟩:=B5.1 X
    exact YQ (s.1.1.1 g V)
 ·rw [V2 hn Y]at h
  injection h with h
  injection h with H s
  subst H
  simp only [nP,lw,mg,qQ]at s
  refine⟨fun x X=>?_,by simp;omega⟩
  obtain⟨e,he,rfl⟩:=B5.1 X
  exact Ma (s.1.1 e he)
 ·rw [Wr Y]at h
  injection h with h
  injection h with H s
  subst H
  exact⟨ha,hpa (by omega)⟩
 ·have hp:=hpa (by omega)
  rw [Wq Y hal]at h
  by_cases hl:a.length=b.length
  ·rw [bo hl]at h
   injection h with h
   injection h with H s
   subst H
   exact⟨Wd ha W,by simp;omega⟩
  ·rw [aV hl]at h;cases h
 ·rw [Wp hn Y]at h
  injection h with h
  injection h with H s
  subst H
  exact⟨ha,hpa (by omega)⟩
def kg:aa:=⟨1,-1,-1,0,[1,2,3],false,⟨[]⟩,[],[],[],[],0⟩
def Jt(x:Int):aR:=if 0<x then⟨[⟨2,-1,-1,x-1,⟨0,0,0,[]⟩⟩]⟩else⟨[⟨1,-1,-1,0,⟨0,0,0,[]⟩⟩]⟩
def jz(j:Nat)(k:List Int):aa:=⟨5,(j:Int),-1,0,[],false,⟨[]⟩,[],[],k.map Jt,[],0⟩
def NT:fM (Jt 0) [1,2,3]=(0,0):=by kernel_rfl
def NR:fM (Jt 1) [1,2,3]=(1,0):=by kernel_rfl
def NQ:fM (Jt 2) [1,2,3]=(2,0):=by kernel_rfl
def NP:fM (Jt 3) [1,2,3]=(3,0):=by kernel_rfl
def IA{x:Int}(h:0<=x/\x<=3):fM (Jt x) [1,2,3]=(x,0):=by
 have:x=0\/x=1\/x=2\/x=3:=by omega
 rcases this with rfl|rfl|rfl|rfl
 ·exact NT
 ·exact NR
 ·exact NQ
 ·exact NP
def RW(x:Int):(Jt x).Nodes.length<=5000:=by
 unfold Jt
 split<;>(show 1<=5000;omega)
def HJ:ju kg:=⟨by decide,by decide,by decide,by decide,by decide,by decide,fun g V=>(by cases V),fun e he=>(by cases he)⟩
def HK(j:Nat){k:List Int}(hk:k.length<=16):ju (jz j k):=
 ⟨by show 0<=5000;omega,by show 0<=5000;omega,by show 0<=5000;omega,by show 0<=5000;omega,by show(k.map Jt).length<=5000;rw [Ez];omega,by show 0<=5000;omega,fun g V=>(by cases V),fun e he=>by
  obtain⟨x,_,rfl⟩:=B5.1 he
  exact RW x⟩
def Cv{l:gO}{j:Nat}{n:aa}(hn:gG l.Nodes (j:Int)=some n)(hj:j<l.Nodes.length)(hl:l.Nodes.length<=1000)(fu:Nat):dy (fu+1) l (j:Int)=
  if n.Op=1 then(if n.A= -1/\n.B= -1 then some 1 else some 0)
  else if n.Op=2\/n.Op=7 then(if n.B=(j:Int)-1 then((dy fu) l n.B).bind (fun r2=>if((decide ((0:Int)<r2))&&(n.A==(IntKind.i64.wrap (n.B-r2))))then(((dy fu) l n.A).bind fun r3=>if(decide ((0:Int)<r3))then(some (IntKind.i64.wrap ((IntKind.i64.wrap (r3+r2))+(1:Int))))else(some (0:Int)))else(some (0:Int)))else some 0)
  else if E6 n.Op=true then(if n.A=(j:Int)-1/\n.B= -1 then((dy fu) l n.A).bind (fun r1=>if(decide ((0:Int)<r1))then(some (IntKind.i64.wrap (r1+(1:Int))))else(some (0:Int)))else some 0)
  else some 0:=by
 conv=>lhs;unfold dy
 rw [aV (by simp;omega),hn]
 simp only [bg,CN]
 by_cases Y:n.Op=1
 ·simp only [Y,jl]
  rw [bo (by decide)]
  by_cases hAB:n.A= -1/\n.B= -1
  ·rw [bo hAB,bo (by simp [hAB])]
  ·rw [aV hAB,aV (by simpa using hAB)]
 by_cases h27:n.Op=2\/n.Op=7
 ·simp only [Y,h27,jl,kQ]
  rw [aV (by decide),aV (by decide),bo (by decide),ew (n:=(j:Int)-1) (by omega) (by omega)]
  by_cases hB:n.B=(j:Int)-1
  ·rw [bo (by simp [hB]),bo hB]
  ·rw [aV (by simpa using hB),aV hB]
 by_cases hop:E6 n.Op=true
 ·simp only [Y,h27,hop,jl,kQ]
  rw [aV (by decide),bo (by decide),ew (n:=(j:Int)-1) (by omega) (by omega)]
  by_cases hB:n.A=(j:Int)-1/\n.B= -1
  ·rw [bo (by simp [hB]),bo hB]
  ·rw [aV (by simpa using hB),aV hB]
 ·simp only [Y,h27,hop,kQ]
  rw [aV (by decide),aV (by decide),aV (by decide)]
  rfl
def DM(l:gO):Oe l 0 [] []:=⟨rfl,rfl,fun j h=>absurd h (Nat.not_lt_zero _)⟩
def wo{l:gO}{i:Nat}{first:List Int}{kinds:List (List Int)}(hI:Oe l i first kinds){n:aa}(hn:gG l.Nodes (i:Int)=some n)(hl:l.Nodes.length<=1000)(hi:i<l.Nodes.length){h3:Nat}(hs:1<=h3)(hsz: ∀fu,i+1<fu->dy fu l (i:Int)=some (h3:Int))(hp:S7 n i)(ho:Ee n=true)(hop:E6 n.Op=true){a b:List Int}(ha:n.Op≠1->gG kinds n.A=some a)(W:n.Op=2\/n.Op=7->gG kinds n.B=some b)(Y:n.Op=1->a=[])(h27: ¬(n.Op=2\/n.Op=7)->b=[]):
  ∀fu,i+1<fu->gw fu l (i:Int)=ko l (i:Int) n a b:=by
 obtain⟨p1,p2,p3,p4⟩:=hp
 have hsz0:CM l (i:Int)=some (h3:Int):=hsz eQ (vK (z8 _) (m8 (by omega)))
 have hu: ∀fu,gw (fu+1) l (i:Int)=if(decide ((0:Int)<=n.A))then(((gw fu) l n.A).bind fun r4=>if(!r4.2)then(some ([],false))else(lQ (gw fu) l (i:Int) n r4.1))else(lQ (gw fu) l (i:Int) n ([])):=by
  intro fu
  conv=>lhs;unfold gw
  rw [hsz0,hn]
  simp only [bg,pL,ho]
  have: ¬(h3=0):=by omega
  simp [this]
 intro fu hf
 obtain⟨fu,rfl⟩: ∃k,fu=k+1:=⟨fu-1,by omega⟩
 by_cases hop1:n.Op=1
 ·obtain⟨hA,hB⟩:=p1 hop1
  rw [hu,aV (by simp [hA])]
  unfold lQ
  rw [aV (by simp [hB]),Y hop1,h27 (by omega)]
 ·obtain⟨hi0,hA0,hAi⟩:=p2 hop1
  obtain⟨fA,kA,sA,g1,g2,g3⟩:=hI.node n.A.toNat (by omega)
  have eA:((n.A.toNat:Nat):Int)=n.A:=by omega
  have hkA:gG kinds n.A=some kA:=by rw [<-eA,eK];exact g2
  rw [ha hop1]at hkA
  cases hkA
  rw [hu,bo (by simpa using hA0)]
  have e1:=g3.kinds fu (by omega)
  rw [eA]at e1
  rw [e1]
  simp only [bg,rk,nj,kQ]
  unfold lQ
  by_cases hop27:n.Op=2\/n.Op=7
  ·have hB:=p3 hop27
   obtain⟨fB,kB,sB,q1,q2,q3⟩:=hI.node (i-1) (by omega)
   have eB:((i-1:Nat):Int)=n.B:=by omega
   have hkB:gG kinds n.B=some kB:=by rw [<-eB,eK];exact q2
   rw [W hop27]at hkB
   cases hkB
   rw [bo (by simp;omega)]
   have e2:=q3.kinds fu (by omega)
   rw [eB]at e2
   rw [e2]
   simp only [bg,rk,nj,kQ]
  ·have hB:=p4 hop1 (fun h=>hop27 (.inl h)) (fun h=>hop27 (.inr h))
   rw [aV (by simp [hB]),h27 hop27]
def Kr{l:gO}{i:Nat}{first:List Int}{kinds:List (List Int)}(hI:Oe l i first kinds)(hn:gG l.Nodes (i:Int)=some kg)(hl:l.Nodes.length<=1000)(hi:i<l.Nodes.length):AQ l i (i:Int) [1,2,3] 1:=by
 have hsz: ∀fu,i+1<fu->dy fu l (i:Int)=some ((1:Nat):Int):=fun fu hf=>by
  obtain⟨fu,rfl⟩: ∃k,fu=k+1:=⟨fu-1,by omega⟩
  rw [Cv hn hi hl]
  rfl
 refine⟨dY _,by omega,by omega,hsz,by decide,fun fu hf=>?_⟩
 rw [wo hI hn hl hi (dY _) hsz ⟨fun _=>⟨rfl,rfl⟩,fun h=>absurd rfl h,fun h=>(by rcases h with h|h<;>cases h),fun h=>absurd rfl h⟩ (by rfl) (by rfl) (a:=[]) (b:=[]) (fun h=>absurd rfl h) (fun h=>by rcases h with h|h<;>cases h) (fun _=>rfl) (fun _=>rfl) fu hf]
 unfold ko
 rw [Uq HJ rfl,bg]
 rfl
def Ks{l:gO}{i:Nat}{first:List Int}{kinds:List (List Int)}{k:List Int}(hI:Oe l (i+1) first kinds)(h0:AQ l i (i:Int) [1,2,3] 1)(hk0:kinds[i]? =some [1,2,3])(hn:gG l.Nodes ((i+1:Nat):Int)=some (jz i k))(hl:l.Nodes.length<=1000)(hi:i+1<l.Nodes.length)(hk1:1<=k.length)(hk2:k.length<=16)(hk3:K3 k):AQ l (i+1) (i:Int) k 2:=by
 have hsz: ∀fu,i+1+1<fu->dy fu l ((i+1:Nat):Int)=some ((2:Nat):Int):=fun fu hf=>by
  obtain⟨fu,rfl⟩: ∃k,fu=k+1:=⟨fu-1,by omega⟩
  rw [Cv hn hi hl,aV (by show¬(5:Int)=1;decide),aV (by show¬((5:Int)=2\/(5:Int)=7);decide),bo (by rfl),bo ⟨by show(i:Int)=((i+1:Nat):Int)-1;omega,rfl⟩]
  show((dy fu l (i:Int)).bind _)=_
  rw [h0.size fu (by omega),bg,bo (by decide)]
  rfl
 refine⟨by omega,by omega,by omega,hsz,hk2,fun fu hf=>?_⟩
 rw [wo hI hn hl hi (by omega) hsz ⟨fun h=>(by cases h),fun _=>⟨by omega,by show(0:Int)<=(i:Int);omega,by show(i:Int)<((i+1:Nat):Int);omega⟩,fun h=>(by rcases h with h|h<;>cases h),fun _ _ _=>rfl⟩ (by rfl) (by rfl) (a:=[1,2,3]) (b:=[]) (fun _=>by show gG kinds (i:Int)=_;rw [eK];exact hk0) (fun h=>by rcases h with h|h<;>cases h) (fun h=>by cases h) (fun _=>rfl) fu hf]
 unfold ko
 rw [V2 (HK i hk2) rfl,bg]
 have e1:(jz i k).Items.map (fun e=>(fM e [1,2,3]).1)=k:=by
  show(k.map Jt).map _=k
  rw [List.map_map]
  conv=>rhs;rw [<-List.map_id k]
  exact Hj fun x X=>by show(fM (Jt x) [1,2,3]).1=x;rw [IA (hk3 x X)]
 have e2:((jz i k).Items.all fun e=>(fM e [1,2,3]).2==0)=true:=by
  rw [lw]
  intro e he
  obtain⟨x,X,rfl⟩:=B5.1 he
  rw [IA (hk3 x X)];rfl
 have e3:(jz i k).Items.length=k.length:=Ez ..
 rw [e1,e2,e3,aV (by show¬(((5:Int)==8)&&_||decide ((16:Int)<(k.length:Int)))=true;simp;omega)]
 simp only [ni]
 congr 2
 simp
 omega
def Ao{l:gO}{i:Nat}{first:List Int}{kinds:List (List Int)}{k:List Int}(hI:Oe l i first kinds)(Y:gG l.Nodes (i:Int)=some kg)(H:gG l.Nodes ((i+1:Nat):Int)=some (jz i k))(hl:l.Nodes.length<=1000)(hi:i+1<l.Nodes.length)(hk1:1<=k.length)(hk2:k.length<=16)(hk3:K3 k):
  Oe l (i+2) (first++[(i:Int)]++[(i:Int)]) (kinds++[[1,2,3]]++[k])/\AQ l (i+1) (i:Int) k 2:=by
 have n0:=Kr hI Y hl (by omega)
 have I1:=hI.push n0
 have n1:=Ks I1 n0 (by rw [vz (by rw [hI.kl];exact dY _),hI.kl,vn];rfl) H hl hi hk1 hk2 hk3
 exact⟨I1.push n1,n1⟩
def E5(n:aa)(a b:List Int):List Int×Bool:=match cI n a b with
 |some (k,o)=>if 16<k.length then([],false)else(k,o)
 |none=>([],false)
def Ky{l:gO}{i:Nat}{n:aa}{a b:List Int}(hlast:i+1=l.Nodes.length)(hl:l.Nodes.length<=1000){k:List Int}{o:Bool}(hk:cI n a b=some (k,o)):ko l (i:Int) n a b=some (E5 n a b):=by
 unfold ko E5
 rw [hk,bg,ew (by omega) (by omega)]
 have:((i:Int) !=(l.Nodes.length:Int)-1)=false:=by simp;omega
 rw [this,Bool.and_false,tu]
 by_cases h:16<k.length
 ·rw [bo (by simp;omega)]
  show _=some (if 16<k.length then([],false)else(k,o))
  rw [bo h]
 ·rw [aV (by simp;omega)]
  show _=some (if 16<k.length then([],false)else(k,o))
  rw [aV h]
def Od(n:ap):yj n []=some ⟨[⟨n.Tag,-1,-1,n.Col,n.Value⟩]⟩:=by
 unfold yj tH
 rw [cE (by simp)]
 rfl
def wS: ∀k:List Int,yh k=some (decide ((4:Int)∈k))
 |[]=>rfl
 |x::k=>by
  have ih:=wS k
  unfold yh at ih ⊢
  unfold tF
  by_cases h:x=4
  ·rw [bo (by simp [h])];simp [h]
  ·rw [aV (by simpa using h),ih]
   have: ¬(4:Int)=x:=fun e=>h e.symm
   simp [this]
def ze(nx:Nat->aa->gO->Option ((List Int)×Bool))(i:Nat)(n1:aa)(l:gO): ∀(k:List Int) (p:aa),K3 k->p.Items.length+k.length<=1000->dL nx i n1 l k p=dL nx i n1 l [] {p with Items:=p.Items++k.map Jt}
 |[],p,_,_=>by simp
 |x::k,p,hk,hl=>by
  simp only [iR]at hl
  have X:=hk x (nQ ..)
  have key: ∀e2:ap,(⟨[⟨e2.Tag,-1,-1,e2.Col,e2.Value⟩]⟩:aR)=Jt x->m4 (dL nx i n1 l k) p e2=dL nx i n1 l [] {p with Items:=p.Items++(x::k).map Jt}:=by
   intro e2 he
   unfold m4
   rw [Od,bg,he,cE (by simp;omega),bg,ze nx i n1 l k _ (fun y hy=>hk y (o4 _ hy)) (by simp;omega)]
   simp
  conv=>lhs;unfold dL
  by_cases h0:0<x
  ·rw [bo (by simpa using h0)]
   refine key _ ?_
   unfold Jt
   rw [bo h0,ew (by omega) (by omega)]
  ·rw [aV (by simpa using h0)]
   refine key _ ?_
   unfold Jt
   rw [aV h0]
def NB{n:aa}(hn:ju n)(hop:n.Op=1)(hA:n.A= -1)(hB:n.B= -1)(ho:Ee n=true):dv n []=some (E5 n [] []):=by
 unfold dv bS
 rw [cE (by simp),bg]
 show((nw ⟨[n]⟩ ((0:Nat):Int)).bind _)=_
 have hi:gG (⟨[n]⟩:gO).Nodes ((0:Nat):Int)=some n:=rfl
 have hsz: ∀fu,0+1<fu->dy fu ⟨[n]⟩ ((0:Nat):Int)=some ((1:Nat):Int):=fun fu hf=>by
  obtain⟨fu,rfl⟩: ∃k,fu=k+1:=⟨fu-1,by omega⟩
  rw [Cv hi (by show 0<1;omega) (by show 1<=1000;omega),bo hop,bo ⟨hA,hB⟩]
  rfl
 have:=wo (DM ⟨[n]⟩) hi (by show 1<=1000;omega) (by show 0<1;omega) (dY _) hsz ⟨fun _=>⟨hA,hB⟩,fun h=>absurd hop h,fun h=>by omega,fun h=>absurd hop h⟩ ho (by rw [hop];rfl) (a:=[]) (b:=[]) (fun h=>absurd hop h) (fun h=>by omega) (fun _=>rfl) (fun _=>rfl) eQ (vK (z8 _) (m8 (by omega)))
 unfold nw
 rw [this,Ky (by rfl) (by show 1<=1000;omega) (Uq hn hop),bg]
def ju.AB{n:aa}(h:ju n)(A B:Int):ju {n with A:=A,B:=B}:=⟨h.cond,h.kinds,h.keys,h.aggs,h.items,h.order,h.args,h.exprs⟩
def PF{n:aa}(hn:ju n)(hop:E6 n.Op=true)(A B:Int){a b:List Int}(hal:a.length<=16)(hbl:b.length<=16):cI {n with A:=A,B:=B} a b=cI n a b:=by
 have hn' :=hn.AB A B
 rcases qm hop with h|h|h|h|h|h|h|h
 ·rw [Uq hn h,Uq hn' h]
 ·rw [Wu h hal hbl,Wu (n:={n with A:=A,B:=B}) h hal hbl]
 ·rw [Wt h,Wt (n:={n with A:=A,B:=B}) h]
 ·rw [Ws hn h,Ws hn' h]
 ·rw [V2 hn h,V2 hn' h]
 ·rw [Wr h,Wr (n:={n with A:=A,B:=B}) h]
 ·rw [Wq h hal,Wq (n:={n with A:=A,B:=B}) h hal]
 ·rw [Wp hn h,Wp hn' h]
def Po{n:aa}(hn:ju n)(hop:E6 n.Op=true)(A B:Int){a b:List Int}(hal:a.length<=16)(hbl:b.length<=16):E5 {n with A:=A,B:=B} a b=E5 n a b:=by
 unfold E5
 rw [PF hn hop A B hal hbl]
def LL{n:aa}(hn:ju n)(hop:E6 n.Op=true){a b:List Int}(hal:a.length<=16)(hbl:b.length<=16): ∃k o,cI n a b=some (k,o):=by
 rcases qm hop with h|h|h|h|h|h|h|h
 ·exact⟨_,_,Uq hn h⟩
 ·exact⟨_,_,Wu h hal hbl⟩
 ·exact⟨_,_,Wt h⟩
 ·rw [Ws hn h];split<;>exact⟨_,_,rfl⟩
 ·exact⟨_,_,V2 hn h⟩
 ·exact⟨_,_,Wr h⟩
 ·rw [Wq h hal];split<;>exact⟨_,_,rfl⟩
 ·exact⟨_,_,Wp hn h⟩
def zf(n:aa){a:List Int}(h:(4:Int)∈a)(t:List (List Int))(i:Nat)(l:gO):bS (a::t) i n l=some ([],false):=by
 unfold bS
 rw [wS,bg,bo (by simpa using h)]
def Ii{n:aa}(hn:ju n)(hop:E6 n.Op=true)(Y:n.Op≠1)(h27: ¬(n.Op=2\/n.Op=7))(hB:n.B= -1)(ho:Ee n=true){a:List Int}(ha:Kd a)(s:K3 a):dv n [a]=some (E5 n a []):=by
 have hal:=ha.le
 have hap:=ha.pos
 have hn' :=hn.AB 1 n.B
 unfold dv bS
 rw [wS,bg,aV (by simpa using s.four),ze _ _ _ _ _ _ s (by show 0+a.length<=1000;omega)]
 unfold dL
 show((jh ([]:List aa) [kg,jz 0 a]).bind fun l5=>if(((0:Nat):Int)==(0:Int))then(bS [] 1 {n with A:=IntKind.i64.wrap ((l5.length:Int)-1)} ⟨l5⟩)else(bS [] 1 {n with B:=IntKind.i64.wrap ((l5.length:Int)-1)} ⟨l5⟩))=_
 rw [cE (by simp),bg,bo (by rfl)]
 show bS [] 1 {n with A:=1} ⟨[kg,jz 0 a]⟩=_
 unfold bS
 rw [cE (by simp),bg]
 show((nw ⟨[kg,jz 0 a,{n with A:=1}]⟩ ((2:Nat):Int)).bind _)=_
 have hI:=Ao (l:=⟨[kg,jz 0 a,{n with A:=1}]⟩) (k:=a) (DM _) rfl rfl (by show 3<=1000;omega) (by show 1<3;omega) hap hal s
 have hi:gG (⟨[kg,jz 0 a,{n with A:=1}]⟩:gO).Nodes ((2:Nat):Int)=some {n with A:=1}:=rfl
 have hsz: ∀fu,2+1<fu->dy fu ⟨[kg,jz 0 a,{n with A:=1}]⟩ ((2:Nat):Int)=some ((3:Nat):Int):=fun fu hf=>by
  obtain⟨fu,rfl⟩: ∃k,fu=k+1:=⟨fu-1,by omega⟩
  rw [Cv hi (by show 2<3;omega) (by show 3<=1000;omega),aV Y,aV h27,bo hop,bo ⟨rfl,hB⟩]
  have:=hI.2.size fu (by omega)
  show((dy fu ⟨[kg,jz 0 a,{n with A:=1}]⟩ ((0+1:Nat):Int)).bind _)=_
  rw [this]
  rfl
 have:=wo hI.1 hi (by show 3<=1000;omega) (by show 2<3;omega) (by omega) hsz ⟨fun h=>absurd h Y,fun _=>⟨by omega,by show(0:Int)<=1;omega,by show(1:Int)<((2:Nat):Int);omega⟩,fun h=>absurd h h27,fun _ _ _=>hB⟩ (by exact ho) hop (a:=a) (b:=[]) (fun _=>rfl) (fun h=>absurd h h27) (fun h=>absurd h Y) (fun _=>rfl) eQ (vK (z8 _) (m8 (by omega)))
 unfold nw
 obtain⟨k,o,hk⟩:=LL (n:={n with A:=1}) (a:=a) (b:=[]) hn' hop hal (by simp)
 rw [this,Ky (by rfl) (by show 3<=1000;omega) hk,bg]
 have e:=Po hn hop 1 n.B hal (b:=[]) (by simp)
 exact congrArg some e
def Pl{n:aa}(hn:ju n)(h27:n.Op=2\/n.Op=7)(ho:Ee n=true){a b:List Int}(ha:Kd a)(s:K3 a)(W:Kd b)(h3b:K3 b):dv n [a,b]=some (E5 n a b):=by
 have hal:=ha.le
 have hap:=ha.pos
 have hbl:=W.le
 have hbp:=W.pos
 have hop:E6 n.Op=true:=by rcases h27 with h|h<;>rw [h]<;>rfl
 have Y:n.Op≠1:=by omega
 have hn' :=hn.AB 1 3
 unfold dv bS
 rw [wS,bg,aV (by simpa using s.four),ze _ _ _ _ _ _ s (by show 0+a.length<=1000;omega)]
 unfold dL
 show((jh ([]:List aa) [kg,jz 0 a]).bind fun l5=>if(((0:Nat):Int)==(0:Int))then(bS [b] 1 {n with A:=IntKind.i64.wrap ((l5.length:Int)-1)} ⟨l5⟩)else(bS [b] 1 {n with B:=IntKind.i64.wrap ((l5.length:Int)-1)} ⟨l5⟩))=_
 rw [cE (by simp),bg,bo (by rfl)]
 show bS [b] 1 {n with A:=1} ⟨[kg,jz 0 a]⟩=_
 unfold bS
 rw [wS,bg,aV (by simpa using h3b.four),ze _ _ _ _ _ _ h3b (by show 0+b.length<=1000;omega)]
 unfold dL
 show((jh [kg,jz 0 a] [kg,jz 2 b]).bind fun l5=>if(((1:Nat):Int)==(0:Int))then(bS [] 2 {n with A:=IntKind.i64.wrap ((l5.length:Int)-1)} ⟨l5⟩)else(bS [] 2 {n with A:=1,B:=IntKind.i64.wrap ((l5.length:Int)-1)} ⟨l5⟩))=_
 rw [cE (by simp),bg,aV (by decide)]
 show bS [] 2 {n with A:=1,B:=3} ⟨[kg,jz 0 a,kg,jz 2 b]⟩=_
 unfold bS
 rw [cE (by simp),bg]
 show((nw ⟨[kg,jz 0 a,kg,jz 2 b,{n with A:=1,B:=3}]⟩ ((4:Nat):Int)).bind _)=_
 have hI:=Ao (l:=⟨[kg,jz 0 a,kg,jz 2 b,{n with A:=1,B:=3}]⟩) (k:=a) (DM _) rfl rfl (by show 5<=1000;omega) (by show 1<5;omega) hap hal s
 have hJ:=Ao (l:=⟨[kg,jz 0 a,kg,jz 2 b,{n with A:=1,B:=3}]⟩) (k:=b) hI.1 rfl rfl (by show 5<=1000;omega) (by show 3<5;omega) hbp hbl h3b
 have hi:gG (⟨[kg,jz 0 a,kg,jz 2 b,{n with A:=1,B:=3}]⟩:gO).Nodes ((4:Nat):Int)=some {n with A:=1,B:=3}:=rfl
 have hsz: ∀fu,4+1<fu->dy fu ⟨[kg,jz 0 a,kg,jz 2 b,{n with A:=1,B:=3}]⟩ ((4:Nat):Int)=some ((5:Nat):Int):=fun fu hf=>by
  obtain⟨fu,rfl⟩: ∃k,fu=k+1:=⟨fu-1,by omega⟩
  rw [Cv hi (by show 4<5;omega) (by show 5<=1000;omega),aV Y,bo h27,bo (by rfl)]
  have g1:=hJ.2.size fu (by omega)
  have g2:=hI.2.size fu (by omega)
  show((dy fu ⟨[kg,jz 0 a,kg,jz 2 b,{n with A:=1,B:=3}]⟩ ((2+1:Nat):Int)).bind _)=_
  rw [g1,bg,bo (show((decide ((0:Int)<((2:Nat):Int)))&&((1:Int)==(IntKind.i64.wrap ((3:Int)-((2:Nat):Int)))))=true from by decide)]
  show((dy fu ⟨[kg,jz 0 a,kg,jz 2 b,{n with A:=1,B:=3}]⟩ ((0+1:Nat):Int)).bind _)=_
  rw [g2]
  rfl
 have:=wo hJ.1 hi (by show 5<=1000;omega) (by show 4<5;omega) (by omega) hsz ⟨fun h=>absurd h Y,fun _=>⟨by omega,by show(0:Int)<=1;omega,by show(1:Int)<((4:Nat):Int);omega⟩,fun _=>by show(3:Int)=((4:Nat):Int)-1;omega,fun _ H h7=>(by rcases h27 with h|h;exact absurd h H;exact absurd h h7)⟩ (by exact ho) hop (a:=a) (b:=b) (fun _=>rfl) (fun _=>rfl) (fun h=>absurd h Y) (fun h=>absurd h27 h) eQ (vK (z8 _) (m8 (by omega)))
 unfold nw
 obtain⟨k,o,hk⟩:=LL (n:={n with A:=1,B:=3}) (a:=a) (b:=b) hn' hop hal hbl
 rw [this,Ky (by rfl) (by show 5<=1000;omega) hk,bg]
 have e:=Po hn hop 1 3 hal hbl
 exact congrArg some e
end Go.Proofs.YtdohlidddcgfjaaGreat

