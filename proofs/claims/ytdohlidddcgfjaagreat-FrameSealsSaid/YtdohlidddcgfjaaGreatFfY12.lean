/- bS of this claim: Y12. -/
import Derived.Test.YtdohlidddcgfjaaGreatFfY11
import Derived.KernelRfl
set_option linter.all false
namespace Go.Proofs.YtdohlidddcgfjaaGreat
open Go

structure Kd(k:List Int):Prop where
 pos:1<=k.length
 le:k.length<=16
 vals: ∀x∈k,0<=x/\x<=4
def K3(k:List Int):Prop:= ∀x∈k,0<=x/\x<=3
def Kd.k3{k:List Int}(h:Kd k)(h4:(4:Int)∉k):K3 k:=fun x V=>by
 have:=h.vals x V
 have:x≠4:=fun e=>h4 (e▸V)
 omega
def K3.four{k:List Int}(h:K3 k):(4:Int)∉k:=fun V=>by have:=h 4 V;omega
def OK{e:aO}{kinds:List Int}(h:(gp e kinds).2=0):0<=(gp e kinds).1/\(gp e kinds).1<=3:=by
 unfold gp at h ⊢
 by_cases Y:mE e.Nodes=true
 ·by_cases X:S3 kinds=true
  ·by_cases d:rK kinds.length e.Nodes=true
   ·simp only [Y,X,d,jR]at h ⊢
    cases D:rp e.Nodes with
    |none=>simp [D]at h
    |some t=>
     cases hk:kd kinds t with
     |none=>simp [D,hk]at h
     |some k=>
      have:=OL (fun k hk=>IN X hk) t (mZ D).1 hk
      simp only [D,hk,bf]
      unfold k4 at this
      omega
   ·simp [Y,X,d]at h
  ·simp [Y,X]at h
 ·simp [Y]at h
def acN{g:eY}{a:List Int}(h:(NI g a).2=true):0<=(NI g a).1/\(NI g a).1<=3:=by
 obtain⟨e1,e2⟩:=BM g a
 rw [h]at e1
 rw [<-e2 e1]
 unfold BN at e1 ⊢
 by_cases Y:g.Tag=1
 ·simp [Y]
 by_cases d:g.Tag=3
 ·simp [d]
 by_cases h45:g.Tag=4\/g.Tag=5
 ·rw [aQ Y,aQ d,bh h45]at e1 ⊢
  simp only [ly,oY]at e1
  exact OK e1.1.1
 ·rw [aQ Y,aQ d,aQ h45]
  simp
def aad{a b:List Int}(ha:K3 a)(H:K3 b):K3 (List.zipWith Ib a b):=by
 intro z hz
 obtain⟨i,hi,hzi⟩:=List.getElem_of_mem hz
 rw [List.getElem_zipWith]at hzi
 rw [<-hzi]
 unfold Ib
 split
 ·exact H _ (CL _)
 ·exact ha _ (CL _)
def Yr{a:List Int}{e:Int}(h:vy a e=false):Rm a e∈a:=by
 simp [vy]at h
 unfold Rm
 rw [sH (by omega)]
 exact CL _
def WP{n:aa}{a b k:List Int}(hn:je n)(hop:F9 n.Op=true)(ha:K3 a)(H:K3 b)(hal:a.length<=16)(hbl:b.length<=16)(hpa:n.Op≠1->1<=a.length)(h:cF n a b=some (k,true)):K3 k/\1<=k.length:=by
 rcases nA hop with Y|Y|Y|Y|Y|Y|Y|Y
 ·rw [WQ hn Y]at h
  injection h with h
  injection h with X d
  subst X
  simp only [ly,kU,ig]at d
  exact⟨fun x V=>by have:=d.1.1.1.1 x V;omega,by omega⟩
 ·have hp:=hpa (by omega)
  rw [ZT Y hal hbl]at h
  injection h with h
  injection h with X d
  subst X
  exact⟨fun x V=>(ui.1 V).elim (ha x) (H x),by simp;omega⟩
 ·rw [ZS Y]at h
  injection h with h
  injection h with X d
  subst X
  exact⟨ha,hpa (by omega)⟩
 ·rw [ZR hn Y]at h
  cases hany:n.Keys.any (vy a)with
  |true=>rw [hany,bh rfl]at h;cases h
  |false=>
   rw [hany,aQ (by simp)]at h
   injection h with h
   injection h with X d
   subst X
   simp only [ly,kU,ig]at d
   refine⟨fun x V=>?_,by simp;omega⟩
   rcases ui.1 V with V|V
   ·obtain⟨e,he,rfl⟩:=AG.1 V
    exact ha _ (Yr (by have:=JC.1 hany e he;simpa using this))
   ·obtain⟨g,K,rfl⟩:=AG.1 V
    exact acN (d.1.1.1 g K)
 ·rw [X4 hn Y]at h
  injection h with h
  injection h with X d
  subst X
  simp only [ly,kU,ig,oY]at d
  refine⟨fun x V=>?_,by simp;omega⟩
  obtain⟨e,he,rfl⟩:=AG.1 V
  exact OK (d.1.1 e he)
 ·rw [rk6 Y]at h
  injection h with h
  injection h with X d
  subst X
  exact⟨ha,hpa (by omega)⟩
 ·have hp:=hpa (by omega)
  rw [rk7 Y hal]at h
  by_cases hl:a.length=b.length
  ·rw [bh hl]at h
   injection h with h
   injection h with X d
   subst X
   exact⟨aad ha H,by simp;omega⟩
  ·rw [aQ hl]at h;cases h
 ·rw [ZQ hn Y]at h
  injection h with h
  injection h with X d
  subst X
  exact⟨ha,hpa (by omega)⟩
def lg:aa:=⟨1,-1,-1,0,[1,2,3],false,⟨[]⟩,[],[],[],[],0⟩
def LT(x:Int):aO:=if 0<x then⟨[⟨2,-1,-1,x-1,⟨0,0,0,[]⟩⟩]⟩else⟨[⟨1,-1,-1,0,⟨0,0,0,[]⟩⟩]⟩
def j8(j:Nat)(k:List Int):aa:=⟨5,(j:Int),-1,0,[],false,⟨[]⟩,[],[],k.map LT,[],0⟩
def QK:gp (LT 0) [1,2,3]=(0,0):=by kernel_rfl
def QJ:gp (LT 1) [1,2,3]=(1,0):=by kernel_rfl
def QI:gp (LT 2) [1,2,3]=(2,0):=by kernel_rfl
def QH:gp (LT 3) [1,2,3]=(3,0):=by kernel_rfl
def KU{x:Int}(h:0<=x/\x<=3):gp (LT x) [1,2,3]=(x,0):=by
 have:x=0\/x=1\/x=2\/x=3:=by omega
 rcases this with rfl|rfl|rfl|rfl
 ·exact QK
 ·exact QJ
 ·exact QI
 ·exact QH
def Vo(x:Int):(LT x).Nodes.length<=5000:=by
 unfold LT
 split<;>(show 1<=5000;omega)
def J2:je lg:=⟨by decide,by decide,by decide,by decide,by decide,by decide,fun g K=>(by cases K),fun e he=>(by cases he)⟩
def J3(j:Nat){k:List Int}(hk:k.length<=16):je (j8 j k):=
 ⟨by show 0<=5000;omega,by show 0<=5000;omega,by show 0<=5000;omega,by show 0<=5000;omega,by show(k.map LT).length<=5000;rw [Gv];omega,by show 0<=5000;omega,fun g K=>(by cases K),fun e he=>by
  obtain⟨x,_,rfl⟩:=AG.1 he
  exact Vo x⟩
def Ep{l:io}{j:Nat}{n:aa}(hn:gV l.Nodes (j:Int)=some n)(hj:j<l.Nodes.length)(hl:l.Nodes.length<=1000)(fu:Nat):dM (fu+1) l (j:Int)=
  if n.Op=1 then(if n.A= -1/\n.B= -1 then some 1 else some 0)
  else if n.Op=2\/n.Op=7 then(if n.B=(j:Int)-1 then((dM fu) l n.B).bind (fun r2=>if((decide ((0:Int)<r2))&&(n.A==(IntKind.i64.wrap (n.B-r2))))then(((dM fu) l n.A).bind fun r3=>if(decide ((0:Int)<r3))then(some (IntKind.i64.wrap ((IntKind.i64.wrap (r3+r2))+(1:Int))))else(some (0:Int)))else(some (0:Int)))else some 0)
  else if F9 n.Op=true then(if n.A=(j:Int)-1/\n.B= -1 then((dM fu) l n.A).bind (fun r1=>if(decide ((0:Int)<r1))then(some (IntKind.i64.wrap (r1+(1:Int))))else(some (0:Int)))else some 0)
  else some 0:=by
 conv=>lhs;unfold dM
 rw [aQ (by simp;omega),hn]
 simp only [bf,EL]
 by_cases Y:n.Op=1
 ·simp only [Y,jR]
  rw [bh (by decide)]
  by_cases hAB:n.A= -1/\n.B= -1
  ·rw [bh hAB,bh (by simp [hAB])]
  ·rw [aQ hAB,aQ (by simpa using hAB)]
 by_cases h27:n.Op=2\/n.Op=7
 ·simp only [Y,h27,jR,lI]
  rw [aQ (by decide),aQ (by decide),bh (by decide),eM (n:=(j:Int)-1) (by omega) (by omega)]
  by_cases hB:n.B=(j:Int)-1
  ·rw [bh (by simp [hB]),bh hB]
  ·rw [aQ (by simpa using hB),aQ hB]
 by_cases hop:F9 n.Op=true
 ·simp only [Y,h27,hop,jR,lI]
  rw [aQ (by decide),bh (by decide),eM (n:=(j:Int)-1) (by omega) (by omega)]
  by_cases hB:n.A=(j:Int)-1/\n.B= -1
  ·rw [bh (by simp [hB]),bh hB]
  ·rw [aQ (by simpa using hB),aQ hB]
 ·simp only [Y,h27,hop,lI]
  rw [aQ (by decide),aQ (by decide),aQ (by decide)]
  rfl
def FL(l:io):Rb l 0 [] []:=⟨rfl,rfl,fun j h=>absurd h (Nat.not_lt_zero _)⟩
def ya{l:io}{i:Nat}{first:List Int}{kinds:List (List Int)}(hI:Rb l i first kinds){n:aa}(hn:gV l.Nodes (i:Int)=some n)(hl:l.Nodes.length<=1000)(hi:i<l.Nodes.length){ae:Nat}(hs:1<=ae)(hsz: ∀fu,i+1<fu->dM fu l (i:Int)=some (ae:Int))(hp:WE n i)(ho:Cf n=true)(hop:F9 n.Op=true){a b:List Int}(ha:n.Op≠1->gV kinds n.A=some a)(H:n.Op=2\/n.Op=7->gV kinds n.B=some b)(Y:n.Op=1->a=[])(h27: ¬(n.Op=2\/n.Op=7)->b=[]):
  ∀fu,i+1<fu->hT fu l (i:Int)=lk l (i:Int) n a b:=by
 obtain⟨p1,p2,p3,p4⟩:=hp
 have hsz0:EK l (i:Int)=some (ae:Int):=hsz fq (xu (BY _) (nZ (by omega)))
 have hu: ∀fu,hT (fu+1) l (i:Int)=if(decide ((0:Int)<=n.A))then(((hT fu) l n.A).bind fun r4=>if(!r4.2)then(some ([],false))else(mJ (hT fu) l (i:Int) n r4.1))else(mJ (hT fu) l (i:Int) n ([])):=by
  intro fu
  conv=>lhs;unfold hT
  rw [hsz0,hn]
  simp only [bf,pe,ho]
  have: ¬(ae=0):=by omega
  simp [this]
 intro fu hf
 obtain⟨fu,rfl⟩: ∃k,fu=k+1:=⟨fu-1,by omega⟩
 by_cases hop1:n.Op=1
 ·obtain⟨hA,hB⟩:=p1 hop1
  rw [hu,aQ (by simp [hA])]
  unfold mJ
  rw [aQ (by simp [hB]),Y hop1,h27 (by omega)]
 ·obtain⟨hi0,hA0,hAi⟩:=p2 hop1
  obtain⟨fA,kA,sA,g1,g2,g3⟩:=hI.node n.A.toNat (by omega)
  have eA:((n.A.toNat:Nat):Int)=n.A:=by omega
  have hkA:gV kinds n.A=some kA:=by rw [<-eA,eU];exact g2
  rw [ha hop1]at hkA
  cases hkA
  rw [hu,bh (by simpa using hA0)]
  have e1:=g3.kinds fu (by omega)
  rw [eA]at e1
  rw [e1]
  simp only [bf,sI,oj,lI]
  unfold mJ
  by_cases hop27:n.Op=2\/n.Op=7
  ·have hB:=p3 hop27
   obtain⟨fB,kB,sB,q1,q2,q3⟩:=hI.node (i-1) (by omega)
   have eB:((i-1:Nat):Int)=n.B:=by omega
   have hkB:gV kinds n.B=some kB:=by rw [<-eB,eU];exact q2
   rw [H hop27]at hkB
   cases hkB
   rw [bh (by simp;omega)]
   have e2:=q3.kinds fu (by omega)
   rw [eB]at e2
   rw [e2]
   simp only [bf,sI,oj,lI]
  ·have hB:=p4 hop1 (fun h=>hop27 (.inl h)) (fun h=>hop27 (.inr h))
   rw [aQ (by simp [hB]),h27 hop27]
def MS{l:io}{i:Nat}{first:List Int}{kinds:List (List Int)}(hI:Rb l i first kinds)(hn:gV l.Nodes (i:Int)=some lg)(hl:l.Nodes.length<=1000)(hi:i<l.Nodes.length):CB l i (i:Int) [1,2,3] 1:=by
 have hsz: ∀fu,i+1<fu->dM fu l (i:Int)=some ((1:Nat):Int):=fun fu hf=>by
  obtain⟨fu,rfl⟩: ∃k,fu=k+1:=⟨fu-1,by omega⟩
  rw [Ep hn hi hl]
  rfl
 refine⟨eo _,by omega,by omega,hsz,by decide,fun fu hf=>?_⟩
 rw [ya hI hn hl hi (eo _) hsz ⟨fun _=>⟨rfl,rfl⟩,fun h=>absurd rfl h,fun h=>(by rcases h with h|h<;>cases h),fun h=>absurd rfl h⟩ (by rfl) (by rfl) (a:=[]) (b:=[]) (fun h=>absurd rfl h) (fun h=>by rcases h with h|h<;>cases h) (fun _=>rfl) (fun _=>rfl) fu hf]
 unfold lk
 rw [WQ J2 rfl,bf]
 rfl
def MT{l:io}{i:Nat}{first:List Int}{kinds:List (List Int)}{k:List Int}(hI:Rb l (i+1) first kinds)(h0:CB l i (i:Int) [1,2,3] 1)(hk0:kinds[i]? =some [1,2,3])(hn:gV l.Nodes ((i+1:Nat):Int)=some (j8 i k))(hl:l.Nodes.length<=1000)(hi:i+1<l.Nodes.length)(hk1:1<=k.length)(hk2:k.length<=16)(hk3:K3 k):CB l (i+1) (i:Int) k 2:=by
 have hsz: ∀fu,i+1+1<fu->dM fu l ((i+1:Nat):Int)=some ((2:Nat):Int):=fun fu hf=>by
  obtain⟨fu,rfl⟩: ∃k,fu=k+1:=⟨fu-1,by omega⟩
  rw [Ep hn hi hl,aQ (by show¬(5:Int)=1;decide),aQ (by show¬((5:Int)=2\/(5:Int)=7);decide),bh (by rfl),bh ⟨by show(i:Int)=((i+1:Nat):Int)-1;omega,rfl⟩]
  show((dM fu l (i:Int)).bind _)=_
  rw [h0.size fu (by omega),bf,bh (by decide)]
  rfl
 refine⟨by omega,by omega,by omega,hsz,hk2,fun fu hf=>?_⟩
 rw [ya hI hn hl hi (by omega) hsz ⟨fun h=>(by cases h),fun _=>⟨by omega,by show(0:Int)<=(i:Int);omega,by show(i:Int)<((i+1:Nat):Int);omega⟩,fun h=>(by rcases h with h|h<;>cases h),fun _ _ _=>rfl⟩ (by rfl) (by rfl) (a:=[1,2,3]) (b:=[]) (fun _=>by show gV kinds (i:Int)=_;rw [eU];exact hk0) (fun h=>by rcases h with h|h<;>cases h) (fun h=>by cases h) (fun _=>rfl) fu hf]
 unfold lk
 rw [X4 (J3 i hk2) rfl,bf]
 have e1:(j8 i k).Items.map (fun e=>(gp e [1,2,3]).1)=k:=by
  show(k.map LT).map _=k
  rw [List.map_map]
  conv=>rhs;rw [<-List.map_id k]
  exact Gy fun x V=>by show(gp (LT x) [1,2,3]).1=x;rw [KU (hk3 x V)]
 have e2:((j8 i k).Items.all fun e=>(gp e [1,2,3]).2==0)=true:=by
  rw [kU]
  intro e he
  obtain⟨x,V,rfl⟩:=AG.1 he
  rw [KU (hk3 x V)];rfl
 have e3:(j8 i k).Items.length=k.length:=Gv ..
 rw [e1,e2,e3,aQ (by show¬(((5:Int)==8)&&_||decide ((16:Int)<(k.length:Int)))=true;simp;omega)]
 simp only [nN]
 congr 2
 simp
 omega
def Cd{l:io}{i:Nat}{first:List Int}{kinds:List (List Int)}{k:List Int}(hI:Rb l i first kinds)(Y:gV l.Nodes (i:Int)=some lg)(X:gV l.Nodes ((i+1:Nat):Int)=some (j8 i k))(hl:l.Nodes.length<=1000)(hi:i+1<l.Nodes.length)(hk1:1<=k.length)(hk2:k.length<=16)(hk3:K3 k):
  Rb l (i+2) (first++[(i:Int)]++[(i:Int)]) (kinds++[[1,2,3]]++[k])/\CB l (i+1) (i:Int) k 2:=by
 have n0:=MS hI Y hl (by omega)
 have I1:=hI.push n0
 have n1:=MT I1 n0 (by rw [xf (by rw [hI.kl];exact eo _),hI.kl,wY];rfl) X hl hi hk1 hk2 hk3
 exact⟨I1.push n1,n1⟩
def Ha(n:aa)(a b:List Int):List Int×Bool:=match cF n a b with
 |some (k,o)=>if 16<k.length then([],false)else(k,o)
 |none=>([],false)
def MZ{l:io}{i:Nat}{n:aa}{a b:List Int}(hlast:i+1=l.Nodes.length)(hl:l.Nodes.length<=1000){k:List Int}{o:Bool}(hk:cF n a b=some (k,o)):lk l (i:Int) n a b=some (Ha n a b):=by
 unfold lk Ha
 rw [hk,bf,eM (by omega) (by omega)]
 have:((i:Int) !=(l.Nodes.length:Int)-1)=false:=by simp;omega
 rw [this,Bool.and_false,uX]
 by_cases h:16<k.length
 ·rw [bh (by simp;omega)]
  show _=some (if 16<k.length then([],false)else(k,o))
  rw [bh h]
 ·rw [aQ (by simp;omega)]
  show _=some (if 16<k.length then([],false)else(k,o))
  rw [aQ h]
def Q9(n:ap):zZ n []=some ⟨[⟨n.Tag,-1,-1,n.Col,n.Value⟩]⟩:=by
 unfold zZ u6
 rw [cD (by simp)]
 rfl
def yF: ∀k:List Int,zX k=some (decide ((4:Int)∈k))
 |[]=>rfl
 |x::k=>by
  have ih:=yF k
  unfold zX at ih ⊢
  unfold u4
  by_cases h:x=4
  ·rw [bh (by simp [h])];simp [h]
  ·rw [aQ (by simpa using h),ih]
   have: ¬(4:Int)=x:=fun e=>h e.symm
   simp [this]
def Ba(nx:Nat->aa->io->Option ((List Int)×Bool))(i:Nat)(n1:aa)(l:io): ∀(k:List Int) (p:aa),K3 k->p.Items.length+k.length<=1000->d7 nx i n1 l k p=d7 nx i n1 l [] {p with Items:=p.Items++k.map LT}
 |[],p,_,_=>by simp
 |x::k,p,hk,hl=>by
  simp only [iG]at hl
  have V:=hk x (nM ..)
  have key: ∀e2:ap,(⟨[⟨e2.Tag,-1,-1,e2.Col,e2.Value⟩]⟩:aO)=LT x->nV (d7 nx i n1 l k) p e2=d7 nx i n1 l [] {p with Items:=p.Items++(x::k).map LT}:=by
   intro e2 he
   unfold nV
   rw [Q9,bf,he,cD (by simp;omega),bf,Ba nx i n1 l k _ (fun y hy=>hk y (pK _ hy)) (by simp;omega)]
   simp
  conv=>lhs;unfold d7
  by_cases h0:0<x
  ·rw [bh (by simpa using h0)]
   refine key _ ?_
   unfold LT
   rw [bh h0,eM (by omega) (by omega)]
  ·rw [aQ (by simpa using h0)]
   refine key _ ?_
   unfold LT
   rw [aQ h0]
def Qv{n:aa}(hn:je n)(hop:n.Op=1)(hA:n.A= -1)(hB:n.B= -1)(ho:Cf n=true):dK n []=some (Ha n [] []):=by
 unfold dK bX
 rw [cD (by simp),bf]
 show((oy ⟨[n]⟩ ((0:Nat):Int)).bind _)=_
 have hi:gV (⟨[n]⟩:io).Nodes ((0:Nat):Int)=some n:=rfl
 have hsz: ∀fu,0+1<fu->dM fu ⟨[n]⟩ ((0:Nat):Int)=some ((1:Nat):Int):=fun fu hf=>by
  obtain⟨fu,rfl⟩: ∃k,fu=k+1:=⟨fu-1,by omega⟩
  rw [Ep hi (by show 0<1;omega) (by show 1<=1000;omega),bh hop,bh ⟨hA,hB⟩]
  rfl
 have:=ya (FL ⟨[n]⟩) hi (by show 1<=1000;omega) (by show 0<1;omega) (eo _) hsz ⟨fun _=>⟨hA,hB⟩,fun h=>absurd hop h,fun h=>by omega,fun h=>absurd hop h⟩ ho (by rw [hop];rfl) (a:=[]) (b:=[]) (fun h=>absurd hop h) (fun h=>by omega) (fun _=>rfl) (fun _=>rfl) fq (xu (BY _) (nZ (by omega)))
 unfold oy
 rw [this,MZ (by rfl) (by show 1<=1000;omega) (WQ hn hop),bf]
def je.AB{n:aa}(h:je n)(A B:Int):je {n with A:=A,B:=B}:=⟨h.cond,h.kinds,h.keys,h.aggs,h.items,h.order,h.args,h.exprs⟩
def SZ{n:aa}(hn:je n)(hop:F9 n.Op=true)(A B:Int){a b:List Int}(hal:a.length<=16)(hbl:b.length<=16):cF {n with A:=A,B:=B} a b=cF n a b:=by
 have hn' :=hn.AB A B
 rcases nA hop with h|h|h|h|h|h|h|h
 ·rw [WQ hn h,WQ hn' h]
 ·rw [ZT h hal hbl,ZT (n:={n with A:=A,B:=B}) h hal hbl]
 ·rw [ZS h,ZS (n:={n with A:=A,B:=B}) h]
 ·rw [ZR hn h,ZR hn' h]
 ·rw [X4 hn h,X4 hn' h]
 ·rw [rk6 h,rk6 (n:={n with A:=A,B:=B}) h]
 ·rw [rk7 h hal,rk7 (n:={n with A:=A,B:=B}) h hal]
 ·rw [ZQ hn h,ZQ hn' h]
def SE{n:aa}(hn:je n)(hop:F9 n.Op=true)(A B:Int){a b:List Int}(hal:a.length<=16)(hbl:b.length<=16):Ha {n with A:=A,B:=B} a b=Ha n a b:=by
 unfold Ha
 rw [SZ hn hop A B hal hbl]
def Og{n:aa}(hn:je n)(hop:F9 n.Op=true){a b:List Int}(hal:a.length<=16)(hbl:b.length<=16): ∃k o,cF n a b=some (k,o):=by
 rcases nA hop with h|h|h|h|h|h|h|h
 ·exact⟨_,_,WQ hn h⟩
 ·exact⟨_,_,ZT h hal hbl⟩
 ·exact⟨_,_,ZS h⟩
 ·rw [ZR hn h];split<;>exact⟨_,_,rfl⟩
 ·exact⟨_,_,X4 hn h⟩
 ·exact⟨_,_,rk6 h⟩
 ·rw [rk7 h hal];split<;>exact⟨_,_,rfl⟩
 ·exact⟨_,_,ZQ hn h⟩
def Bb(n:aa){a:List Int}(h:(4:Int)∈a)(t:List (List Int))(i:Nat)(l:io):bX (a::t) i n l=some ([],false):=by
 unfold bX
 rw [yF,bf,bh (by simpa using h)]
def KB{n:aa}(hn:je n)(hop:F9 n.Op=true)(Y:n.Op≠1)(h27: ¬(n.Op=2\/n.Op=7))(hB:n.B= -1)(ho:Cf n=true){a:List Int}(ha:Kd a)(d:K3 a):dK n [a]=some (Ha n a []):=by
 have hal:=ha.le
 have hap:=ha.pos
 have hn' :=hn.AB 1 n.B
 unfold dK bX
 rw [yF,bf,aQ (by simpa using d.four),Ba _ _ _ _ _ _ d (by show 0+a.length<=1000;omega)]
 unfold d7
 show((app ([]:List aa) [lg,j8 0 a]).bind fun l5=>if(((0:Nat):Int)==(0:Int))then(bX [] 1 {n with A:=IntKind.i64.wrap ((l5.length:Int)-1)} ⟨l5⟩)else(bX [] 1 {n with B:=IntKind.i64.wrap ((l5.length:Int)-1)} ⟨l5⟩))=_
 rw [cD (by simp),bf,bh (by rfl)]
 show bX [] 1 {n with A:=1} ⟨[lg,j8 0 a]⟩=_
 unfold bX
 rw [cD (by simp),bf]
 show((oy ⟨[lg,j8 0 a,{n with A:=1}]⟩ ((2:Nat):Int)).bind _)=_
 have hI:=Cd (l:=⟨[lg,j8 0 a,{n with A:=1}]⟩) (k:=a) (FL _) rfl rfl (by show 3<=1000;omega) (by show 1<3;omega) hap hal d
 have hi:gV (⟨[lg,j8 0 a,{n with A:=1}]⟩:io).Nodes ((2:Nat):Int)=some {n with A:=1}:=rfl
 have hsz: ∀fu,2+1<fu->dM fu ⟨[lg,j8 0 a,{n with A:=1}]⟩ ((2:Nat):Int)=some ((3:Nat):Int):=fun fu hf=>by
  obtain⟨fu,rfl⟩: ∃k,fu=k+1:=⟨fu-1,by omega⟩
  rw [Ep hi (by show 2<3;omega) (by show 3<=1000;omega),aQ Y,aQ h27,bh hop,bh ⟨rfl,hB⟩]
  have:=hI.2.size fu (by omega)
  show((dM fu ⟨[lg,j8 0 a,{n with A:=1}]⟩ ((0+1:Nat):Int)).bind _)=_
  rw [this]
  rfl
 have:=ya hI.1 hi (by show 3<=1000;omega) (by show 2<3;omega) (by omega) hsz ⟨fun h=>absurd h Y,fun _=>⟨by omega,by show(0:Int)<=1;omega,by show(1:Int)<((2:Nat):Int);omega⟩,fun h=>absurd h h27,fun _ _ _=>hB⟩ (by exact ho) hop (a:=a) (b:=[]) (fun _=>rfl) (fun h=>absurd h h27) (fun h=>absurd h Y) (fun _=>rfl) fq (xu (BY _) (nZ (by omega)))
 unfold oy
 obtain⟨k,o,hk⟩:=Og (n:={n with A:=1}) (a:=a) (b:=[]) hn' hop hal (by simp)
 rw [this,MZ (by rfl) (by show 3<=1000;omega) hk,bf]
 have e:=SE hn hop 1 n.B hal (b:=[]) (by simp)
 exact congrArg some e
def SB{n:aa}(hn:je n)(h27:n.Op=2\/n.Op=7)(ho:Cf n=true){a b:List Int}(ha:Kd a)(d:K3 a)(H:Kd b)(h3b:K3 b):dK n [a,b]=some (Ha n a b):=by
 have hal:=ha.le
 have hap:=ha.pos
 have hbl:=H.le
 have hbp:=H.pos
 have hop:F9 n.Op=true:=by rcases h27 with h|h<;>rw [h]<;>rfl
 have Y:n.Op≠1:=by omega
 have hn' :=hn.AB 1 3
 unfold dK bX
 rw [yF,bf,aQ (by simpa using d.four),Ba _ _ _ _ _ _ d (by show 0+a.length<=1000;omega)]
 unfold d7
 show((app ([]:List aa) [lg,j8 0 a]).bind fun l5=>if(((0:Nat):Int)==(0:Int))then(bX [b] 1 {n with A:=IntKind.i64.wrap ((l5.length:Int)-1)} ⟨l5⟩)else(bX [b] 1 {n with B:=IntKind.i64.wrap ((l5.length:Int)-1)} ⟨l5⟩))=_
 rw [cD (by simp),bf,bh (by rfl)]
 show bX [b] 1 {n with A:=1} ⟨[lg,j8 0 a]⟩=_
 unfold bX
 rw [yF,bf,aQ (by simpa using h3b.four),Ba _ _ _ _ _ _ h3b (by show 0+b.length<=1000;omega)]
 unfold d7
 show((app [lg,j8 0 a] [lg,j8 2 b]).bind fun l5=>if(((1:Nat):Int)==(0:Int))then(bX [] 2 {n with A:=IntKind.i64.wrap ((l5.length:Int)-1)} ⟨l5⟩)else(bX [] 2 {n with A:=1,B:=IntKind.i64.wrap ((l5.length:Int)-1)} ⟨l5⟩))=_
 rw [cD (by simp),bf,aQ (by decide)]
 show bX [] 2 {n with A:=1,B:=3} ⟨[lg,j8 0 a,lg,j8 2 b]⟩=_
 unfold bX
 rw [cD (by simp),bf]
 show((oy ⟨[lg,j8 0 a,lg,j8 2 b,{n with A:=1,B:=3}]⟩ ((4:Nat):Int)).bind _)=_
 have hI:=Cd (l:=⟨[lg,j8 0 a,lg,j8 2 b,{n with A:=1,B:=3}]⟩) (k:=a) (FL _) rfl rfl (by show 5<=1000;omega) (by show 1<5;omega) hap hal d
 have hJ:=Cd (l:=⟨[lg,j8 0 a,lg,j8 2 b,{n with A:=1,B:=3}]⟩) (k:=b) hI.1 rfl rfl (by show 5<=1000;omega) (by show 3<5;omega) hbp hbl h3b
 have hi:gV (⟨[lg,j8 0 a,lg,j8 2 b,{n with A:=1,B:=3}]⟩:io).Nodes ((4:Nat):Int)=some {n with A:=1,B:=3}:=rfl
 have hsz: ∀fu,4+1<fu->dM fu ⟨[lg,j8 0 a,lg,j8 2 b,{n with A:=1,B:=3}]⟩ ((4:Nat):Int)=some ((5:Nat):Int):=fun fu hf=>by
  obtain⟨fu,rfl⟩: ∃k,fu=k+1:=⟨fu-1,by omega⟩
  rw [Ep hi (by show 4<5;omega) (by show 5<=1000;omega),aQ Y,bh h27,bh (by rfl)]
  have g1:=hJ.2.size fu (by omega)
  have g2:=hI.2.size fu (by omega)
  show((dM fu ⟨[lg,j8 0 a,lg,j8 2 b,{n with A:=1,B:=3}]⟩ ((2+1:Nat):Int)).bind _)=_
  rw [g1,bf,bh (show((decide ((0:Int)<((2:Nat):Int)))&&((1:Int)==(IntKind.i64.wrap ((3:Int)-((2:Nat):Int)))))=true from by decide)]
  show((dM fu ⟨[lg,j8 0 a,lg,j8 2 b,{n with A:=1,B:=3}]⟩ ((0+1:Nat):Int)).bind _)=_
  rw [g2]
  rfl
 have:=ya hJ.1 hi (by show 5<=1000;omega) (by show 4<5;omega) (by omega) hsz ⟨fun h=>absurd h Y,fun _=>⟨by omega,by show(0:Int)<=1;omega,by show(1:Int)<((4:Nat):Int);omega⟩,fun _=>by show(3:Int)=((4:Nat):Int)-1;omega,fun _ X h7=>(by rcases h27 with h|h;exact absurd h X;exact absurd h h7)⟩ (by exact ho) hop (a:=a) (b:=b) (fun _=>rfl) (fun _=>rfl) (fun h=>absurd h Y) (fun h=>absurd h27 h) fq (xu (BY _) (nZ (by omega)))
 unfold oy
 obtain⟨k,o,hk⟩:=Og (n:={n with A:=1,B:=3}) (a:=a) (b:=b) hn' hop hal hbl
 rw [this,MZ (by rfl) (by show 5<=1000;omega) hk,bf]
 have e:=SE hn hop 1 3 hal hbl
 exact congrArg some e
end Go.Proofs.YtdohlidddcgfjaaGreat

