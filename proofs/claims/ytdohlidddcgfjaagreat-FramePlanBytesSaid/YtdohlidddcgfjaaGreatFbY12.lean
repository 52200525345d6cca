/- bR of this claim: Y12. -/
import Derived.Test.YtdohlidddcgfjaaGreatFbY11
import Derived.KernelRfl
set_option linter.all false
namespace Go.Proofs.YtdohlidddcgfjaaGreat
open Go

structure Kd(k:List Int):Prop where
 pos:1<=k.length
 le:k.length<=16
 vals: ∀x∈k,0<=x/\x<=4
def K3(k:List Int):Prop:= ∀x∈k,0<=x/\x<=3
def Kd.k3{k:List Int}(h:Kd k)(h4:(4:Int)∉k):K3 k:=fun x V=>by
 have:=h.vals x V
 have:x≠4:=fun e=>h4 (e▸V)
 omega
def K3.four{k:List Int}(h:K3 k):(4:Int)∉k:=fun V=>by have:=h 4 V;omega
def JE{e:aM}{kinds:List Int}(h:(eX e kinds).2=0):0<=(eX e kinds).1/\(eX e kinds).1<=3:=by
 unfold eX at h ⊢
 by_cases Y:mJ e.Nodes=true
 ·by_cases H:MP kinds=true
  ·by_cases Q:pu kinds.length e.Nodes=true
   ·simp only [Y,H,Q,jY]at h ⊢
    cases D:pc e.Nodes with
    |none=>simp [D]at h
    |some t=>
     cases hk:kd kinds t with
     |none=>simp [D,hk]at h
     |some k=>
      have:=JF (fun k hk=>EG H hk) t (mD D).1 hk
      simp only [D,hk,br]
      unfold k4 at this
      omega
   ·simp [Y,H,Q]at h
  ·simp [Y,H]at h
 ·simp [Y]at h
def VJ{g:fj}{a:List Int}(h:(IZ g a).2=true):0<=(IZ g a).1/\(IZ g a).1<=3:=by
 obtain⟨e1,e2⟩:=B5 g a
 rw [h]at e1
 rw [<-e2 e1]
 unfold zm at e1 ⊢
 by_cases Y:g.Tag=1
 ·simp [Y]
 by_cases Q:g.Tag=3
 ·simp [Q]
 by_cases h45:g.Tag=4\/g.Tag=5
 ·rw [aZ Y,aZ Q,bu h45]at e1 ⊢
  simp only [iO,wC]at e1
  exact JE e1.1.1
 ·rw [aZ Y,aZ Q,aZ h45]
  simp
def S8{a b:List Int}(ha:K3 a)(W:K3 b):K3 (List.zipWith Eg a b):=by
 intro z hz
 obtain⟨i,hi,hzi⟩:=List.getElem_of_mem hz
 rw [List.getElem_zipWith]at hzi
 rw [<-hzi]
 unfold Eg
 split
 ·exact W _ (CR _)
 ·exact ha _ (CR _)
def Rw{a:List Int}{e:Int}(h:uX a e=false):LJ a e∈a:=by
 simp [uX]at h
 unfold LJ
 rw [sx (by omega)]
 exact CR _
def Qe{n:aa}{a b k:List Int}(hn:iN n)(hop:Du n.Op=true)(ha:K3 a)(W:K3 b)(hal:a.length<=16)(hbl:b.length<=16)(hpa:n.Op≠1->1<=a.length)(h:cn n a b=some (k,true)):K3 k/\1<=k.length:=by
 rcases ph hop with Y|Y|Y|Y|Y|Y|Y|Y
 ·rw [Q7 hn Y]at h
  injection h with h
  injection h with H Q
  subst H
  simp only [iO,me,o9]at Q
  exact⟨fun x V=>by have:=Q.1.1.1.1 x V;omega,by omega⟩
 ·have hp:=hpa (by omega)
  rw [Tt Y hal hbl]at h
  injection h with h
  injection h with H Q
  subst H
  exact⟨fun x V=>(xo.1 V).elim (ha x) (W x),by simp;omega⟩
 ·rw [Ts Y]at h
  injection h with h
  injection h with H Q
  subst H
  exact⟨ha,hpa (by omega)⟩
 ·rw [Tq hn Y]at h
  cases hany:n.Keys.any (uX a)with
  |true=>rw [hany,bu rfl]at h;cases h
  |false=>
   rw [hany,aZ (by simp)]at h
   injection h with h
   injection h with H Q
   subst H
   simp only [iO,me,o9]at Q
   refine⟨fun x V=>?_,by simp;omega⟩
   rcases xo.1 V with V|V
   ·obtain⟨e,he,rfl⟩:=Az.1 V
    exact ha _ (Rw (by have:=List.any_eq_false.1 hany e he;simpa using this))
   ·obtain⟨g,X,rfl⟩:=Az.1 V
    exact VJ (Q.1.1.1 g X)
 ·rw [ST hn Y]at h
  injection h with h
  injection h with H Q
  subst H
  simp only [iO,me,o9,wC]at Q
  refine⟨fun x V=>?_,by simp;omega⟩
  obtain⟨e,he,rfl⟩:=Az.1 V
  exact JE (Q.1.1 e he)
 ·rw [Tn Y]at h
  injection h with h
  injection h with H Q
  subst H
  exact⟨ha,hpa (by omega)⟩
 ·have hp:=hpa (by omega)
  rw [Tm Y hal]at h
  by_cases hl:a.length=b.length
  ·rw [bu hl]at h
   injection h with h
   injection h with H Q
   subst H
   exact⟨S8 ha W,by simp;omega⟩
  ·rw [aZ hl]at h;cases h
 ·rw [Tl hn Y]at h
  injection h with h
  injection h with H Q
  subst H
  exact⟨ha,hpa (by omega)⟩
def jE:aa:=⟨1,-1,-1,0,[1,2,3],false,⟨[]⟩,[],[],[],[],0⟩
def Hg(x:Int):aM:=if 0<x then⟨[⟨2,-1,-1,x-1,⟨0,0,0,[]⟩⟩]⟩else⟨[⟨1,-1,-1,0,⟨0,0,0,[]⟩⟩]⟩
def iQ(j:Nat)(k:List Int):aa:=⟨5,(j:Int),-1,0,[],false,⟨[]⟩,[],[],k.map Hg,[],0⟩
def Lg:eX (Hg 0) [1,2,3]=(0,0):=by kernel_rfl
def Lf:eX (Hg 1) [1,2,3]=(1,0):=by kernel_rfl
def Le:eX (Hg 2) [1,2,3]=(2,0):=by kernel_rfl
def Ld:eX (Hg 3) [1,2,3]=(3,0):=by kernel_rfl
def Gn{x:Int}(h:0<=x/\x<=3):eX (Hg x) [1,2,3]=(x,0):=by
 have:x=0\/x=1\/x=2\/x=3:=by omega
 rcases this with rfl|rfl|rfl|rfl
 ·exact Lg
 ·exact Lf
 ·exact Le
 ·exact Ld
def OP(x:Int):(Hg x).Nodes.length<=5000:=by
 unfold Hg
 split<;>(show 1<=5000;omega)
def FL:iN jE:=⟨by decide,by decide,by decide,by decide,by decide,by decide,fun g X=>(by cases X),fun e he=>(by cases he)⟩
def FM(j:Nat){k:List Int}(hk:k.length<=16):iN (iQ j k):=
 ⟨by show 0<=5000;omega,by show 0<=5000;omega,by show 0<=5000;omega,by show 0<=5000;omega,by show(k.map Hg).length<=5000;rw [CQ];omega,by show 0<=5000;omega,fun g X=>(by cases X),fun e he=>by
  obtain⟨x,_,rfl⟩:=Az.1 he
  exact OP x⟩
def A1{l:ge}{j:Nat}{n:aa}(hn:ga l.Nodes (j:Int)=some n)(hj:j<l.Nodes.length)(hl:l.Nodes.length<=1000)(fu:Nat):da (fu+1) l (j:Int)=
  if n.Op=1 then(if n.A= -1/\n.B= -1 then some 1 else some 0)
  else if n.Op=2\/n.Op=7 then(if n.B=(j:Int)-1 then((da fu) l n.B).bind (fun r2=>if((decide ((0:Int)<r2))&&(n.A==(IntKind.i64.wrap (n.B-r2))))then(((da fu) l n.A).bind fun r3=>if(decide ((0:Int)<r3))then(some (IntKind.i64.wrap ((IntKind.i64.wrap (r3+r2))+(1:Int))))else(some (0:Int)))else(some (0:Int)))else some 0)
  else if Du n.Op=true then(if n.A=(j:Int)-1/\n.B= -1 then((da fu) l n.A).bind (fun r1=>if(decide ((0:Int)<r1))then(some (IntKind.i64.wrap (r1+(1:Int))))else(some (0:Int)))else some 0)
  else some 0:=by
 conv=>lhs;unfold da
 rw [aZ (by simp;omega),hn]
 simp only [br,Bb]
 by_cases Y:n.Op=1
 ·simp only [Y,jY]
  rw [bu (by decide)]
  by_cases hAB:n.A= -1/\n.B= -1
  ·rw [bu hAB,bu (by simp [hAB])]
  ·rw [aZ hAB,aZ (by simpa using hAB)]
 by_cases h27:n.Op=2\/n.Op=7
 ·simp only [Y,h27,jY,md]
  rw [aZ (by decide),aZ (by decide),bu (by decide),d7 (n:=(j:Int)-1) (by omega) (by omega)]
  by_cases hB:n.B=(j:Int)-1
  ·rw [bu (by simp [hB]),bu hB]
  ·rw [aZ (by simpa using hB),aZ hB]
 by_cases hop:Du n.Op=true
 ·simp only [Y,h27,hop,jY,md]
  rw [aZ (by decide),bu (by decide),d7 (n:=(j:Int)-1) (by omega) (by omega)]
  by_cases hB:n.A=(j:Int)-1/\n.B= -1
  ·rw [bu (by simp [hB]),bu hB]
  ·rw [aZ (by simpa using hB),aZ hB]
 ·simp only [Y,h27,hop,md]
  rw [aZ (by decide),aZ (by decide),aZ (by decide)]
  rfl
def Cg(l:ge):Lz l 0 [] []:=⟨rfl,rfl,fun j h=>absurd h (Nat.not_lt_zero _)⟩
def u3{l:ge}{i:Nat}{first:List Int}{kinds:List (List Int)}(hI:Lz l i first kinds){n:aa}(hn:ga l.Nodes (i:Int)=some n)(hl:l.Nodes.length<=1000)(hi:i<l.Nodes.length){ae:Nat}(hs:1<=ae)(hsz: ∀fu,i+1<fu->da fu l (i:Int)=some (ae:Int))(hp:PW n i)(ho:CD n=true)(hop:Du n.Op=true){a b:List Int}(ha:n.Op≠1->ga kinds n.A=some a)(W:n.Op=2\/n.Op=7->ga kinds n.B=some b)(Y:n.Op=1->a=[])(h27: ¬(n.Op=2\/n.Op=7)->b=[]):
  ∀fu,i+1<fu->fU fu l (i:Int)=jJ l (i:Int) n a b:=by
 obtain⟨p1,p2,p3,p4⟩:=hp
 have hsz0:Ba l (i:Int)=some (ae:Int):=hsz eI (uA (yG _) (mq (by omega)))
 have hu: ∀fu,fU (fu+1) l (i:Int)=if(decide ((0:Int)<=n.A))then(((fU fu) l n.A).bind fun r4=>if(!r4.2)then(some ([],false))else(la (fU fu) l (i:Int) n r4.1))else(la (fU fu) l (i:Int) n ([])):=by
  intro fu
  conv=>lhs;unfold fU
  rw [hsz0,hn]
  simp only [br,oM,ho]
  have: ¬(ae=0):=by omega
  simp [this]
 intro fu hf
 obtain⟨fu,rfl⟩: ∃k,fu=k+1:=⟨fu-1,by omega⟩
 by_cases hop1:n.Op=1
 ·obtain⟨hA,hB⟩:=p1 hop1
  rw [hu,aZ (by simp [hA])]
  unfold la
  rw [aZ (by simp [hB]),Y hop1,h27 (by omega)]
 ·obtain⟨hi0,hA0,hAi⟩:=p2 hop1
  obtain⟨fA,kA,sA,g1,g2,g3⟩:=hI.node n.A.toNat (by omega)
  have eA:((n.A.toNat:Nat):Int)=n.A:=by omega
  have hkA:ga kinds n.A=some kA:=by rw [<-eA,eZ];exact g2
  rw [ha hop1]at hkA
  cases hkA
  rw [hu,bu (by simpa using hA0)]
  have e1:=g3.kinds fu (by omega)
  rw [eA]at e1
  rw [e1]
  simp only [br,qK,o0,md]
  unfold la
  by_cases hop27:n.Op=2\/n.Op=7
  ·have hB:=p3 hop27
   obtain⟨fB,kB,sB,q1,q2,q3⟩:=hI.node (i-1) (by omega)
   have eB:((i-1:Nat):Int)=n.B:=by omega
   have hkB:ga kinds n.B=some kB:=by rw [<-eB,eZ];exact q2
   rw [W hop27]at hkB
   cases hkB
   rw [bu (by simp;omega)]
   have e2:=q3.kinds fu (by omega)
   rw [eB]at e2
   rw [e2]
   simp only [br,qK,o0,md]
  ·have hB:=p4 hop1 (fun h=>hop27 (.inl h)) (fun h=>hop27 (.inr h))
   rw [aZ (by simp [hB]),h27 hop27]
def Ig{l:ge}{i:Nat}{first:List Int}{kinds:List (List Int)}(hI:Lz l i first kinds)(hn:ga l.Nodes (i:Int)=some jE)(hl:l.Nodes.length<=1000)(hi:i<l.Nodes.length):zp l i (i:Int) [1,2,3] 1:=by
 have hsz: ∀fu,i+1<fu->da fu l (i:Int)=some ((1:Nat):Int):=fun fu hf=>by
  obtain⟨fu,rfl⟩: ∃k,fu=k+1:=⟨fu-1,by omega⟩
  rw [A1 hn hi hl]
  rfl
 refine⟨jW _,by omega,by omega,hsz,by decide,fun fu hf=>?_⟩
 rw [u3 hI hn hl hi (jW _) hsz ⟨fun _=>⟨rfl,rfl⟩,fun h=>absurd rfl h,fun h=>(by rcases h with h|h<;>cases h),fun h=>absurd rfl h⟩ (by rfl) (by rfl) (a:=[]) (b:=[]) (fun h=>absurd rfl h) (fun h=>by rcases h with h|h<;>cases h) (fun _=>rfl) (fun _=>rfl) fu hf]
 unfold jJ
 rw [Q7 FL rfl,br]
 rfl
def Ih{l:ge}{i:Nat}{first:List Int}{kinds:List (List Int)}{k:List Int}(hI:Lz l (i+1) first kinds)(h0:zp l i (i:Int) [1,2,3] 1)(hk0:kinds[i]? =some [1,2,3])(hn:ga l.Nodes ((i+1:Nat):Int)=some (iQ i k))(hl:l.Nodes.length<=1000)(hi:i+1<l.Nodes.length)(hk1:1<=k.length)(hk2:k.length<=16)(hk3:K3 k):zp l (i+1) (i:Int) k 2:=by
 have hsz: ∀fu,i+1+1<fu->da fu l ((i+1:Nat):Int)=some ((2:Nat):Int):=fun fu hf=>by
  obtain⟨fu,rfl⟩: ∃k,fu=k+1:=⟨fu-1,by omega⟩
  rw [A1 hn hi hl,aZ (by show¬(5:Int)=1;decide),aZ (by show¬((5:Int)=2\/(5:Int)=7);decide),bu (by rfl),bu ⟨by show(i:Int)=((i+1:Nat):Int)-1;omega,rfl⟩]
  show((da fu l (i:Int)).bind _)=_
  rw [h0.size fu (by omega),br,bu (by decide)]
  rfl
 refine⟨by omega,by omega,by omega,hsz,hk2,fun fu hf=>?_⟩
 rw [u3 hI hn hl hi (by omega) hsz ⟨fun h=>(by cases h),fun _=>⟨by omega,by show(0:Int)<=(i:Int);omega,by show(i:Int)<((i+1:Nat):Int);omega⟩,fun h=>(by rcases h with h|h<;>cases h),fun _ _ _=>rfl⟩ (by rfl) (by rfl) (a:=[1,2,3]) (b:=[]) (fun _=>by show ga kinds (i:Int)=_;rw [eZ];exact hk0) (fun h=>by rcases h with h|h<;>cases h) (fun h=>by cases h) (fun _=>rfl) fu hf]
 unfold jJ
 rw [ST (FM i hk2) rfl,br]
 have e1:(iQ i k).Items.map (fun e=>(eX e [1,2,3]).1)=k:=by
  show(k.map Hg).map _=k
  rw [List.map_map]
  conv=>rhs;rw [<-List.map_id k]
  exact Fh fun x V=>by show(eX (Hg x) [1,2,3]).1=x;rw [Gn (hk3 x V)]
 have e2:((iQ i k).Items.all fun e=>(eX e [1,2,3]).2==0)=true:=by
  rw [me]
  intro e he
  obtain⟨x,V,rfl⟩:=Az.1 he
  rw [Gn (hk3 x V)];rfl
 have e3:(iQ i k).Items.length=k.length:=CQ ..
 rw [e1,e2,e3,aZ (by show¬(((5:Int)==8)&&_||decide ((16:Int)<(k.length:Int)))=true;simp;omega)]
 simp only [mA]
 congr 2
 simp
 omega
def yW{l:ge}{i:Nat}{first:List Int}{kinds:List (List Int)}{k:List Int}(hI:Lz l i first kinds)(Y:ga l.Nodes (i:Int)=some jE)(H:ga l.Nodes ((i+1:Nat):Int)=some (iQ i k))(hl:l.Nodes.length<=1000)(hi:i+1<l.Nodes.length)(hk1:1<=k.length)(hk2:k.length<=16)(hk3:K3 k):
  Lz l (i+2) (first++[(i:Int)]++[(i:Int)]) (kinds++[[1,2,3]]++[k])/\zp l (i+1) (i:Int) k 2:=by
 have n0:=Ig hI Y hl (by omega)
 have I1:=hI.push n0
 have n1:=Ih I1 n0 (by rw [uo (by rw [hI.kl];exact jW _),hI.kl,uc];rfl) H hl hi hk1 hk2 hk3
 exact⟨I1.push n1,n1⟩
def Dt(n:aa)(a b:List Int):List Int×Bool:=match cn n a b with
 |some (k,o)=>if 16<k.length then([],false)else(k,o)
 |none=>([],false)
def Io{l:ge}{i:Nat}{n:aa}{a b:List Int}(hlast:i+1=l.Nodes.length)(hl:l.Nodes.length<=1000){k:List Int}{o:Bool}(hk:cn n a b=some (k,o)):jJ l (i:Int) n a b=some (Dt n a b):=by
 unfold jJ Dt
 rw [hk,br,d7 (by omega) (by omega)]
 have:((i:Int) !=(l.Nodes.length:Int)-1)=false:=by simp;omega
 rw [this,Bool.and_false,sy]
 by_cases h:16<k.length
 ·rw [bu (by simp;omega)]
  show _=some (if 16<k.length then([],false)else(k,o))
  rw [bu h]
 ·rw [aZ (by simp;omega)]
  show _=some (if 16<k.length then([],false)else(k,o))
  rw [aZ h]
def Ly(n:am):wT n []=some ⟨[⟨n.Tag,-1,-1,n.Col,n.Value⟩]⟩:=by
 unfold wT sk
 rw [cy (by simp)]
 rfl
def vz: ∀k:List Int,wQ k=some (decide ((4:Int)∈k))
 |[]=>rfl
 |x::k=>by
  have ih:=vz k
  unfold wQ at ih ⊢
  unfold si
  by_cases h:x=4
  ·rw [bu (by simp [h])];simp [h]
  ·rw [aZ (by simpa using h),ih]
   have: ¬(4:Int)=x:=fun e=>h e.symm
   simp [this]
def xL(nx:Nat->aa->ge->Option ((List Int)×Bool))(i:Nat)(n1:aa)(l:ge): ∀(k:List Int) (p:aa),K3 k->p.Items.length+k.length<=1000->dp nx i n1 l k p=dp nx i n1 l [] {p with Items:=p.Items++k.map Hg}
 |[],p,_,_=>by simp
 |x::k,p,hk,hl=>by
  simp only [jj]at hl
  have V:=hk x (nV ..)
  have key: ∀e2:am,(⟨[⟨e2.Tag,-1,-1,e2.Col,e2.Value⟩]⟩:aM)=Hg x->mn (dp nx i n1 l k) p e2=dp nx i n1 l [] {p with Items:=p.Items++(x::k).map Hg}:=by
   intro e2 he
   unfold mn
   rw [Ly,br,he,cy (by simp;omega),br,xL nx i n1 l k _ (fun y hy=>hk y (o8 _ hy)) (by simp;omega)]
   simp
  conv=>lhs;unfold dp
  by_cases h0:0<x
  ·rw [bu (by simpa using h0)]
   refine key _ ?_
   unfold Hg
   rw [bu h0,d7 (by omega) (by omega)]
  ·rw [aZ (by simpa using h0)]
   refine key _ ?_
   unfold Hg
   rw [aZ h0]
def KU{n:aa}(hn:iN n)(hop:n.Op=1)(hA:n.A= -1)(hB:n.B= -1)(ho:CD n=true):cZ n []=some (Dt n [] []):=by
 unfold cZ bL
 rw [cy (by simp),br]
 show((mM ⟨[n]⟩ ((0:Nat):Int)).bind _)=_
 have hi:ga (⟨[n]⟩:ge).Nodes ((0:Nat):Int)=some n:=rfl
 have hsz: ∀fu,0+1<fu->da fu ⟨[n]⟩ ((0:Nat):Int)=some ((1:Nat):Int):=fun fu hf=>by
  obtain⟨fu,rfl⟩: ∃k,fu=k+1:=⟨fu-1,by omega⟩
  rw [A1 hi (by show 0<1;omega) (by show 1<=1000;omega),bu hop,bu ⟨hA,hB⟩]
  rfl
 have:=u3 (Cg ⟨[n]⟩) hi (by show 1<=1000;omega) (by show 0<1;omega) (jW _) hsz ⟨fun _=>⟨hA,hB⟩,fun h=>absurd hop h,fun h=>by omega,fun h=>absurd hop h⟩ ho (by rw [hop];rfl) (a:=[]) (b:=[]) (fun h=>absurd hop h) (fun h=>by omega) (fun _=>rfl) (fun _=>rfl) eI (uA (yG _) (mq (by omega)))
 unfold mM
 rw [this,Io (by rfl) (by show 1<=1000;omega) (Q7 hn hop),br]
def iN.AB{n:aa}(h:iN n)(A B:Int):iN {n with A:=A,B:=B}:=⟨h.cond,h.kinds,h.keys,h.aggs,h.items,h.order,h.args,h.exprs⟩
def MN{n:aa}(hn:iN n)(hop:Du n.Op=true)(A B:Int){a b:List Int}(hal:a.length<=16)(hbl:b.length<=16):cn {n with A:=A,B:=B} a b=cn n a b:=by
 have hn' :=hn.AB A B
 rcases ph hop with h|h|h|h|h|h|h|h
 ·rw [Q7 hn h,Q7 hn' h]
 ·rw [Tt h hal hbl,Tt (n:={n with A:=A,B:=B}) h hal hbl]
 ·rw [Ts h,Ts (n:={n with A:=A,B:=B}) h]
 ·rw [Tq hn h,Tq hn' h]
 ·rw [ST hn h,ST hn' h]
 ·rw [Tn h,Tn (n:={n with A:=A,B:=B}) h]
 ·rw [Tm h hal,Tm (n:={n with A:=A,B:=B}) h hal]
 ·rw [Tl hn h,Tl hn' h]
def MA{n:aa}(hn:iN n)(hop:Du n.Op=true)(A B:Int){a b:List Int}(hal:a.length<=16)(hbl:b.length<=16):Dt {n with A:=A,B:=B} a b=Dt n a b:=by
 unfold Dt
 rw [MN hn hop A B hal hbl]
def Jp{n:aa}(hn:iN n)(hop:Du n.Op=true){a b:List Int}(hal:a.length<=16)(hbl:b.length<=16): ∃k o,cn n a b=some (k,o):=by
 rcases ph hop with h|h|h|h|h|h|h|h
 ·exact⟨_,_,Q7 hn h⟩
 ·exact⟨_,_,Tt h hal hbl⟩
 ·exact⟨_,_,Ts h⟩
 ·rw [Tq hn h];split<;>exact⟨_,_,rfl⟩
 ·exact⟨_,_,ST hn h⟩
 ·exact⟨_,_,Tn h⟩
 ·rw [Tm h hal];split<;>exact⟨_,_,rfl⟩
 ·exact⟨_,_,Tl hn h⟩
def xM(n:aa){a:List Int}(h:(4:Int)∈a)(t:List (List Int))(i:Nat)(l:ge):bL (a::t) i n l=some ([],false):=by
 unfold bL
 rw [vz,br,bu (by simpa using h)]
def F7{n:aa}(hn:iN n)(hop:Du n.Op=true)(Y:n.Op≠1)(h27: ¬(n.Op=2\/n.Op=7))(hB:n.B= -1)(ho:CD n=true){a:List Int}(ha:Kd a)(Q:K3 a):cZ n [a]=some (Dt n a []):=by
 have hal:=ha.le
 have hap:=ha.pos
 have hn' :=hn.AB 1 n.B
 unfold cZ bL
 rw [vz,br,aZ (by simpa using Q.four),xL _ _ _ _ _ _ Q (by show 0+a.length<=1000;omega)]
 unfold dp
 show((jb ([]:List aa) [jE,iQ 0 a]).bind fun l5=>if(((0:Nat):Int)==(0:Int))then(bL [] 1 {n with A:=IntKind.i64.wrap ((l5.length:Int)-1)} ⟨l5⟩)else(bL [] 1 {n with B:=IntKind.i64.wrap ((l5.length:Int)-1)} ⟨l5⟩))=_
 rw [cy (by simp),br,bu (by rfl)]
 show bL [] 1 {n with A:=1} ⟨[jE,iQ 0 a]⟩=_
 unfold bL
 rw [cy (by simp),br]
 show((mM ⟨[jE,iQ 0 a,{n with A:=1}]⟩ ((2:Nat):Int)).bind _)=_
 have hI:=yW (l:=⟨[jE,iQ 0 a,{n with A:=1}]⟩) (k:=a) (Cg _) rfl rfl (by show 3<=1000;omega) (by show 1<3;omega) hap hal Q
 have hi:ga (⟨[jE,iQ 0 a,{n with A:=1}]⟩:ge).Nodes ((2:Nat):Int)=some {n with A:=1}:=rfl
 have hsz: ∀fu,2+1<fu->da fu ⟨[jE,iQ 0 a,{n with A:=1}]⟩ ((2:Nat):Int)=some ((3:Nat):Int):=fun fu hf=>by
  obtain⟨fu,rfl⟩: ∃k,fu=k+1:=⟨fu-1,by omega⟩
  rw [A1 hi (by show 2<3;omega) (by show 3<=1000;omega),aZ Y,aZ h27,bu hop,bu ⟨rfl,hB⟩]
  have:=hI.2.size fu (by omega)
  show((da fu ⟨[jE,iQ 0 a,{n with A:=1}]⟩ ((0+1:Nat):Int)).bind _)=_
  rw [this]
  rfl
 have:=u3 hI.1 hi (by show 3<=1000;omega) (by show 2<3;omega) (by omega) hsz ⟨fun h=>absurd h Y,fun _=>⟨by omega,by show(0:Int)<=1;omega,by show(1:Int)<((2:Nat):Int);omega⟩,fun h=>absurd h h27,fun _ _ _=>hB⟩ (by exact ho) hop (a:=a) (b:=[]) (fun _=>rfl) (fun h=>absurd h h27) (fun h=>absurd h Y) (fun _=>rfl) eI (uA (yG _) (mq (by omega)))
 unfold mM
 obtain⟨k,o,hk⟩:=Jp (n:={n with A:=1}) (a:=a) (b:=[]) hn' hop hal (by simp)
 rw [this,Io (by rfl) (by show 3<=1000;omega) hk,br]
 have e:=MA hn hop 1 n.B hal (b:=[]) (by simp)
 exact congrArg some e
def Mx{n:aa}(hn:iN n)(h27:n.Op=2\/n.Op=7)(ho:CD n=true){a b:List Int}(ha:Kd a)(Q:K3 a)(W:Kd b)(h3b:K3 b):cZ n [a,b]=some (Dt n a b):=by
 have hal:=ha.le
 have hap:=ha.pos
 have hbl:=W.le
 have hbp:=W.pos
 have hop:Du n.Op=true:=by rcases h27 with h|h<;>rw [h]<;>rfl
 have Y:n.Op≠1:=by omega
 have hn' :=hn.AB 1 3
 unfold cZ bL
 rw [vz,br,aZ (by simpa using Q.four),xL _ _ _ _ _ _ Q (by show 0+a.length<=1000;omega)]
 unfold dp
 show((jb ([]:List aa) [jE,iQ 0 a]).bind fun l5=>if(((0:Nat):Int)==(0:Int))then(bL [b] 1 {n with A:=IntKind.i64.wrap ((l5.length:Int)-1)} ⟨l5⟩)else(bL [b] 1 {n with B:=IntKind.i64.wrap ((l5.length:Int)-1)} ⟨l5⟩))=_
 rw [cy (by simp),br,bu (by rfl)]
 show bL [b] 1 {n with A:=1} ⟨[jE,iQ 0 a]⟩=_
 unfold bL
 rw [vz,br,aZ (by simpa using h3b.four),xL _ _ _ _ _ _ h3b (by show 0+b.length<=1000;omega)]
 unfold dp
 show((jb [jE,iQ 0 a] [jE,iQ 2 b]).bind fun l5=>if(((1:Nat):Int)==(0:Int))then(bL [] 2 {n with A:=IntKind.i64.wrap ((l5.length:Int)-1)} ⟨l5⟩)else(bL [] 2 {n with A:=1,B:=IntKind.i64.wrap ((l5.length:Int)-1)} ⟨l5⟩))=_
 rw [cy (by simp),br,aZ (by decide)]
 show bL [] 2 {n with A:=1,B:=3} ⟨[jE,iQ 0 a,jE,iQ 2 b]⟩=_
 unfold bL
 rw [cy (by simp),br]
 show((mM ⟨[jE,iQ 0 a,jE,iQ 2 b,{n with A:=1,B:=3}]⟩ ((4:Nat):Int)).bind _)=_
 have hI:=yW (l:=⟨[jE,iQ 0 a,jE,iQ 2 b,{n with A:=1,B:=3}]⟩) (k:=a) (Cg _) rfl rfl (by show 5<=1000;omega) (by show 1<5;omega) hap hal Q
 have hJ:=yW (l:=⟨[jE,iQ 0 a,jE,iQ 2 b,{n with A:=1,B:=3}]⟩) (k:=b) hI.1 rfl rfl (by show 5<=1000;omega) (by show 3<5;omega) hbp hbl h3b
 have hi:ga (⟨[jE,iQ 0 a,jE,iQ 2 b,{n with A:=1,B:=3}]⟩:ge).Nodes ((4:Nat):Int)=some {n with A:=1,B:=3}:=rfl
 have hsz: ∀fu,4+1<fu->da fu ⟨[jE,iQ 0 a,jE,iQ 2 b,{n with A:=1,B:=3}]⟩ ((4:Nat):Int)=some ((5:Nat):Int):=fun fu hf=>by
  obtain⟨fu,rfl⟩: ∃k,fu=k+1:=⟨fu-1,by omega⟩
  rw [A1 hi (by show 4<5;omega) (by show 5<=1000;omega),aZ Y,bu h27,bu (by rfl)]
  have g1:=hJ.2.size fu (by omega)
  have g2:=hI.2.size fu (by omega)
  show((da fu ⟨[jE,iQ 0 a,jE,iQ 2 b,{n with A:=1,B:=3}]⟩ ((2+1:Nat):Int)).bind _)=_
  rw [g1,br,bu (show((decide ((0:Int)<((2:Nat):Int)))&&((1:Int)==(IntKind.i64.wrap ((3:Int)-((2:Nat):Int)))))=true from by decide)]
  show((da fu ⟨[jE,iQ 0 a,jE,iQ 2 b,{n with A:=1,B:=3}]⟩ ((0+1:Nat):Int)).bind _)=_
  rw [g2]
  rfl
 have:=u3 hJ.1 hi (by show 5<=1000;omega) (by show 4<5;omega) (by omega) hsz ⟨fun h=>absurd h Y,fun _=>⟨by omega,by show(0:Int)<=1;omega,by show(1:Int)<((4:Nat):Int);omega⟩,fun _=>by show(3:Int)=((4:Nat):Int)-1;omega,fun _ H h7=>(by rcases h27 with h|h;exact absurd h H;exact absurd h h7)⟩ (by exact ho) hop (a:=a) (b:=b) (fun _=>rfl) (fun _=>rfl) (fun h=>absurd h Y) (fun h=>absurd h27 h) eI (uA (yG _) (mq (by omega)))
 unfold mM
 obtain⟨k,o,hk⟩:=Jp (n:={n with A:=1,B:=3}) (a:=a) (b:=b) hn' hop hal hbl
 rw [this,Io (by rfl) (by show 5<=1000;omega) hk,br]
 have e:=MA hn hop 1 3 hal hbl
 exact congrArg some e
end Go.Proofs.YtdohlidddcgfjaaGreat

