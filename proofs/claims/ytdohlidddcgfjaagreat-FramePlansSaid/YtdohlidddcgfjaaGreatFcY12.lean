/- cE of this claim: Y12. -/
import Derived.Test.YtdohlidddcgfjaaGreatFcY11
import Derived.KernelRfl
set_option linter.all false
namespace Go.Proofs.YtdohlidddcgfjaaGreat
open Go

structure Kd(k:List Int):Prop where
 pos:1<=k.length
 le:k.length<=16
 vals: ∀x∈k,0<=x/\x<=4
def K3(k:List Int):Prop:= ∀x∈k,0<=x/\x<=3
def Kd.k3{k:List Int}(h:Kd k)(h4:(4:Int)∉k):K3 k:=fun x V=>by
 have:=h.vals x V
 have:x≠4:=fun e=>h4 (e▸V)
 omega
def K3.four{k:List Int}(h:K3 k):(4:Int)∉k:=fun V=>by have:=h 4 V;omega
def Nl{e:aW}{kinds:List Int}(h:(gT e kinds).2=0):0<=(gT e kinds).1/\(gT e kinds).1<=3:=by
 unfold gT at h ⊢
 by_cases X:nw e.Nodes=true
 ·by_cases K:Rn kinds=true
  ·by_cases h3:sP kinds.length e.Nodes=true
   ·simp only [X,K,h3,mG]at h ⊢
    cases D:sr e.Nodes with
    |none=>simp [D]at h
    |some t=>
     cases hk:kd kinds t with
     |none=>simp [D,hk]at h
     |some k=>
      have:=Nm (fun k hk=>Im K hk) t (nR D).1 hk
      simp only [D,hk,bG]
      unfold k4 at this
      omega
   ·simp [X,K,h3]at h
  ·simp [X,K]at h
 ·simp [X]at h
def abP{g:fU}{a:List Int}(h:(MA g a).2=true):0<=(MA g a).1/\(MA g a).1<=3:=by
 obtain⟨e1,e2⟩:=BT g a
 rw [h]at e1
 rw [<-e2 e1]
 unfold BU at e1 ⊢
 by_cases X:g.Tag=1
 ·simp [X]
 by_cases h3:g.Tag=3
 ·simp [h3]
 by_cases h45:g.Tag=4\/g.Tag=5
 ·rw [bk X,bk h3,bJ h45]at e1 ⊢
  simp only [pt,vC]at e1
  exact Nl e1.1.1
 ·rw [bk X,bk h3,bk h45]
  simp
def YV{a b:List Int}(ha:K3 a)(H:K3 b):K3 (List.zipWith HG a b):=by
 intro z hz
 obtain⟨i,hi,hzi⟩:=List.getElem_of_mem hz
 rw [List.getElem_zipWith]at hzi
 rw [<-hzi]
 unfold HG
 split
 ·exact H _ (Ge _)
 ·exact ha _ (Ge _)
def WX{a:List Int}{e:Int}(h:wj a e=false):PS a e∈a:=by
 simp [wj]at h
 unfold PS
 rw [lI (by omega)]
 exact Ge _
def Vy{n:tV}{a b k:List Int}(hn:jJ n)(hop:F0 n.Op=true)(ha:K3 a)(H:K3 b)(hal:a.length<=16)(hbl:b.length<=16)(hpa:n.Op≠1->1<=a.length)(h:cK n a b=some (k,true)):K3 k/\1<=k.length:=by
 rcases oP hop with X|X|X|X|X|X|X|X
 ·rw [Vz hn X]at h
  injection h with h
  injection h with K h3
  subst K
  simp only [pt,mo,mp]at h3
  exact⟨fun x V=>by have:=h3.1.1.1.1 x V;omega,by omega⟩
 ·have hp:=hpa (by omega)
  rw [YG X hal hbl]at h
  injection h with h
  injection h with K h3
  subst K
  exact⟨fun x V=>(uW.1 V).elim (ha x) (H x),by simp;omega⟩
 ·rw [YF X]at h
  injection h with h
  injection h with K h3
  subst K
  exact⟨ha,hpa (by omega)⟩
 ·rw [YE hn X]at h
  cases hany:n.Keys.any (wj a)with
  |true=>rw [hany,bJ rfl]at h;cases h
  |false=>
   rw [hany,bk (by simp)]at h
   injection h with h
   injection h with K h3
   subst K
   simp only [pt,mo,mp]at h3
   refine⟨fun x V=>?_,by simp;omega⟩
   rcases uW.1 V with V|V
   ·obtain⟨e,he,rfl⟩:=AS.1 V
    exact ha _ (WX (by have:=I3.1 hany e he;simpa using this))
   ·obtain⟨g,Y,rfl⟩:=AS.1 V
    exact abP (h3.1.1.1 g Y)
 ·rw [Wz hn X]at h
  injection h with h
  injection h with K h3
  subst K
  simp only [pt,mo,mp,vC]at h3
  refine⟨fun x V=>?_,by simp;omega⟩
  obtain⟨e,he,rfl⟩:=AS.1 V
  exact Nl (h3.1.1 e he)
 ·rw [Zo X]at h
  injection h with h
  injection h with K h3
  subst K
  exact⟨ha,hpa (by omega)⟩
 ·have hp:=hpa (by omega)
  rw [Zn X hal]at h
  by_cases hl:a.length=b.length
  ·rw [bJ hl]at h
   injection h with h
   injection h with K h3
   subst K
   exact⟨YV ha H,by simp;omega⟩
  ·rw [bk hl]at h;cases h
 ·rw [YD hn X]at h
  injection h with h
  injection h with K h3
  subst K
  exact⟨ha,hpa (by omega)⟩
def lN:tV:=⟨1,-1,-1,0,[1,2,3],false,⟨[]⟩,[],[],[],[],0⟩
def KX(x:Int):aW:=if 0<x then⟨[⟨2,-1,-1,x-1,⟨0,0,0,[]⟩⟩]⟩else⟨[⟨1,-1,-1,0,⟨0,0,0,[]⟩⟩]⟩
def kK(j:Nat)(k:List Int):tV:=⟨5,(j:Int),-1,0,[],false,⟨[]⟩,[],[],k.map KX,[],0⟩
def Pj:gT (KX 0) [1,2,3]=(0,0):=by kernel_rfl
def Pi:gT (KX 1) [1,2,3]=(1,0):=by kernel_rfl
def Ph:gT (KX 2) [1,2,3]=(2,0):=by kernel_rfl
def Pg:gT (KX 3) [1,2,3]=(3,0):=by kernel_rfl
def Kf{x:Int}(h:0<=x/\x<=3):gT (KX x) [1,2,3]=(x,0):=by
 have:x=0\/x=1\/x=2\/x=3:=by omega
 rcases this with rfl|rfl|rfl|rfl
 ·exact Pj
 ·exact Pi
 ·exact Ph
 ·exact Pg
def TO(x:Int):(KX x).Nodes.length<=5000:=by
 unfold KX
 split<;>(show 1<=5000;omega)
def Jx:jJ lN:=⟨by decide,by decide,by decide,by decide,by decide,by decide,fun g Y=>(by cases Y),fun e he=>(by cases he)⟩
def Jy(j:Nat){k:List Int}(hk:k.length<=16):jJ (kK j k):=
 ⟨by show 0<=5000;omega,by show 0<=5000;omega,by show 0<=5000;omega,by show 0<=5000;omega,by show(k.map KX).length<=5000;rw [Gd];omega,by show 0<=5000;omega,fun g Y=>(by cases Y),fun e he=>by
  obtain⟨x,_,rfl⟩:=AS.1 he
  exact TO x⟩
def Ed{l:dZ}{j:Nat}{n:tV}(hn:gB l.Nodes (j:Int)=some n)(hj:j<l.Nodes.length)(hl:l.Nodes.length<=1000)(fu:Nat):d9 (fu+1) l (j:Int)=
  if n.Op=1 then(if n.A= -1/\n.B= -1 then some 1 else some 0)
  else if n.Op=2\/n.Op=7 then(if n.B=(j:Int)-1 then((d9 fu) l n.B).bind (fun r2=>if((decide ((0:Int)<r2))&&(n.A==(IntKind.i64.wrap (n.B-r2))))then(((d9 fu) l n.A).bind fun r3=>if(decide ((0:Int)<r3))then(some (IntKind.i64.wrap ((IntKind.i64.wrap (r3+r2))+(1:Int))))else(some (0:Int)))else(some (0:Int)))else some 0)
  else if F0 n.Op=true then(if n.A=(j:Int)-1/\n.B= -1 then((d9 fu) l n.A).bind (fun r1=>if(decide ((0:Int)<r1))then(some (IntKind.i64.wrap (r1+(1:Int))))else(some (0:Int)))else some 0)
  else some 0:=by
 conv=>lhs;unfold d9
 rw [bk (by simp;omega),hn]
 simp only [bG,Et]
 by_cases X:n.Op=1
 ·simp only [X,mG]
  rw [bJ (by decide)]
  by_cases hAB:n.A= -1/\n.B= -1
  ·rw [bJ hAB,bJ (by simp [hAB])]
  ·rw [bk hAB,bk (by simpa using hAB)]
 by_cases h27:n.Op=2\/n.Op=7
 ·simp only [X,h27,mG,oV]
  rw [bk (by decide),bk (by decide),bJ (by decide),fg (n:=(j:Int)-1) (by omega) (by omega)]
  by_cases hB:n.B=(j:Int)-1
  ·rw [bJ (by simp [hB]),bJ hB]
  ·rw [bk (by simpa using hB),bk hB]
 by_cases hop:F0 n.Op=true
 ·simp only [X,h27,hop,mG,oV]
  rw [bk (by decide),bJ (by decide),fg (n:=(j:Int)-1) (by omega) (by omega)]
  by_cases hB:n.A=(j:Int)-1/\n.B= -1
  ·rw [bJ (by simp [hB]),bJ hB]
  ·rw [bk (by simpa using hB),bk hB]
 ·simp only [X,h27,hop,oV]
  rw [bk (by decide),bk (by decide),bk (by decide)]
  rfl
def FC(l:dZ):PK l 0 [] []:=⟨rfl,rfl,fun j h=>absurd h (Nat.not_lt_zero _)⟩
def yq{l:dZ}{i:Nat}{first:List Int}{kinds:List (List Int)}(hI:PK l i first kinds){n:tV}(hn:gB l.Nodes (i:Int)=some n)(hl:l.Nodes.length<=1000)(hi:i<l.Nodes.length){ac:Nat}(hs:1<=ac)(hsz: ∀fu,i+1<fu->d9 fu l (i:Int)=some (ac:Int))(hp:Vn n i)(ho:Cg n=true)(hop:F0 n.Op=true){a b:List Int}(ha:n.Op≠1->gB kinds n.A=some a)(H:n.Op=2\/n.Op=7->gB kinds n.B=some b)(X:n.Op=1->a=[])(h27: ¬(n.Op=2\/n.Op=7)->b=[]):
  ∀fu,i+1<fu->gr fu l (i:Int)=ku l (i:Int) n a b:=by
 obtain⟨p1,p2,p3,p4⟩:=hp
 have hsz0:Af l (i:Int)=some (ac:Int):=hsz dk (xN (B4 _) (pj (by omega)))
 have hu: ∀fu,gr (fu+1) l (i:Int)=if(decide ((0:Int)<=n.A))then(((gr fu) l n.A).bind fun r4=>if(!r4.2)then(some ([],false))else(lT (gr fu) l (i:Int) n r4.1))else(lT (gr fu) l (i:Int) n ([])):=by
  intro fu
  conv=>lhs;unfold gr
  rw [hsz0,hn]
  simp only [bG,qh,ho]
  have: ¬(ac=0):=by omega
  simp [this]
 intro fu hf
 obtain⟨fu,rfl⟩: ∃k,fu=k+1:=⟨fu-1,by omega⟩
 by_cases hop1:n.Op=1
 ·obtain⟨hA,hB⟩:=p1 hop1
  rw [hu,bk (by simp [hA])]
  unfold lT
  rw [bk (by simp [hB]),X hop1,h27 (by omega)]
 ·obtain⟨hi0,hA0,hAi⟩:=p2 hop1
  obtain⟨fA,kA,sA,g1,g2,g3⟩:=hI.node n.A.toNat (by omega)
  have eA:((n.A.toNat:Nat):Int)=n.A:=by omega
  have hkA:gB kinds n.A=some kA:=by rw [<-eA,eu];exact g2
  rw [ha hop1]at hkA
  cases hkA
  rw [hu,bJ (by simpa using hA0)]
  have e1:=g3.kinds fu (by omega)
  rw [eA]at e1
  rw [e1]
  simp only [bG,ug,r0,oV]
  unfold lT
  by_cases hop27:n.Op=2\/n.Op=7
  ·have hB:=p3 hop27
   obtain⟨fB,kB,sB,q1,q2,q3⟩:=hI.node (i-1) (by omega)
   have eB:((i-1:Nat):Int)=n.B:=by omega
   have hkB:gB kinds n.B=some kB:=by rw [<-eB,eu];exact q2
   rw [H hop27]at hkB
   cases hkB
   rw [bJ (by simp;omega)]
   have e2:=q3.kinds fu (by omega)
   rw [eB]at e2
   rw [e2]
   simp only [bG,ug,r0,oV]
  ·have hB:=p4 hop1 (fun h=>hop27 (.inl h)) (fun h=>hop27 (.inr h))
   rw [bk (by simp [hB]),h27 hop27]
def LM{l:dZ}{i:Nat}{first:List Int}{kinds:List (List Int)}(hI:PK l i first kinds)(hn:gB l.Nodes (i:Int)=some lN)(hl:l.Nodes.length<=1000)(hi:i<l.Nodes.length):CE l i (i:Int) [1,2,3] 1:=by
 have hsz: ∀fu,i+1<fu->d9 fu l (i:Int)=some ((1:Nat):Int):=fun fu hf=>by
  obtain⟨fu,rfl⟩: ∃k,fu=k+1:=⟨fu-1,by omega⟩
  rw [Ed hn hi hl]
  rfl
 refine⟨eJ _,by omega,by omega,hsz,by decide,fun fu hf=>?_⟩
 rw [yq hI hn hl hi (eJ _) hsz ⟨fun _=>⟨rfl,rfl⟩,fun h=>absurd rfl h,fun h=>(by rcases h with h|h<;>cases h),fun h=>absurd rfl h⟩ (by rfl) (by rfl) (a:=[]) (b:=[]) (fun h=>absurd rfl h) (fun h=>by rcases h with h|h<;>cases h) (fun _=>rfl) (fun _=>rfl) fu hf]
 unfold ku
 rw [Vz Jx rfl,bG]
 rfl
def LN{l:dZ}{i:Nat}{first:List Int}{kinds:List (List Int)}{k:List Int}(hI:PK l (i+1) first kinds)(h0:CE l i (i:Int) [1,2,3] 1)(hk0:kinds[i]? =some [1,2,3])(hn:gB l.Nodes ((i+1:Nat):Int)=some (kK i k))(hl:l.Nodes.length<=1000)(hi:i+1<l.Nodes.length)(hk1:1<=k.length)(hk2:k.length<=16)(hk3:K3 k):CE l (i+1) (i:Int) k 2:=by
 have hsz: ∀fu,i+1+1<fu->d9 fu l ((i+1:Nat):Int)=some ((2:Nat):Int):=fun fu hf=>by
  obtain⟨fu,rfl⟩: ∃k,fu=k+1:=⟨fu-1,by omega⟩
  rw [Ed hn hi hl,bk (by show¬(5:Int)=1;decide),bk (by show¬((5:Int)=2\/(5:Int)=7);decide),bJ (by rfl),bJ ⟨by show(i:Int)=((i+1:Nat):Int)-1;omega,rfl⟩]
  show((d9 fu l (i:Int)).bind _)=_
  rw [h0.size fu (by omega),bG,bJ (by decide)]
  rfl
 refine⟨by omega,by omega,by omega,hsz,hk2,fun fu hf=>?_⟩
 rw [yq hI hn hl hi (by omega) hsz ⟨fun h=>(by cases h),fun _=>⟨by omega,by show(0:Int)<=(i:Int);omega,by show(i:Int)<((i+1:Nat):Int);omega⟩,fun h=>(by rcases h with h|h<;>cases h),fun _ _ _=>rfl⟩ (by rfl) (by rfl) (a:=[1,2,3]) (b:=[]) (fun _=>by show gB kinds (i:Int)=_;rw [eu];exact hk0) (fun h=>by rcases h with h|h<;>cases h) (fun h=>by cases h) (fun _=>rfl) fu hf]
 unfold ku
 rw [Wz (Jy i hk2) rfl,bG]
 have e1:(kK i k).Items.map (fun e=>(gT e [1,2,3]).1)=k:=by
  show(k.map KX).map _=k
  rw [List.map_map]
  conv=>rhs;rw [<-List.map_id k]
  exact Gi fun x V=>by show(gT (KX x) [1,2,3]).1=x;rw [Kf (hk3 x V)]
 have e2:((kK i k).Items.all fun e=>(gT e [1,2,3]).2==0)=true:=by
  rw [mo]
  intro e he
  obtain⟨x,V,rfl⟩:=AS.1 he
  rw [Kf (hk3 x V)];rfl
 have e3:(kK i k).Items.length=k.length:=Gd ..
 rw [e1,e2,e3,bk (by show¬(((5:Int)==8)&&_||decide ((16:Int)<(k.length:Int)))=true;simp;omega)]
 simp only [oX]
 congr 2
 simp
 omega
def Ce{l:dZ}{i:Nat}{first:List Int}{kinds:List (List Int)}{k:List Int}(hI:PK l i first kinds)(X:gB l.Nodes (i:Int)=some lN)(K:gB l.Nodes ((i+1:Nat):Int)=some (kK i k))(hl:l.Nodes.length<=1000)(hi:i+1<l.Nodes.length)(hk1:1<=k.length)(hk2:k.length<=16)(hk3:K3 k):
  PK l (i+2) (first++[(i:Int)]++[(i:Int)]) (kinds++[[1,2,3]]++[k])/\CE l (i+1) (i:Int) k 2:=by
 have n0:=LM hI X hl (by omega)
 have I1:=hI.push n0
 have n1:=LN I1 n0 (by rw [xC (by rw [hI.kl];exact eJ _),hI.kl,xo];rfl) K hl hi hk1 hk2 hk3
 exact⟨I1.push n1,n1⟩
def GU(n:tV)(a b:List Int):List Int×Bool:=match cK n a b with
 |some (k,o)=>if 16<k.length then([],false)else(k,o)
 |none=>([],false)
def LS{l:dZ}{i:Nat}{n:tV}{a b:List Int}(hlast:i+1=l.Nodes.length)(hl:l.Nodes.length<=1000){k:List Int}{o:Bool}(hk:cK n a b=some (k,o)):ku l (i:Int) n a b=some (GU n a b):=by
 unfold ku GU
 rw [hk,bG,fg (by omega) (by omega)]
 have:((i:Int) !=(l.Nodes.length:Int)-1)=false:=by simp;omega
 rw [this,Bool.and_false,vE]
 by_cases h:16<k.length
 ·rw [bJ (by simp;omega)]
  show _=some (if 16<k.length then([],false)else(k,o))
  rw [bJ h]
 ·rw [bk (by simp;omega)]
  show _=some (if 16<k.length then([],false)else(k,o))
  rw [bk h]
def PI(n:av):wY n []=some ⟨[⟨n.Tag,-1,-1,n.Col,n.Value⟩]⟩:=by
 unfold wY m4
 rw [cd (by simp)]
 rfl
def yW: ∀k:List Int,wU k=some (decide ((4:Int)∈k))
 |[]=>rfl
 |x::k=>by
  have ih:=yW k
  unfold wU at ih ⊢
  unfold sW
  by_cases h:x=4
  ·rw [bJ (by simp [h])];simp [h]
  ·rw [bk (by simpa using h),ih]
   have: ¬(4:Int)=x:=fun e=>h e.symm
   simp [this]
def Bf(nx:Nat->tV->dZ->Option ((List Int)×Bool))(i:Nat)(n1:tV)(l:dZ): ∀(k:List Int) (p:tV),K3 k->p.Items.length+k.length<=1000->dQ nx i n1 l k p=dQ nx i n1 l [] {p with Items:=p.Items++k.map KX}
 |[],p,_,_=>by simp
 |x::k,p,hk,hl=>by
  simp only [iG]at hl
  have V:=hk x (qa ..)
  have key: ∀e2:av,(⟨[⟨e2.Tag,-1,-1,e2.Col,e2.Value⟩]⟩:aW)=KX x->mN (dQ nx i n1 l k) p e2=dQ nx i n1 l [] {p with Items:=p.Items++(x::k).map KX}:=by
   intro e2 he
   unfold mN
   rw [PI,bG,he,cd (by simp;omega),bG,Bf nx i n1 l k _ (fun y hy=>hk y (ry _ hy)) (by simp;omega)]
   simp
  conv=>lhs;unfold dQ
  by_cases h0:0<x
  ·rw [bJ (by simpa using h0)]
   refine key _ ?_
   unfold KX
   rw [bJ h0,fg (by omega) (by omega)]
  ·rw [bk (by simpa using h0)]
   refine key _ ?_
   unfold KX
   rw [bk h0]
def O4{n:tV}(hn:jJ n)(hop:n.Op=1)(hA:n.A= -1)(hB:n.B= -1)(ho:Cg n=true):dO n []=some (GU n [] []):=by
 unfold dO cb
 rw [cd (by simp),bG]
 show((nT ⟨[n]⟩ ((0:Nat):Int)).bind _)=_
 have hi:gB (⟨[n]⟩:dZ).Nodes ((0:Nat):Int)=some n:=rfl
 have hsz: ∀fu,0+1<fu->d9 fu ⟨[n]⟩ ((0:Nat):Int)=some ((1:Nat):Int):=fun fu hf=>by
  obtain⟨fu,rfl⟩: ∃k,fu=k+1:=⟨fu-1,by omega⟩
  rw [Ed hi (by show 0<1;omega) (by show 1<=1000;omega),bJ hop,bJ ⟨hA,hB⟩]
  rfl
 have:=yq (FC ⟨[n]⟩) hi (by show 1<=1000;omega) (by show 0<1;omega) (eJ _) hsz ⟨fun _=>⟨hA,hB⟩,fun h=>absurd hop h,fun h=>by omega,fun h=>absurd hop h⟩ ho (by rw [hop];rfl) (a:=[]) (b:=[]) (fun h=>absurd hop h) (fun h=>by omega) (fun _=>rfl) (fun _=>rfl) dk (xN (B4 _) (pj (by omega)))
 unfold nT
 rw [this,LS (by rfl) (by show 1<=1000;omega) (Vz hn hop),bG]
def jJ.AB{n:tV}(h:jJ n)(A B:Int):jJ {n with A:=A,B:=B}:=⟨h.cond,h.kinds,h.keys,h.aggs,h.items,h.order,h.args,h.exprs⟩
def Rl{n:tV}(hn:jJ n)(hop:F0 n.Op=true)(A B:Int){a b:List Int}(hal:a.length<=16)(hbl:b.length<=16):cK {n with A:=A,B:=B} a b=cK n a b:=by
 have hn' :=hn.AB A B
 rcases oP hop with h|h|h|h|h|h|h|h
 ·rw [Vz hn h,Vz hn' h]
 ·rw [YG h hal hbl,YG (n:={n with A:=A,B:=B}) h hal hbl]
 ·rw [YF h,YF (n:={n with A:=A,B:=B}) h]
 ·rw [YE hn h,YE hn' h]
 ·rw [Wz hn h,Wz hn' h]
 ·rw [Zo h,Zo (n:={n with A:=A,B:=B}) h]
 ·rw [Zn h hal,Zn (n:={n with A:=A,B:=B}) h hal]
 ·rw [YD hn h,YD hn' h]
def Q4{n:tV}(hn:jJ n)(hop:F0 n.Op=true)(A B:Int){a b:List Int}(hal:a.length<=16)(hbl:b.length<=16):GU {n with A:=A,B:=B} a b=GU n a b:=by
 unfold GU
 rw [Rl hn hop A B hal hbl]
def MZ{n:tV}(hn:jJ n)(hop:F0 n.Op=true){a b:List Int}(hal:a.length<=16)(hbl:b.length<=16): ∃k o,cK n a b=some (k,o):=by
 rcases oP hop with h|h|h|h|h|h|h|h
 ·exact⟨_,_,Vz hn h⟩
 ·exact⟨_,_,YG h hal hbl⟩
 ·exact⟨_,_,YF h⟩
 ·rw [YE hn h];split<;>exact⟨_,_,rfl⟩
 ·exact⟨_,_,Wz hn h⟩
 ·exact⟨_,_,Zo h⟩
 ·rw [Zn h hal];split<;>exact⟨_,_,rfl⟩
 ·exact⟨_,_,YD hn h⟩
def Bg(n:tV){a:List Int}(h:(4:Int)∈a)(t:List (List Int))(i:Nat)(l:dZ):cb (a::t) i n l=some ([],false):=by
 unfold cb
 rw [yW,bG,bJ (by simpa using h)]
def JZ{n:tV}(hn:jJ n)(hop:F0 n.Op=true)(X:n.Op≠1)(h27: ¬(n.Op=2\/n.Op=7))(hB:n.B= -1)(ho:Cg n=true){a:List Int}(ha:Kd a)(h3:K3 a):dO n [a]=some (GU n a []):=by
 have hal:=ha.le
 have hap:=ha.pos
 have hn' :=hn.AB 1 n.B
 unfold dO cb
 rw [yW,bG,bk (by simpa using h3.four),Bf _ _ _ _ _ _ h3 (by show 0+a.length<=1000;omega)]
 unfold dQ
 show((app ([]:List tV) [lN,kK 0 a]).bind fun l5=>if(((0:Nat):Int)==(0:Int))then(cb [] 1 {n with A:=IntKind.i64.wrap ((l5.length:Int)-1)} ⟨l5⟩)else(cb [] 1 {n with B:=IntKind.i64.wrap ((l5.length:Int)-1)} ⟨l5⟩))=_
 rw [cd (by simp),bG,bJ (by rfl)]
 show cb [] 1 {n with A:=1} ⟨[lN,kK 0 a]⟩=_
 unfold cb
 rw [cd (by simp),bG]
 show((nT ⟨[lN,kK 0 a,{n with A:=1}]⟩ ((2:Nat):Int)).bind _)=_
 have hI:=Ce (l:=⟨[lN,kK 0 a,{n with A:=1}]⟩) (k:=a) (FC _) rfl rfl (by show 3<=1000;omega) (by show 1<3;omega) hap hal h3
 have hi:gB (⟨[lN,kK 0 a,{n with A:=1}]⟩:dZ).Nodes ((2:Nat):Int)=some {n with A:=1}:=rfl
 have hsz: ∀fu,2+1<fu->d9 fu ⟨[lN,kK 0 a,{n with A:=1}]⟩ ((2:Nat):Int)=some ((3:Nat):Int):=fun fu hf=>by
  obtain⟨fu,rfl⟩: ∃k,fu=k+1:=⟨fu-1,by omega⟩
  rw [Ed hi (by show 2<3;omega) (by show 3<=1000;omega),bk X,bk h27,bJ hop,bJ ⟨rfl,hB⟩]
  have:=hI.2.size fu (by omega)
  show((d9 fu ⟨[lN,kK 0 a,{n with A:=1}]⟩ ((0+1:Nat):Int)).bind _)=_
  rw [this]
  rfl
 have:=yq hI.1 hi (by show 3<=1000;omega) (by show 2<3;omega) (by omega) hsz ⟨fun h=>absurd h X,fun _=>⟨by omega,by show(0:Int)<=1;omega,by show(1:Int)<((2:Nat):Int);omega⟩,fun h=>absurd h h27,fun _ _ _=>hB⟩ (by exact ho) hop (a:=a) (b:=[]) (fun _=>rfl) (fun h=>absurd h h27) (fun h=>absurd h X) (fun _=>rfl) dk (xN (B4 _) (pj (by omega)))
 unfold nT
 obtain⟨k,o,hk⟩:=MZ (n:={n with A:=1}) (a:=a) (b:=[]) hn' hop hal (by simp)
 rw [this,LS (by rfl) (by show 3<=1000;omega) hk,bG]
 have e:=Q4 hn hop 1 n.B hal (b:=[]) (by simp)
 exact congrArg some e
def QZ{n:tV}(hn:jJ n)(h27:n.Op=2\/n.Op=7)(ho:Cg n=true){a b:List Int}(ha:Kd a)(h3:K3 a)(H:Kd b)(h3b:K3 b):dO n [a,b]=some (GU n a b):=by
 have hal:=ha.le
 have hap:=ha.pos
 have hbl:=H.le
 have hbp:=H.pos
 have hop:F0 n.Op=true:=by rcases h27 with h|h<;>rw [h]<;>rfl
 have X:n.Op≠1:=by omega
 have hn' :=hn.AB 1 3
 unfold dO cb
 rw [yW,bG,bk (by simpa using h3.four),Bf _ _ _ _ _ _ h3 (by show 0+a.length<=1000;omega)]
 unfold dQ
 show((app ([]:List tV) [lN,kK 0 a]).bind fun l5=>if(((0:Nat):Int)==(0:Int))then(cb [b] 1 {n with A:=IntKind.i64.wrap ((l5.length:Int)-1)} ⟨l5⟩)else(cb [b] 1 {n with B:=IntKind.i64.wrap ((l5.length:Int)-1)} ⟨l5⟩))=_
 rw [cd (by simp),bG,bJ (by rfl)]
 show cb [b] 1 {n with A:=1} ⟨[lN,kK 0 a]⟩=_
 unfold cb
 rw [yW,bG,bk (by simpa using h3b.four),Bf _ _ _ _ _ _ h3b (by show 0+b.length<=1000;omega)]
 unfold dQ
 show((app [lN,kK 0 a] [lN,kK 2 b]).bind fun l5=>if(((1:Nat):Int)==(0:Int))then(cb [] 2 {n with A:=IntKind.i64.wrap ((l5.length:Int)-1)} ⟨l5⟩)else(cb [] 2 {n with A:=1,B:=IntKind.i64.wrap ((l5.length:Int)-1)} ⟨l5⟩))=_
 rw [cd (by simp),bG,bk (by decide)]
 show cb [] 2 {n with A:=1,B:=3} ⟨[lN,kK 0 a,lN,kK 2 b]⟩=_
 unfold cb
 rw [cd (by simp),bG]
 show((nT ⟨[lN,kK 0 a,lN,kK 2 b,{n with A:=1,B:=3}]⟩ ((4:Nat):Int)).bind _)=_
 have hI:=Ce (l:=⟨[lN,kK 0 a,lN,kK 2 b,{n with A:=1,B:=3}]⟩) (k:=a) (FC _) rfl rfl (by show 5<=1000;omega) (by show 1<5;omega) hap hal h3
 have hJ:=Ce (l:=⟨[lN,kK 0 a,lN,kK 2 b,{n with A:=1,B:=3}]⟩) (k:=b) hI.1 rfl rfl (by show 5<=1000;omega) (by show 3<5;omega) hbp hbl h3b
 have hi:gB (⟨[lN,kK 0 a,lN,kK 2 b,{n with A:=1,B:=3}]⟩:dZ).Nodes ((4:Nat):Int)=some {n with A:=1,B:=3}:=rfl
 have hsz: ∀fu,4+1<fu->d9 fu ⟨[lN,kK 0 a,lN,kK 2 b,{n with A:=1,B:=3}]⟩ ((4:Nat):Int)=some ((5:Nat):Int):=fun fu hf=>by
  obtain⟨fu,rfl⟩: ∃k,fu=k+1:=⟨fu-1,by omega⟩
  rw [Ed hi (by show 4<5;omega) (by show 5<=1000;omega),bk X,bJ h27,bJ (by rfl)]
  have g1:=hJ.2.size fu (by omega)
  have g2:=hI.2.size fu (by omega)
  show((d9 fu ⟨[lN,kK 0 a,lN,kK 2 b,{n with A:=1,B:=3}]⟩ ((2+1:Nat):Int)).bind _)=_
  rw [g1,bG,bJ (show((decide ((0:Int)<((2:Nat):Int)))&&((1:Int)==(IntKind.i64.wrap ((3:Int)-((2:Nat):Int)))))=true from by decide)]
  show((d9 fu ⟨[lN,kK 0 a,lN,kK 2 b,{n with A:=1,B:=3}]⟩ ((0+1:Nat):Int)).bind _)=_
  rw [g2]
  rfl
 have:=yq hJ.1 hi (by show 5<=1000;omega) (by show 4<5;omega) (by omega) hsz ⟨fun h=>absurd h X,fun _=>⟨by omega,by show(0:Int)<=1;omega,by show(1:Int)<((4:Nat):Int);omega⟩,fun _=>by show(3:Int)=((4:Nat):Int)-1;omega,fun _ K h7=>(by rcases h27 with h|h;exact absurd h K;exact absurd h h7)⟩ (by exact ho) hop (a:=a) (b:=b) (fun _=>rfl) (fun _=>rfl) (fun h=>absurd h X) (fun h=>absurd h27 h) dk (xN (B4 _) (pj (by omega)))
 unfold nT
 obtain⟨k,o,hk⟩:=MZ (n:={n with A:=1,B:=3}) (a:=a) (b:=b) hn' hop hal hbl
 rw [this,LS (by rfl) (by show 5<=1000;omega) hk,bG]
 have e:=Q4 hn hop 1 3 hal hbl
 exact congrArg some e
end Go.Proofs.YtdohlidddcgfjaaGreat

