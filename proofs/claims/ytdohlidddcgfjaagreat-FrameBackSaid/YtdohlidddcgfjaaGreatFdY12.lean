/- bT of this claim: Y12. -/
import Derived.Test.YtdohlidddcgfjaaGreatFdY11
import Derived.KernelRfl
set_option linter.all false
namespace Go.Proofs.YtdohlidddcgfjaaGreat
open Go

structure Kd(k:List Int):Prop where
 pos:1<=k.length
 le:k.length<=16
 vals: ∀x∈k,0<=x/\x<=4
def K3(k:List Int):Prop:= ∀x∈k,0<=x/\x<=3
def Kd.k3{k:List Int}(h:Kd k)(h4:(4:Int)∉k):K3 k:=fun x V=>by
 have:=h.vals x V
 have:x≠4:=fun e=>h4 (e▸V)
 omega
def K3.four{k:List Int}(h:K3 k):(4:Int)∉k:=fun V=>by have:=h 4 V;omega
def N5{e:aP}{kinds:List Int}(h:(gh e kinds).2=0):0<=(gh e kinds).1/\(gh e kinds).1<=3:=by
 unfold gh at h ⊢
 by_cases Y:my e.Nodes=true
 ·by_cases X:Si kinds=true
  ·by_cases d:rt kinds.length e.Nodes=true
   ·simp only [Y,X,d,jL]at h ⊢
    cases D:ra e.Nodes with
    |none=>simp [D]at h
    |some t=>
     cases hk:kd kinds t with
     |none=>simp [D,hk]at h
     |some k=>
      have:=N6 (fun k hk=>Iq X hk) t (mR D).1 hk
      simp only [D,hk,bg]
      unfold k4 at this
      omega
   ·simp [Y,X,d]at h
  ·simp [Y,X]at h
 ·simp [Y]at h
def abZ{g:eS}{a:List Int}(h:(M8 g a).2=true):0<=(M8 g a).1/\(M8 g a).1<=3:=by
 obtain⟨e1,e2⟩:=Br g a
 rw [h]at e1
 rw [<-e2 e1]
 unfold Bs at e1 ⊢
 by_cases Y:g.Tag=1
 ·simp [Y]
 by_cases d:g.Tag=3
 ·simp [d]
 by_cases h45:g.Tag=4\/g.Tag=5
 ·rw [aR Y,aR d,bh h45]at e1 ⊢
  simp only [lq,oJ]at e1
  exact N5 e1.1.1
 ·rw [aR Y,aR d,aR h45]
  simp
def Zl{a b:List Int}(ha:K3 a)(K:K3 b):K3 (List.zipWith HD a b):=by
 intro z hz
 obtain⟨i,hi,hzi⟩:=List.getElem_of_mem hz
 rw [List.getElem_zipWith]at hzi
 rw [<-hzi]
 unfold HD
 split
 ·exact K _ (F6 _)
 ·exact ha _ (F6 _)
def XB{a:List Int}{e:Int}(h:vj a e=false):QK a e∈a:=by
 simp [vj]at h
 unfold QK
 rw [tM (by omega)]
 exact F6 _
def V3{n:aa}{a b k:List Int}(hn:i0 n)(hop:FN n.Op=true)(ha:K3 a)(K:K3 b)(hal:a.length<=16)(hbl:b.length<=16)(hpa:n.Op≠1->1<=a.length)(h:cC n a b=some (k,true)):K3 k/\1<=k.length:=by
 rcases nm hop with Y|Y|Y|Y|Y|Y|Y|Y
 ·rw [V4 hn Y]at h
  injection h with h
  injection h with X d
  subst X
  simp only [lq,kQ,hX]at d
  exact⟨fun x V=>by have:=d.1.1.1.1 x V;omega,by omega⟩
 ·have hp:=hpa (by omega)
  rw [YX Y hal hbl]at h
  injection h with h
  injection h with X d
  subst X
  exact⟨fun x V=>(tQ.1 V).elim (ha x) (K x),by simp;omega⟩
 ·rw [YW Y]at h
  injection h with h
  injection h with X d
  subst X
  exact⟨ha,hpa (by omega)⟩
 ·rw [YV hn Y]at h
  cases hany:n.Keys.any (vj a)with
  |true=>rw [hany,bh rfl]at h;cases h
  |false=>
   rw [hany,aR (by simp)]at h
   injection h with h
   injection h with X d
   subst X
   simp only [lq,kQ,hX]at d
   refine⟨fun x V=>?_,by simp;omega⟩
   rcases tQ.1 V with V|V
   ·obtain⟨e,he,rfl⟩:=Ao.1 V
    exact ha _ (XB (by have:=Jg.1 hany e he;simpa using this))
   ·obtain⟨g,H,rfl⟩:=Ao.1 V
    exact abZ (d.1.1.1 g H)
 ·rw [Xh hn Y]at h
  injection h with h
  injection h with X d
  subst X
  simp only [lq,kQ,hX,oJ]at d
  refine⟨fun x V=>?_,by simp;omega⟩
  obtain⟨e,he,rfl⟩:=Ao.1 V
  exact N5 (d.1.1 e he)
 ·rw [ZM Y]at h
  injection h with h
  injection h with X d
  subst X
  exact⟨ha,hpa (by omega)⟩
 ·have hp:=hpa (by omega)
  rw [ZL Y hal]at h
  by_cases hl:a.length=b.length
  ·rw [bh hl]at h
   injection h with h
   injection h with X d
   subst X
   exact⟨Zl ha K,by simp;omega⟩
  ·rw [aR hl]at h;cases h
 ·rw [YU hn Y]at h
  injection h with h
  injection h with X d
  subst X
  exact⟨ha,hpa (by omega)⟩
def k7:aa:=⟨1,-1,-1,0,[1,2,3],false,⟨[]⟩,[],[],[],[],0⟩
def Ll(x:Int):aP:=if 0<x then⟨[⟨2,-1,-1,x-1,⟨0,0,0,[]⟩⟩]⟩else⟨[⟨1,-1,-1,0,⟨0,0,0,[]⟩⟩]⟩
def j0(j:Nat)(k:List Int):aa:=⟨5,(j:Int),-1,0,[],false,⟨[]⟩,[],[],k.map Ll,[],0⟩
def Qa:gh (Ll 0) [1,2,3]=(0,0):=by kernel_rfl
def PZ:gh (Ll 1) [1,2,3]=(1,0):=by kernel_rfl
def PY:gh (Ll 2) [1,2,3]=(2,0):=by kernel_rfl
def PX:gh (Ll 3) [1,2,3]=(3,0):=by kernel_rfl
def Km{x:Int}(h:0<=x/\x<=3):gh (Ll x) [1,2,3]=(x,0):=by
 have:x=0\/x=1\/x=2\/x=3:=by omega
 rcases this with rfl|rfl|rfl|rfl
 ·exact Qa
 ·exact PZ
 ·exact PY
 ·exact PX
def UD(x:Int):(Ll x).Nodes.length<=5000:=by
 unfold Ll
 split<;>(show 1<=5000;omega)
def JF:i0 k7:=⟨by decide,by decide,by decide,by decide,by decide,by decide,fun g H=>(by cases H),fun e he=>(by cases he)⟩
def JG(j:Nat){k:List Int}(hk:k.length<=16):i0 (j0 j k):=
 ⟨by show 0<=5000;omega,by show 0<=5000;omega,by show 0<=5000;omega,by show 0<=5000;omega,by show(k.map Ll).length<=5000;rw [F5];omega,by show 0<=5000;omega,fun g H=>(by cases H),fun e he=>by
  obtain⟨x,_,rfl⟩:=Ao.1 he
  exact UD x⟩
def D3{l:ie}{j:Nat}{n:aa}(hn:gR l.Nodes (j:Int)=some n)(hj:j<l.Nodes.length)(hl:l.Nodes.length<=1000)(fu:Nat):dG (fu+1) l (j:Int)=
  if n.Op=1 then(if n.A= -1/\n.B= -1 then some 1 else some 0)
  else if n.Op=2\/n.Op=7 then(if n.B=(j:Int)-1 then((dG fu) l n.B).bind (fun r2=>if((decide ((0:Int)<r2))&&(n.A==(IntKind.i64.wrap (n.B-r2))))then(((dG fu) l n.A).bind fun r3=>if(decide ((0:Int)<r3))then(some (IntKind.i64.wrap ((IntKind.i64.wrap (r3+r2))+(1:Int))))else(some (0:Int)))else(some (0:Int)))else some 0)
  else if FN n.Op=true then(if n.A=(j:Int)-1/\n.B= -1 then((dG fu) l n.A).bind (fun r1=>if(decide ((0:Int)<r1))then(some (IntKind.i64.wrap (r1+(1:Int))))else(some (0:Int)))else some 0)
  else some 0:=by
 conv=>lhs;unfold dG
 rw [aR (by simp;omega),hn]
 simp only [bg,Eo]
 by_cases Y:n.Op=1
 ·simp only [Y,jL]
  rw [bh (by decide)]
  by_cases hAB:n.A= -1/\n.B= -1
  ·rw [bh hAB,bh (by simp [hAB])]
  ·rw [aR hAB,aR (by simpa using hAB)]
 by_cases h27:n.Op=2\/n.Op=7
 ·simp only [Y,h27,jL,lD]
  rw [aR (by decide),aR (by decide),bh (by decide),eP (n:=(j:Int)-1) (by omega) (by omega)]
  by_cases hB:n.B=(j:Int)-1
  ·rw [bh (by simp [hB]),bh hB]
  ·rw [aR (by simpa using hB),aR hB]
 by_cases hop:FN n.Op=true
 ·simp only [Y,h27,hop,jL,lD]
  rw [aR (by decide),bh (by decide),eP (n:=(j:Int)-1) (by omega) (by omega)]
  by_cases hB:n.A=(j:Int)-1/\n.B= -1
  ·rw [bh (by simp [hB]),bh hB]
  ·rw [aR (by simpa using hB),aR hB]
 ·simp only [Y,h27,hop,lD]
  rw [aR (by decide),aR (by decide),aR (by decide)]
  rfl
def Fp(l:ie):QA l 0 [] []:=⟨rfl,rfl,fun j h=>absurd h (Nat.not_lt_zero _)⟩
def xK{l:ie}{i:Nat}{first:List Int}{kinds:List (List Int)}(hI:QA l i first kinds){n:aa}(hn:gR l.Nodes (i:Int)=some n)(hl:l.Nodes.length<=1000)(hi:i<l.Nodes.length){ae:Nat}(hs:1<=ae)(hsz: ∀fu,i+1<fu->dG fu l (i:Int)=some (ae:Int))(hp:VQ n i)(ho:BV n=true)(hop:FN n.Op=true){a b:List Int}(ha:n.Op≠1->gR kinds n.A=some a)(K:n.Op=2\/n.Op=7->gR kinds n.B=some b)(Y:n.Op=1->a=[])(h27: ¬(n.Op=2\/n.Op=7)->b=[]):
  ∀fu,i+1<fu->gY fu l (i:Int)=lc l (i:Int) n a b:=by
 obtain⟨p1,p2,p3,p4⟩:=hp
 have hsz0:Em l (i:Int)=some (ae:Int):=hsz fh (xc (BD _) (nM (by omega)))
 have hu: ∀fu,gY (fu+1) l (i:Int)=if(decide ((0:Int)<=n.A))then(((gY fu) l n.A).bind fun r4=>if(!r4.2)then(some ([],false))else(mD (gY fu) l (i:Int) n r4.1))else(mD (gY fu) l (i:Int) n ([])):=by
  intro fu
  conv=>lhs;unfold gY
  rw [hsz0,hn]
  simp only [bg,oS,ho]
  have: ¬(ae=0):=by omega
  simp [this]
 intro fu hf
 obtain⟨fu,rfl⟩: ∃k,fu=k+1:=⟨fu-1,by omega⟩
 by_cases hop1:n.Op=1
 ·obtain⟨hA,hB⟩:=p1 hop1
  rw [hu,aR (by simp [hA])]
  unfold mD
  rw [aR (by simp [hB]),Y hop1,h27 (by omega)]
 ·obtain⟨hi0,hA0,hAi⟩:=p2 hop1
  obtain⟨fA,kA,sA,g1,g2,g3⟩:=hI.node n.A.toNat (by omega)
  have eA:((n.A.toNat:Nat):Int)=n.A:=by omega
  have hkA:gR kinds n.A=some kA:=by rw [<-eA,eU];exact g2
  rw [ha hop1]at hkA
  cases hkA
  rw [hu,bh (by simpa using hA0)]
  have e1:=g3.kinds fu (by omega)
  rw [eA]at e1
  rw [e1]
  simp only [bg,sm,nV,lD]
  unfold mD
  by_cases hop27:n.Op=2\/n.Op=7
  ·have hB:=p3 hop27
   obtain⟨fB,kB,sB,q1,q2,q3⟩:=hI.node (i-1) (by omega)
   have eB:((i-1:Nat):Int)=n.B:=by omega
   have hkB:gR kinds n.B=some kB:=by rw [<-eB,eU];exact q2
   rw [K hop27]at hkB
   cases hkB
   rw [bh (by simp;omega)]
   have e2:=q3.kinds fu (by omega)
   rw [eB]at e2
   rw [e2]
   simp only [bg,sm,nV,lD]
  ·have hB:=p4 hop1 (fun h=>hop27 (.inl h)) (fun h=>hop27 (.inr h))
   rw [aR (by simp [hB]),h27 hop27]
def Mm{l:ie}{i:Nat}{first:List Int}{kinds:List (List Int)}(hI:QA l i first kinds)(hn:gR l.Nodes (i:Int)=some k7)(hl:l.Nodes.length<=1000)(hi:i<l.Nodes.length):Ci l i (i:Int) [1,2,3] 1:=by
 have hsz: ∀fu,i+1<fu->dG fu l (i:Int)=some ((1:Nat):Int):=fun fu hf=>by
  obtain⟨fu,rfl⟩: ∃k,fu=k+1:=⟨fu-1,by omega⟩
  rw [D3 hn hi hl]
  rfl
 refine⟨eg _,by omega,by omega,hsz,by decide,fun fu hf=>?_⟩
 rw [xK hI hn hl hi (eg _) hsz ⟨fun _=>⟨rfl,rfl⟩,fun h=>absurd rfl h,fun h=>(by rcases h with h|h<;>cases h),fun h=>absurd rfl h⟩ (by rfl) (by rfl) (a:=[]) (b:=[]) (fun h=>absurd rfl h) (fun h=>by rcases h with h|h<;>cases h) (fun _=>rfl) (fun _=>rfl) fu hf]
 unfold lc
 rw [V4 JF rfl,bg]
 rfl
def Mn{l:ie}{i:Nat}{first:List Int}{kinds:List (List Int)}{k:List Int}(hI:QA l (i+1) first kinds)(h0:Ci l i (i:Int) [1,2,3] 1)(hk0:kinds[i]? =some [1,2,3])(hn:gR l.Nodes ((i+1:Nat):Int)=some (j0 i k))(hl:l.Nodes.length<=1000)(hi:i+1<l.Nodes.length)(hk1:1<=k.length)(hk2:k.length<=16)(hk3:K3 k):Ci l (i+1) (i:Int) k 2:=by
 have hsz: ∀fu,i+1+1<fu->dG fu l ((i+1:Nat):Int)=some ((2:Nat):Int):=fun fu hf=>by
  obtain⟨fu,rfl⟩: ∃k,fu=k+1:=⟨fu-1,by omega⟩
  rw [D3 hn hi hl,aR (by show¬(5:Int)=1;decide),aR (by show¬((5:Int)=2\/(5:Int)=7);decide),bh (by rfl),bh ⟨by show(i:Int)=((i+1:Nat):Int)-1;omega,rfl⟩]
  show((dG fu l (i:Int)).bind _)=_
  rw [h0.size fu (by omega),bg,bh (by decide)]
  rfl
 refine⟨by omega,by omega,by omega,hsz,hk2,fun fu hf=>?_⟩
 rw [xK hI hn hl hi (by omega) hsz ⟨fun h=>(by cases h),fun _=>⟨by omega,by show(0:Int)<=(i:Int);omega,by show(i:Int)<((i+1:Nat):Int);omega⟩,fun h=>(by rcases h with h|h<;>cases h),fun _ _ _=>rfl⟩ (by rfl) (by rfl) (a:=[1,2,3]) (b:=[]) (fun _=>by show gR kinds (i:Int)=_;rw [eU];exact hk0) (fun h=>by rcases h with h|h<;>cases h) (fun h=>by cases h) (fun _=>rfl) fu hf]
 unfold lc
 rw [Xh (JG i hk2) rfl,bg]
 have e1:(j0 i k).Items.map (fun e=>(gh e [1,2,3]).1)=k:=by
  show(k.map Ll).map _=k
  rw [List.map_map]
  conv=>rhs;rw [<-List.map_id k]
  exact F9 fun x V=>by show(gh (Ll x) [1,2,3]).1=x;rw [Km (hk3 x V)]
 have e2:((j0 i k).Items.all fun e=>(gh e [1,2,3]).2==0)=true:=by
  rw [kQ]
  intro e he
  obtain⟨x,V,rfl⟩:=Ao.1 he
  rw [Km (hk3 x V)];rfl
 have e3:(j0 i k).Items.length=k.length:=F5 ..
 rw [e1,e2,e3,aR (by show¬(((5:Int)==8)&&_||decide ((16:Int)<(k.length:Int)))=true;simp;omega)]
 simp only [nC]
 congr 2
 simp
 omega
def BT{l:ie}{i:Nat}{first:List Int}{kinds:List (List Int)}{k:List Int}(hI:QA l i first kinds)(Y:gR l.Nodes (i:Int)=some k7)(X:gR l.Nodes ((i+1:Nat):Int)=some (j0 i k))(hl:l.Nodes.length<=1000)(hi:i+1<l.Nodes.length)(hk1:1<=k.length)(hk2:k.length<=16)(hk3:K3 k):
  QA l (i+2) (first++[(i:Int)]++[(i:Int)]) (kinds++[[1,2,3]]++[k])/\Ci l (i+1) (i:Int) k 2:=by
 have n0:=Mm hI Y hl (by omega)
 have I1:=hI.push n0
 have n1:=Mn I1 n0 (by rw [wW (by rw [hI.kl];exact eg _),hI.kl,wH];rfl) X hl hi hk1 hk2 hk3
 exact⟨I1.push n1,n1⟩
def GH(n:aa)(a b:List Int):List Int×Bool:=match cC n a b with
 |some (k,o)=>if 16<k.length then([],false)else(k,o)
 |none=>([],false)
def Ms{l:ie}{i:Nat}{n:aa}{a b:List Int}(hlast:i+1=l.Nodes.length)(hl:l.Nodes.length<=1000){k:List Int}{o:Bool}(hk:cC n a b=some (k,o)):lc l (i:Int) n a b=some (GH n a b):=by
 unfold lc GH
 rw [hk,bg,eP (by omega) (by omega)]
 have:((i:Int) !=(l.Nodes.length:Int)-1)=false:=by simp;omega
 rw [this,Bool.and_false,uH]
 by_cases h:16<k.length
 ·rw [bh (by simp;omega)]
  show _=some (if 16<k.length then([],false)else(k,o))
  rw [bh h]
 ·rw [aR (by simp;omega)]
  show _=some (if 16<k.length then([],false)else(k,o))
  rw [aR h]
def Qy(n:ap):zI n []=some ⟨[⟨n.Tag,-1,-1,n.Col,n.Value⟩]⟩:=by
 unfold zI uM
 rw [cK (by simp)]
 rfl
def yo: ∀k:List Int,zF k=some (decide ((4:Int)∈k))
 |[]=>rfl
 |x::k=>by
  have ih:=yo k
  unfold zF at ih ⊢
  unfold uK
  by_cases h:x=4
  ·rw [bh (by simp [h])];simp [h]
  ·rw [aR (by simpa using h),ih]
   have: ¬(4:Int)=x:=fun e=>h e.symm
   simp [this]
def AQ(nx:Nat->aa->ie->Option ((List Int)×Bool))(i:Nat)(n1:aa)(l:ie): ∀(k:List Int) (p:aa),K3 k->p.Items.length+k.length<=1000->dX nx i n1 l k p=dX nx i n1 l [] {p with Items:=p.Items++k.map Ll}
 |[],p,_,_=>by simp
 |x::k,p,hk,hl=>by
  simp only [iB]at hl
  have V:=hk x (nA ..)
  have key: ∀e2:ap,(⟨[⟨e2.Tag,-1,-1,e2.Col,e2.Value⟩]⟩:aP)=Ll x->nJ (dX nx i n1 l k) p e2=dX nx i n1 l [] {p with Items:=p.Items++(x::k).map Ll}:=by
   intro e2 he
   unfold nJ
   rw [Qy,bg,he,cK (by simp;omega),bg,AQ nx i n1 l k _ (fun y hy=>hk y (pp _ hy)) (by simp;omega)]
   simp
  conv=>lhs;unfold dX
  by_cases h0:0<x
  ·rw [bh (by simpa using h0)]
   refine key _ ?_
   unfold Ll
   rw [bh h0,eP (by omega) (by omega)]
  ·rw [aR (by simpa using h0)]
   refine key _ ?_
   unfold Ll
   rw [aR h0]
def PL{n:aa}(hn:i0 n)(hop:n.Op=1)(hA:n.A= -1)(hB:n.B= -1)(ho:BV n=true):dE n []=some (GH n [] []):=by
 unfold dE bX
 rw [cK (by simp),bg]
 show((od ⟨[n]⟩ ((0:Nat):Int)).bind _)=_
 have hi:gR (⟨[n]⟩:ie).Nodes ((0:Nat):Int)=some n:=rfl
 have hsz: ∀fu,0+1<fu->dG fu ⟨[n]⟩ ((0:Nat):Int)=some ((1:Nat):Int):=fun fu hf=>by
  obtain⟨fu,rfl⟩: ∃k,fu=k+1:=⟨fu-1,by omega⟩
  rw [D3 hi (by show 0<1;omega) (by show 1<=1000;omega),bh hop,bh ⟨hA,hB⟩]
  rfl
 have:=xK (Fp ⟨[n]⟩) hi (by show 1<=1000;omega) (by show 0<1;omega) (eg _) hsz ⟨fun _=>⟨hA,hB⟩,fun h=>absurd hop h,fun h=>by omega,fun h=>absurd hop h⟩ ho (by rw [hop];rfl) (a:=[]) (b:=[]) (fun h=>absurd hop h) (fun h=>by omega) (fun _=>rfl) (fun _=>rfl) fh (xc (BD _) (nM (by omega)))
 unfold od
 rw [this,Ms (by rfl) (by show 1<=1000;omega) (V4 hn hop),bg]
def i0.AB{n:aa}(h:i0 n)(A B:Int):i0 {n with A:=A,B:=B}:=⟨h.cond,h.kinds,h.keys,h.aggs,h.items,h.order,h.args,h.exprs⟩
def Sg{n:aa}(hn:i0 n)(hop:FN n.Op=true)(A B:Int){a b:List Int}(hal:a.length<=16)(hbl:b.length<=16):cC {n with A:=A,B:=B} a b=cC n a b:=by
 have hn' :=hn.AB A B
 rcases nm hop with h|h|h|h|h|h|h|h
 ·rw [V4 hn h,V4 hn' h]
 ·rw [YX h hal hbl,YX (n:={n with A:=A,B:=B}) h hal hbl]
 ·rw [YW h,YW (n:={n with A:=A,B:=B}) h]
 ·rw [YV hn h,YV hn' h]
 ·rw [Xh hn h,Xh hn' h]
 ·rw [ZM h,ZM (n:={n with A:=A,B:=B}) h]
 ·rw [ZL h hal,ZL (n:={n with A:=A,B:=B}) h hal]
 ·rw [YU hn h,YU hn' h]
def RT{n:aa}(hn:i0 n)(hop:FN n.Op=true)(A B:Int){a b:List Int}(hal:a.length<=16)(hbl:b.length<=16):GH {n with A:=A,B:=B} a b=GH n a b:=by
 unfold GH
 rw [Sg hn hop A B hal hbl]
def NI{n:aa}(hn:i0 n)(hop:FN n.Op=true){a b:List Int}(hal:a.length<=16)(hbl:b.length<=16): ∃k o,cC n a b=some (k,o):=by
 rcases nm hop with h|h|h|h|h|h|h|h
 ·exact⟨_,_,V4 hn h⟩
 ·exact⟨_,_,YX h hal hbl⟩
 ·exact⟨_,_,YW h⟩
 ·rw [YV hn h];split<;>exact⟨_,_,rfl⟩
 ·exact⟨_,_,Xh hn h⟩
 ·exact⟨_,_,ZM h⟩
 ·rw [ZL h hal];split<;>exact⟨_,_,rfl⟩
 ·exact⟨_,_,YU hn h⟩
def AR(n:aa){a:List Int}(h:(4:Int)∈a)(t:List (List Int))(i:Nat)(l:ie):bX (a::t) i n l=some ([],false):=by
 unfold bX
 rw [yo,bg,bh (by simpa using h)]
def J2{n:aa}(hn:i0 n)(hop:FN n.Op=true)(Y:n.Op≠1)(h27: ¬(n.Op=2\/n.Op=7))(hB:n.B= -1)(ho:BV n=true){a:List Int}(ha:Kd a)(d:K3 a):dE n [a]=some (GH n a []):=by
 have hal:=ha.le
 have hap:=ha.pos
 have hn' :=hn.AB 1 n.B
 unfold dE bX
 rw [yo,bg,aR (by simpa using d.four),AQ _ _ _ _ _ _ d (by show 0+a.length<=1000;omega)]
 unfold dX
 show((app ([]:List aa) [k7,j0 0 a]).bind fun l5=>if(((0:Nat):Int)==(0:Int))then(bX [] 1 {n with A:=IntKind.i64.wrap ((l5.length:Int)-1)} ⟨l5⟩)else(bX [] 1 {n with B:=IntKind.i64.wrap ((l5.length:Int)-1)} ⟨l5⟩))=_
 rw [cK (by simp),bg,bh (by rfl)]
 show bX [] 1 {n with A:=1} ⟨[k7,j0 0 a]⟩=_
 unfold bX
 rw [cK (by simp),bg]
 show((od ⟨[k7,j0 0 a,{n with A:=1}]⟩ ((2:Nat):Int)).bind _)=_
 have hI:=BT (l:=⟨[k7,j0 0 a,{n with A:=1}]⟩) (k:=a) (Fp _) rfl rfl (by show 3<=1000;omega) (by show 1<3;omega) hap hal d
 have hi:gR (⟨[k7,j0 0 a,{n with A:=1}]⟩:ie).Nodes ((2:Nat):Int)=some {n with A:=1}:=rfl
 have hsz: ∀fu,2+1<fu->dG fu ⟨[k7,j0 0 a,{n with A:=1}]⟩ ((2:Nat):Int)=some ((3:Nat):Int):=fun fu hf=>by
  obtain⟨fu,rfl⟩: ∃k,fu=k+1:=⟨fu-1,by omega⟩
  rw [D3 hi (by show 2<3;omega) (by show 3<=1000;omega),aR Y,aR h27,bh hop,bh ⟨rfl,hB⟩]
  have:=hI.2.size fu (by omega)
  show((dG fu ⟨[k7,j0 0 a,{n with A:=1}]⟩ ((0+1:Nat):Int)).bind _)=_
  rw [this]
  rfl
 have:=xK hI.1 hi (by show 3<=1000;omega) (by show 2<3;omega) (by omega) hsz ⟨fun h=>absurd h Y,fun _=>⟨by omega,by show(0:Int)<=1;omega,by show(1:Int)<((2:Nat):Int);omega⟩,fun h=>absurd h h27,fun _ _ _=>hB⟩ (by exact ho) hop (a:=a) (b:=[]) (fun _=>rfl) (fun h=>absurd h h27) (fun h=>absurd h Y) (fun _=>rfl) fh (xc (BD _) (nM (by omega)))
 unfold od
 obtain⟨k,o,hk⟩:=NI (n:={n with A:=1}) (a:=a) (b:=[]) hn' hop hal (by simp)
 rw [this,Ms (by rfl) (by show 3<=1000;omega) hk,bg]
 have e:=RT hn hop 1 n.B hal (b:=[]) (by simp)
 exact congrArg some e
def RQ{n:aa}(hn:i0 n)(h27:n.Op=2\/n.Op=7)(ho:BV n=true){a b:List Int}(ha:Kd a)(d:K3 a)(K:Kd b)(h3b:K3 b):dE n [a,b]=some (GH n a b):=by
 have hal:=ha.le
 have hap:=ha.pos
 have hbl:=K.le
 have hbp:=K.pos
 have hop:FN n.Op=true:=by rcases h27 with h|h<;>rw [h]<;>rfl
 have Y:n.Op≠1:=by omega
 have hn' :=hn.AB 1 3
 unfold dE bX
 rw [yo,bg,aR (by simpa using d.four),AQ _ _ _ _ _ _ d (by show 0+a.length<=1000;omega)]
 unfold dX
 show((app ([]:List aa) [k7,j0 0 a]).bind fun l5=>if(((0:Nat):Int)==(0:Int))then(bX [b] 1 {n with A:=IntKind.i64.wrap ((l5.length:Int)-1)} ⟨l5⟩)else(bX [b] 1 {n with B:=IntKind.i64.wrap ((l5.length:Int)-1)} ⟨l5⟩))=_
 rw [cK (by simp),bg,bh (by rfl)]
 show bX [b] 1 {n with A:=1} ⟨[k7,j0 0 a]⟩=_
 unfold bX
 rw [yo,bg,aR (by simpa using h3b.four),AQ _ _ _ _ _ _ h3b (by show 0+b.length<=1000;omega)]
 unfold dX
 show((app [k7,j0 0 a] [k7,j0 2 b]).bind fun l5=>if(((1:Nat):Int)==(0:Int))then(bX [] 2 {n with A:=IntKind.i64.wrap ((l5.length:Int)-1)} ⟨l5⟩)else(bX [] 2 {n with A:=1,B:=IntKind.i64.wrap ((l5.length:Int)-1)} ⟨l5⟩))=_
 rw [cK (by simp),bg,aR (by decide)]
 show bX [] 2 {n with A:=1,B:=3} ⟨[k7,j0 0 a,k7,j0 2 b]⟩=_
 unfold bX
 rw [cK (by simp),bg]
 show((od ⟨[k7,j0 0 a,k7,j0 2 b,{n with A:=1,B:=3}]⟩ ((4:Nat):Int)).bind _)=_
 have hI:=BT (l:=⟨[k7,j0 0 a,k7,j0 2 b,{n with A:=1,B:=3}]⟩) (k:=a) (Fp _) rfl rfl (by show 5<=1000;omega) (by show 1<5;omega) hap hal d
 have hJ:=BT (l:=⟨[k7,j0 0 a,k7,j0 2 b,{n with A:=1,B:=3}]⟩) (k:=b) hI.1 rfl rfl (by show 5<=1000;omega) (by show 3<5;omega) hbp hbl h3b
 have hi:gR (⟨[k7,j0 0 a,k7,j0 2 b,{n with A:=1,B:=3}]⟩:ie).Nodes ((4:Nat):Int)=some {n with A:=1,B:=3}:=rfl
 have hsz: ∀fu,4+1<fu->dG fu ⟨[k7,j0 0 a,k7,j0 2 b,{n with A:=1,B:=3}]⟩ ((4:Nat):Int)=some ((5:Nat):Int):=fun fu hf=>by
  obtain⟨fu,rfl⟩: ∃k,fu=k+1:=⟨fu-1,by omega⟩
  rw [D3 hi (by show 4<5;omega) (by show 5<=1000;omega),aR Y,bh h27,bh (by rfl)]
  have g1:=hJ.2.size fu (by omega)
  have g2:=hI.2.size fu (by omega)
  show((dG fu ⟨[k7,j0 0 a,k7,j0 2 b,{n with A:=1,B:=3}]⟩ ((2+1:Nat):Int)).bind _)=_
  rw [g1,bg,bh (show((decide ((0:Int)<((2:Nat):Int)))&&((1:Int)==(IntKind.i64.wrap ((3:Int)-((2:Nat):Int)))))=true from by decide)]
  show((dG fu ⟨[k7,j0 0 a,k7,j0 2 b,{n with A:=1,B:=3}]⟩ ((0+1:Nat):Int)).bind _)=_
  rw [g2]
  rfl
 have:=xK hJ.1 hi (by show 5<=1000;omega) (by show 4<5;omega) (by omega) hsz ⟨fun h=>absurd h Y,fun _=>⟨by omega,by show(0:Int)<=1;omega,by show(1:Int)<((4:Nat):Int);omega⟩,fun _=>by show(3:Int)=((4:Nat):Int)-1;omega,fun _ X h7=>(by rcases h27 with h|h;exact absurd h X;exact absurd h h7)⟩ (by exact ho) hop (a:=a) (b:=b) (fun _=>rfl) (fun _=>rfl) (fun h=>absurd h Y) (fun h=>absurd h27 h) fh (xc (BD _) (nM (by omega)))
 unfold od
 obtain⟨k,o,hk⟩:=NI (n:={n with A:=1,B:=3}) (a:=a) (b:=b) hn' hop hal hbl
 rw [this,Ms (by rfl) (by show 5<=1000;omega) hk,bg]
 have e:=RT hn hop 1 3 hal hbl
 exact congrArg some e
end Go.Proofs.YtdohlidddcgfjaaGreat

