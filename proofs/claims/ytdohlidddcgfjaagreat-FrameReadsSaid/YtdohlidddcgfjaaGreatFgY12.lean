import Derived.Test.YtdohlidddcgfjaaGreatFgY11
import Derived.KernelRfl
set_option linter.all false
namespace Go.Proofs.YtdohlidddcgfjaaGreat
open Go IntKind
structure Kd(k:List Int):Prop where
 pos:1<=k.length
 le:k.length<=16
 vals: ∀x∈k,0<=x/\x<=4
def K3(k:List Int):Prop:= ∀x∈k,0<=x/\x<=3
def Kd.k3{k:List Int}(h:Kd k)(h4:(4:Int)∉k):K3 k:=fun x K=>by
 have:=h.vals x K;have:x≠4:=fun e=>h4 (e▸K);omega
def K3.four{k:List Int}(h:K3 k):(4:Int)∉k:=fun K=>by have:=h 4 K;omega
def RV{e:bQ}{g':List Int}(h:(iK e g').2=0):0<=(iK e g').1/\(iK e g').1<=3:=by
 unfold iK at h ⊢;by_cases H:pt e.i'=true
 ·by_cases W:V5 g'=true
  ·by_cases h3:u4 g'.length e.i'=true
   ·simp only [H,W,h3,gQ]at h ⊢
    cases D:uO e.i' with
    |none=>simp [D]at h
    |some t=>
     cases hk:kd g' t with
     |none=>simp [D,hk]at h
     |some k=>
      have:=RW (fun k hk=>LH W hk) t (o6 D).1 hk;simp only [D,hk,bz];unfold k4 at this;omega
   ·simp [H,W,h3]at h
  ·simp [H,W]at h
 ·simp [H]at h
def afC{g:f9}{a:List Int}(h:(Q7 g a).2=true):0<=(Q7 g a).1/\(Q7 g a).1<=3:=by
 obtain⟨e1,e2⟩:=EB g a;rw [h]at e1;rw [<-e2 e1];unfold EC at e1 ⊢;by_cases H:g.Tag=1
 ·simp [H]
 by_cases h3:g.Tag=3
 ·simp [h3]
 by_cases h45:g.Tag=4\/g.Tag=5
 ·rw [bB H,bB h3,bM h45]at e1 ⊢;simp only [nw,oJ]at e1;exact RV e1.1.1
 ·rw [bB H,bB h3,bB h45];simp
def ac6{a b:List Int}(ha:K3 a)(V:K3 b):K3 (List.zipWith KU a b):=by
 intro z hz;obtain⟨i,hi,hzi⟩:=List.getElem_of_mem hz;rw [List.getElem_zipWith]at hzi;rw [<-hzi];unfold KU;split
 ·exact V _ (Jy _)
 ·exact ha _ (Jy _)
def abw{a:List Int}{e:Int}(h:yL a e=false):UM a e∈a:=by
 simp [yL]at h;unfold UM;rw [vp (by omega)];exact Jy _
def aam{n:al}{a b k:List Int}(hn:kq n)(hop:Je n.Op=true)(ha:K3 a)(V:K3 b)(hal:a.length<=16)(hbl:b.length<=16)(hpa:n.Op≠1->1<=a.length)(h:dq n a b=some (k,true)):K3 k/\1<=k.length:=by
 rcases tK hop with H|H|H|H|H|H|H|H
 ·rw [rk1 hn H]at h;injection h with h;injection h with W h3;subst W;simp only [nw,mI,mS]at h3;exact⟨fun x K=>by have:=h3.1.1.1.1 x K;omega,by omega⟩
 ·have hp:=hpa (by omega);rw [rk2 H hal hbl]at h;injection h with h;injection h with W h3;subst W;exact⟨fun x K=>(An.1 K).elim (ha x) (V x),by simp;omega⟩
 ·rw [rk3 H]at h;injection h with h;injection h with W h3;subst W;exact⟨ha,hpa (by omega)⟩
 ·rw [rk4 hn H]at h
  cases hany:n.v'.any (yL a)with
  |true=>rw [hany,bM rfl]at h;cases h
  |false=>
   rw [hany,bB (by simp)]at h;injection h with h;injection h with W h3;subst W;simp only [nw,mI,mS]at h3;refine⟨fun x K=>?_,by simp;omega⟩;rcases An.1 K with K|K
   ·obtain⟨e,he,rfl⟩:=GO.1 K;exact ha _ (abw (by have:=List.any_eq_false.1 hany e he;simpa using this))
   ·obtain⟨g,Y,rfl⟩:=GO.1 K;exact afC (h3.1.1.1 g Y)
 ·rw [rk5 hn H]at h;injection h with h;injection h with W h3;subst W;simp only [nw,mI,mS,oJ]at h3;refine⟨fun x K=>?_,by simp;omega⟩;obtain⟨e,he,rfl⟩:=GO.1 K;exact RV (h3.1.1 e he)
 ·rw [rk6 H]at h;injection h with h;injection h with W h3;subst W;exact⟨ha,hpa (by omega)⟩
 ·have hp:=hpa (by omega);rw [rk7 H hal]at h;by_cases hl:a.length=b.length
  ·rw [bM hl]at h;injection h with h;injection h with W h3;subst W;exact⟨ac6 ha V,by simp;omega⟩
  ·rw [bB hl]at h;cases h
 ·rw [rk8 hn H]at h;injection h with h;injection h with W h3;subst W;exact⟨ha,hpa (by omega)⟩
def m4:al:=⟨1,-1,-1,0,[1,2,3],false,⟨[]⟩,[],[],[],[],0⟩
def O7(x:Int):bQ:=if 0<x then⟨[⟨2,-1,-1,x-1,⟨0,0,0,[]⟩⟩]⟩else⟨[⟨1,-1,-1,0,⟨0,0,0,[]⟩⟩]⟩
def lL(j:Nat)(k:List Int):al:=⟨5,(j:Int),-1,0,[],false,⟨[]⟩,[],[],k.map O7,[],0⟩
def Ud:iK (O7 0) [1,2,3]=(0,0):=by kernel_rfl
def Uc:iK (O7 1) [1,2,3]=(1,0):=by kernel_rfl
def Ub:iK (O7 2) [1,2,3]=(2,0):=by kernel_rfl
def Ua:iK (O7 3) [1,2,3]=(3,0):=by kernel_rfl
def N6{x:Int}(h:0<=x/\x<=3):iK (O7 x) [1,2,3]=(x,0):=by
 have:x=0\/x=1\/x=2\/x=3:=by omega
 rcases this with rfl|rfl|rfl|rfl
 ·exact Ud
 ·exact Uc
 ·exact Ub
 ·exact Ua
def Yu(x:Int):(O7 x).i'.length<=30000:=by
 unfold O7;split<;>(show 1<=30000;omega)
def M7:kq m4:=⟨by decide,by decide,by decide,by decide,by decide,by decide,fun g Y=>(by cases Y),fun e he=>(by cases he)⟩
def M8(j:Nat){k:List Int}(hk:k.length<=16):kq (lL j k):=
 ⟨by show 0<=30000;omega,by show 0<=5000;omega,by show 0<=5000;omega,by show 0<=5000;omega,by show(k.map O7).length<=5000;rw [Jx];omega,by show 0<=5000;omega,fun g Y=>(by cases Y),fun e he=>by
  obtain⟨x,_,rfl⟩:=GO.1 he;exact Yu x⟩
def Hc{l:fx}{j:Nat}{n:al}(hn:gw l.i' (j:Int)=some n)(hj:j<l.i'.length)(hl:l.i'.length<=1000)(fu:Nat):fg (fu+1) l (j:Int)=
  if n.Op=1 then(if n.A= -1/\n.B= -1 then some 1 else some 0)
  else if n.Op=2\/n.Op=7 then(if n.B=(j:Int)-1 then((fg fu) l n.B).bind (fun r2=>if((decide ((0:Int)<r2))&&(n.A==(i64.wrap (n.B-r2))))then(((fg fu) l n.A).bind fun r3=>if(decide ((0:Int)<r3))then(some (i64.wrap ((i64.wrap (r3+r2))+(1:Int))))else(some (0:Int)))else(some (0:Int)))else some 0)
  else if Je n.Op=true then(if n.A=(j:Int)-1/\n.B= -1 then((fg fu) l n.A).bind (fun r1=>if(decide ((0:Int)<r1))then(some (i64.wrap (r1+(1:Int))))else(some (0:Int)))else some 0)
  else some 0:=by
 conv=>lhs;unfold fg
 rw [bB (by simp;omega),hn];simp only [bz,Hy];by_cases H:n.Op=1
 ·simp only [H,gQ];rw [bM (by decide)];by_cases hAB:n.A= -1/\n.B= -1
  ·rw [bM hAB,bM (by simp [hAB])]
  ·rw [bB hAB,bB (by simpa using hAB)]
 by_cases h27:n.Op=2\/n.Op=7
 ·simp only [H,h27,gQ,hX];rw [bB (by decide),bB (by decide),bM (by decide),gg (n:=(j:Int)-1) (by omega) (by omega)];by_cases hB:n.B=(j:Int)-1
  ·rw [bM (by simp [hB]),bM hB]
  ·rw [bB (by simpa using hB),bB hB]
 by_cases hop:Je n.Op=true
 ·simp only [H,h27,hop,gQ,hX];rw [bB (by decide),bM (by decide),gg (n:=(j:Int)-1) (by omega) (by omega)];by_cases hB:n.A=(j:Int)-1/\n.B= -1
  ·rw [bM (by simp [hB]),bM hB]
  ·rw [bB (by simpa using hB),bB hB]
 ·simp only [H,h27,hop,hX];rw [bB (by decide),bB (by decide),bB (by decide)];rfl
def IK(l:fx):UD l 0 [] []:=⟨rfl,rfl,fun j h=>absurd h (Nat.not_lt_zero _)⟩
def Bc{l:fx}{i:Nat}{first:List Int}{g':List (List Int)}(hI:UD l i first g'){n:al}(hn:gw l.i' (i:Int)=some n)(hl:l.i'.length<=1000)(hi:i<l.i'.length){bx:Nat}(hs:1<=bx)(hsz: ∀fu,i+1<fu->fg fu l (i:Int)=some (bx:Int))(hp:aag n i)(ho:E5 n=true)(hop:Je n.Op=true){a b:List Int}(ha:n.Op≠1->gw g' n.A=some a)(V:n.Op=2\/n.Op=7->gw g' n.B=some b)(H:n.Op=1->a=[])(h27: ¬(n.Op=2\/n.Op=7)->b=[]):
  ∀fu,i+1<fu->ib fu l (i:Int)=lx l (i:Int) n a b:=by
 obtain⟨p1,p2,p3,p4⟩:=hp;have hsz0:C0 l (i:Int)=some (bx:Int):=hsz de (Ax (EL _) (qL (by omega)));have hu: ∀fu,ib (fu+1) l (i:Int)=if(decide ((0:Int)<=n.A))then(((ib fu) l n.A).bind fun r4=>if(!r4.2)then(some ([],false))else(nc (ib fu) l (i:Int) n r4.1))else(nc (ib fu) l (i:Int) n ([])):=by
  intro fu
  conv=>lhs;unfold ib
  rw [hsz0,hn];simp only [bz,rP,ho];have: ¬(bx=0):=by omega
  simp [this]
 intro fu hf;obtain⟨fu,rfl⟩: ∃k,fu=k+1:=⟨fu-1,by omega⟩;by_cases hop1:n.Op=1
 ·obtain⟨hA,hB⟩:=p1 hop1;rw [hu,bB (by simp [hA])];unfold nc;rw [bB (by simp [hB]),H hop1,h27 (by omega)]
 ·obtain⟨hi0,hA0,hAi⟩:=p2 hop1;obtain⟨fA,kA,sA,g1,g2,g3⟩:=hI.node n.A.toNat (by omega);have eA:((n.A.toNat:Nat):Int)=n.A:=by omega
  have hkA:gw g' n.A=some kA:=by rw [<-eA,eU];exact g2
  rw [ha hop1]at hkA;cases hkA;rw [hu,bM (by simpa using hA0)];have e1:=g3.g' fu (by omega);rw [eA]at e1;rw [e1];simp only [bz,uc,jc,hX];unfold nc;by_cases hop27:n.Op=2\/n.Op=7
  ·have hB:=p3 hop27;obtain⟨fB,kB,sB,q1,q2,q3⟩:=hI.node (i-1) (by omega);have eB:((i-1:Nat):Int)=n.B:=by omega
   have hkB:gw g' n.B=some kB:=by rw [<-eB,eU];exact q2
   rw [V hop27]at hkB;cases hkB;rw [bM (by simp;omega)];have e2:=q3.g' fu (by omega);rw [eB]at e2;rw [e2];simp only [bz,uc,jc,hX]
  ·have hB:=p4 hop1 (fun h=>hop27 (.inl h)) (fun h=>hop27 (.inr h));rw [bB (by simp [hB]),h27 hop27]
def Qd{l:fx}{i:Nat}{first:List Int}{g':List (List Int)}(hI:UD l i first g')(hn:gw l.i' (i:Int)=some m4)(hl:l.i'.length<=1000)(hi:i<l.i'.length):Fq l i (i:Int) [1,2,3] 1:=by
 have hsz: ∀fu,i+1<fu->fg fu l (i:Int)=some ((1:Nat):Int):=fun fu hf=>by
  obtain⟨fu,rfl⟩: ∃k,fu=k+1:=⟨fu-1,by omega⟩;rw [Hc hn hi hl];rfl
 refine⟨kE _,by omega,by omega,hsz,by decide,fun fu hf=>?_⟩;rw [Bc hI hn hl hi (kE _) hsz ⟨fun _=>⟨rfl,rfl⟩,fun h=>absurd rfl h,fun h=>(by rcases h with h|h<;>cases h),fun h=>absurd rfl h⟩ (by rfl) (by rfl) (a:=[]) (b:=[]) (fun h=>absurd rfl h) (fun h=>by rcases h with h|h<;>cases h) (fun _=>rfl) (fun _=>rfl) fu hf];unfold lx;rw [rk1 M7 rfl,bz];rfl
def Qe{l:fx}{i:Nat}{first:List Int}{g':List (List Int)}{k:List Int}(hI:UD l (i+1) first g')(h0:Fq l i (i:Int) [1,2,3] 1)(hk0:g'[i]? =some [1,2,3])(hn:gw l.i' ((i+1:Nat):Int)=some (lL i k))(hl:l.i'.length<=1000)(hi:i+1<l.i'.length)(hk1:1<=k.length)(hk2:k.length<=16)(hk3:K3 k):Fq l (i+1) (i:Int) k 2:=by
 have hsz: ∀fu,i+1+1<fu->fg fu l ((i+1:Nat):Int)=some ((2:Nat):Int):=fun fu hf=>by
  obtain⟨fu,rfl⟩: ∃k,fu=k+1:=⟨fu-1,by omega⟩;rw [Hc hn hi hl,bB (by show¬(5:Int)=1;decide),bB (by show¬((5:Int)=2\/(5:Int)=7);decide),bM (by rfl),bM ⟨by show(i:Int)=((i+1:Nat):Int)-1;omega,rfl⟩];show((fg fu l (i:Int)).bind _)=_;rw [h0.size fu (by omega),bz,bM (by decide)];rfl
 refine⟨by omega,by omega,by omega,hsz,hk2,fun fu hf=>?_⟩;rw [Bc hI hn hl hi (by omega) hsz ⟨fun h=>(by cases h),fun _=>⟨by omega,by show(0:Int)<=(i:Int);omega,by show(i:Int)<((i+1:Nat):Int);omega⟩,fun h=>(by rcases h with h|h<;>cases h),fun _ _ _=>rfl⟩ (by rfl) (by rfl) (a:=[1,2,3]) (b:=[]) (fun _=>by show gw g' (i:Int)=_;rw [eU];exact hk0) (fun h=>by rcases h with h|h<;>cases h) (fun h=>by cases h) (fun _=>rfl) fu hf];unfold lx;rw [rk5 (M8 i hk2) rfl,bz];have e1:(lL i k).D'.map (fun e=>(iK e [1,2,3]).1)=k:=by
  show(k.map O7).map _=k;rw [List.map_map]
  conv=>rhs;rw [<-List.map_id k]
  exact MD fun x K=>by show(iK (O7 x) [1,2,3]).1=x;rw [N6 (hk3 x K)]
 have e2:((lL i k).D'.all fun e=>(iK e [1,2,3]).2==0)=true:=by
  rw [mI];intro e he;obtain⟨x,K,rfl⟩:=GO.1 he;rw [N6 (hk3 x K)];rfl
 have e3:(lL i k).D'.length=k.length:=Jx ..;rw [e1,e2,e3,bB (by show¬(((5:Int)==8)&&_||decide ((16:Int)<(k.length:Int)))=true;simp;omega)];simp only [o4];congr 2;simp;omega
def E1{l:fx}{i:Nat}{first:List Int}{g':List (List Int)}{k:List Int}(hI:UD l i first g')(H:gw l.i' (i:Int)=some m4)(W:gw l.i' ((i+1:Nat):Int)=some (lL i k))(hl:l.i'.length<=1000)(hi:i+1<l.i'.length)(hk1:1<=k.length)(hk2:k.length<=16)(hk3:K3 k):
  UD l (i+2) (first++[(i:Int)]++[(i:Int)]) (g'++[[1,2,3]]++[k])/\Fq l (i+1) (i:Int) k 2:=by
 have n0:=Qd hI H hl (by omega);have I1:=hI.push n0;have n1:=Qe I1 n0 (by rw [Ap (by rw [hI.kl];exact kE _),hI.kl,Aa];rfl) W hl hi hk1 hk2 hk3;exact⟨I1.push n1,n1⟩
def J8(n:al)(a b:List Int):List Int×Bool:=match dq n a b with
 |some (k,o)=>if 16<k.length then([],false)else(k,o)
 |none=>([],false)
def Ql{l:fx}{i:Nat}{n:al}{a b:List Int}(hlast:i+1=l.i'.length)(hl:l.i'.length<=1000){k:List Int}{o:Bool}(hk:dq n a b=some (k,o)):lx l (i:Int) n a b=some (J8 n a b):=by
 unfold lx J8;rw [hk,bz,gg (by omega) (by omega)];have:((i:Int) !=(l.i'.length:Int)-1)=false:=by simp;omega
 rw [this,Bool.and_false,ta];by_cases h:16<k.length
 ·rw [bM (by simp;omega)];show _=some (if 16<k.length then([],false)else(k,o));rw [bM h]
 ·rw [bB (by simp;omega)];show _=some (if 16<k.length then([],false)else(k,o));rw [bB h]
def UB(n:bw):zt n []=some ⟨[⟨n.Tag,-1,-1,n.o_,n.Value⟩]⟩:=by
 unfold zt oc;rw [bZ (by simp)];rfl
def Bz: ∀k:List Int,zn k=some (decide ((4:Int)∈k))
 |[]=>rfl
 |x::k=>by
  have ih:=Bz k;unfold zn at ih ⊢;unfold vc;by_cases h:x=4
  ·rw [bM (by simp [h])];simp [h]
  ·rw [bB (by simpa using h),ih];have: ¬(4:Int)=x:=fun e=>h e.symm;simp [this]
def D4(nx:Nat->al->fx->Option ((List Int)×Bool))(i:Nat)(n1:al)(l:fx): ∀(k:List Int) (p:al),K3 k->p.D'.length+k.length<=1000->eT nx i n1 l k p=eT nx i n1 l [] {p with D':=p.D'++k.map O7}
 |[],p,_,_=>by simp
 |x::k,p,hk,hl=>by
  simp only [jl]at hl;have K:=hk x (jO ..);have key: ∀e2:bw,(⟨[⟨e2.Tag,-1,-1,e2.o_,e2.Value⟩]⟩:bQ)=O7 x->nO (eT nx i n1 l k) p e2=eT nx i n1 l [] {p with D':=p.D'++(x::k).map O7}:=by
   intro e2 he;unfold nO;rw [UB,bz,he,bZ (by simp;omega),bz,D4 nx i n1 l k _ (fun y hy=>hk y (kX _ hy)) (by simp;omega)];simp
  conv=>lhs;unfold eT
  by_cases h0:0<x
  ·rw [bM (by simpa using h0)];refine key _ ?_;unfold O7;rw [bM h0,gg (by omega) (by omega)]
  ·rw [bB (by simpa using h0)];refine key _ ?_;unfold O7;rw [bB h0]
def TT{n:al}(hn:kq n)(hop:n.Op=1)(hA:n.A= -1)(hB:n.B= -1)(ho:E5 n=true):eP n []=some (J8 n [] []):=by
 unfold eP cA;rw [bZ (by simp),bz];show((pb ⟨[n]⟩ ((0:Nat):Int)).bind _)=_;have hi:gw (⟨[n]⟩:fx).i' ((0:Nat):Int)=some n:=rfl;have hsz: ∀fu,0+1<fu->fg fu ⟨[n]⟩ ((0:Nat):Int)=some ((1:Nat):Int):=fun fu hf=>by
  obtain⟨fu,rfl⟩: ∃k,fu=k+1:=⟨fu-1,by omega⟩;rw [Hc hi (by show 0<1;omega) (by show 1<=1000;omega),bM hop,bM ⟨hA,hB⟩];rfl
 have:=Bc (IK ⟨[n]⟩) hi (by show 1<=1000;omega) (by show 0<1;omega) (kE _) hsz ⟨fun _=>⟨hA,hB⟩,fun h=>absurd hop h,fun h=>by omega,fun h=>absurd hop h⟩ ho (by rw [hop];rfl) (a:=[]) (b:=[]) (fun h=>absurd hop h) (fun h=>by omega) (fun _=>rfl) (fun _=>rfl) de (Ax (EL _) (qL (by omega)));unfold pb;rw [this,Ql (by rfl) (by show 1<=1000;omega) (rk1 hn hop),bz]
def kq.AB{n:al}(h:kq n)(A B:Int):kq {n with A:=A,B:=B}:=⟨h.cond,h.g',h.keys,h.aggs,h.items,h.order,h.args,h.exprs⟩
def V3{n:al}(hn:kq n)(hop:Je n.Op=true)(A B:Int){a b:List Int}(hal:a.length<=16)(hbl:b.length<=16):dq {n with A:=A,B:=B} a b=dq n a b:=by
 have hn' :=hn.AB A B;rcases tK hop with h|h|h|h|h|h|h|h
 ·rw [rk1 hn h,rk1 hn' h]
 ·rw [rk2 h hal hbl,rk2 (n:={n with A:=A,B:=B}) h hal hbl]
 ·rw [rk3 h,rk3 (n:={n with A:=A,B:=B}) h]
 ·rw [rk4 hn h,rk4 hn' h]
 ·rw [rk5 hn h,rk5 hn' h]
 ·rw [rk6 h,rk6 (n:={n with A:=A,B:=B}) h]
 ·rw [rk7 h hal,rk7 (n:={n with A:=A,B:=B}) h hal]
 ·rw [rk8 hn h,rk8 hn' h]
def VI{n:al}(hn:kq n)(hop:Je n.Op=true)(A B:Int){a b:List Int}(hal:a.length<=16)(hbl:b.length<=16):J8 {n with A:=A,B:=B} a b=J8 n a b:=by
 unfold J8;rw [V3 hn hop A B hal hbl]
def RB{n:al}(hn:kq n)(hop:Je n.Op=true){a b:List Int}(hal:a.length<=16)(hbl:b.length<=16): ∃k o,dq n a b=some (k,o):=by
 rcases tK hop with h|h|h|h|h|h|h|h
 ·exact⟨_,_,rk1 hn h⟩
 ·exact⟨_,_,rk2 h hal hbl⟩
 ·exact⟨_,_,rk3 h⟩
 ·rw [rk4 hn h];split<;>exact⟨_,_,rfl⟩
 ·exact⟨_,_,rk5 hn h⟩
 ·exact⟨_,_,rk6 h⟩
 ·rw [rk7 h hal];split<;>exact⟨_,_,rfl⟩
 ·exact⟨_,_,rk8 hn h⟩
def D5(n:al){a:List Int}(h:(4:Int)∈a)(t:List (List Int))(i:Nat)(l:fx):cA (a::t) i n l=some ([],false):=by
 unfold cA;rw [Bz,bz,bM (by simpa using h)]
def NP{n:al}(hn:kq n)(hop:Je n.Op=true)(H:n.Op≠1)(h27: ¬(n.Op=2\/n.Op=7))(hB:n.B= -1)(ho:E5 n=true){a:List Int}(ha:Kd a)(h3:K3 a):eP n [a]=some (J8 n a []):=by
 have hal:=ha.le;have hap:=ha.pos;have hn' :=hn.AB 1 n.B;unfold eP cA;rw [Bz,bz,bB (by simpa using h3.four),D4 _ _ _ _ _ _ h3 (by show 0+a.length<=1000;omega)];unfold eT;show((hU ([]:List al) [m4,lL 0 a]).bind fun l5=>if(((0:Nat):Int)==(0:Int))then(cA [] 1 {n with A:=i64.wrap ((l5.length:Int)-1)} ⟨l5⟩)else(cA [] 1 {n with B:=i64.wrap ((l5.length:Int)-1)} ⟨l5⟩))=_;rw [bZ (by simp),bz,bM (by rfl)];show cA [] 1 {n with A:=1} ⟨[m4,lL 0 a]⟩=_;unfold cA;rw [bZ (by simp),bz];show((pb ⟨[m4,lL 0 a,{n with A:=1}]⟩ ((2:Nat):Int)).bind _)=_;have hI:=E1 (l:=⟨[m4,lL 0 a,{n with A:=1}]⟩) (k:=a) (IK _) rfl rfl (by show 3<=1000;omega) (by show 1<3;omega) hap hal h3;have hi:gw (⟨[m4,lL 0 a,{n with A:=1}]⟩:fx).i' ((2:Nat):Int)=some {n with A:=1}:=rfl;have hsz: ∀fu,2+1<fu->fg fu ⟨[m4,lL 0 a,{n with A:=1}]⟩ ((2:Nat):Int)=some ((3:Nat):Int):=fun fu hf=>by
  obtain⟨fu,rfl⟩: ∃k,fu=k+1:=⟨fu-1,by omega⟩;rw [Hc hi (by show 2<3;omega) (by show 3<=1000;omega),bB H,bB h27,bM hop,bM ⟨rfl,hB⟩];have:=hI.2.size fu (by omega);show((fg fu ⟨[m4,lL 0 a,{n with A:=1}]⟩ ((0+1:Nat):Int)).bind _)=_;rw [this];rfl
 have:=Bc hI.1 hi (by show 3<=1000;omega) (by show 2<3;omega) (by omega) hsz ⟨fun h=>absurd h H,fun _=>⟨by omega,by show(0:Int)<=1;omega,by show(1:Int)<((2:Nat):Int);omega⟩,fun h=>absurd h h27,fun _ _ _=>hB⟩ (by exact ho) hop (a:=a) (b:=[]) (fun _=>rfl) (fun h=>absurd h h27) (fun h=>absurd h H) (fun _=>rfl) de (Ax (EL _) (qL (by omega)));unfold pb;obtain⟨k,o,hk⟩:=RB (n:={n with A:=1}) (a:=a) (b:=[]) hn' hop hal (by simp);rw [this,Ql (by rfl) (by show 3<=1000;omega) hk,bz];have e:=VI hn hop 1 n.B hal (b:=[]) (by simp);exact congrArg some e
def VF{n:al}(hn:kq n)(h27:n.Op=2\/n.Op=7)(ho:E5 n=true){a b:List Int}(ha:Kd a)(h3:K3 a)(V:Kd b)(h3b:K3 b):eP n [a,b]=some (J8 n a b):=by
 have hal:=ha.le;have hap:=ha.pos;have hbl:=V.le;have hbp:=V.pos;have hop:Je n.Op=true:=by rcases h27 with h|h<;>rw [h]<;>rfl
 have H:n.Op≠1:=by omega
 have hn' :=hn.AB 1 3;unfold eP cA;rw [Bz,bz,bB (by simpa using h3.four),D4 _ _ _ _ _ _ h3 (by show 0+a.length<=1000;omega)];unfold eT;show((hU ([]:List al) [m4,lL 0 a]).bind fun l5=>if(((0:Nat):Int)==(0:Int))then(cA [b] 1 {n with A:=i64.wrap ((l5.length:Int)-1)} ⟨l5⟩)else(cA [b] 1 {n with B:=i64.wrap ((l5.length:Int)-1)} ⟨l5⟩))=_;rw [bZ (by simp),bz,bM (by rfl)];show cA [b] 1 {n with A:=1} ⟨[m4,lL 0 a]⟩=_;unfold cA;rw [Bz,bz,bB (by simpa using h3b.four),D4 _ _ _ _ _ _ h3b (by show 0+b.length<=1000;omega)];unfold eT;show((hU [m4,lL 0 a] [m4,lL 2 b]).bind fun l5=>if(((1:Nat):Int)==(0:Int))then(cA [] 2 {n with A:=i64.wrap ((l5.length:Int)-1)} ⟨l5⟩)else(cA [] 2 {n with A:=1,B:=i64.wrap ((l5.length:Int)-1)} ⟨l5⟩))=_;rw [bZ (by simp),bz,bB (by decide)];show cA [] 2 {n with A:=1,B:=3} ⟨[m4,lL 0 a,m4,lL 2 b]⟩=_;unfold cA;rw [bZ (by simp),bz];show((pb ⟨[m4,lL 0 a,m4,lL 2 b,{n with A:=1,B:=3}]⟩ ((4:Nat):Int)).bind _)=_;have hI:=E1 (l:=⟨[m4,lL 0 a,m4,lL 2 b,{n with A:=1,B:=3}]⟩) (k:=a) (IK _) rfl rfl (by show 5<=1000;omega) (by show 1<5;omega) hap hal h3;have hJ:=E1 (l:=⟨[m4,lL 0 a,m4,lL 2 b,{n with A:=1,B:=3}]⟩) (k:=b) hI.1 rfl rfl (by show 5<=1000;omega) (by show 3<5;omega) hbp hbl h3b;have hi:gw (⟨[m4,lL 0 a,m4,lL 2 b,{n with A:=1,B:=3}]⟩:fx).i' ((4:Nat):Int)=some {n with A:=1,B:=3}:=rfl;have hsz: ∀fu,4+1<fu->fg fu ⟨[m4,lL 0 a,m4,lL 2 b,{n with A:=1,B:=3}]⟩ ((4:Nat):Int)=some ((5:Nat):Int):=fun fu hf=>by
  obtain⟨fu,rfl⟩: ∃k,fu=k+1:=⟨fu-1,by omega⟩;rw [Hc hi (by show 4<5;omega) (by show 5<=1000;omega),bB H,bM h27,bM (by rfl)];have g1:=hJ.2.size fu (by omega);have g2:=hI.2.size fu (by omega);show((fg fu ⟨[m4,lL 0 a,m4,lL 2 b,{n with A:=1,B:=3}]⟩ ((2+1:Nat):Int)).bind _)=_;rw [g1,bz,bM (show((decide ((0:Int)<((2:Nat):Int)))&&((1:Int)==(i64.wrap ((3:Int)-((2:Nat):Int)))))=true from by decide)];show((fg fu ⟨[m4,lL 0 a,m4,lL 2 b,{n with A:=1,B:=3}]⟩ ((0+1:Nat):Int)).bind _)=_;rw [g2];rfl
 have:=Bc hJ.1 hi (by show 5<=1000;omega) (by show 4<5;omega) (by omega) hsz ⟨fun h=>absurd h H,fun _=>⟨by omega,by show(0:Int)<=1;omega,by show(1:Int)<((4:Nat):Int);omega⟩,fun _=>by show(3:Int)=((4:Nat):Int)-1;omega,fun _ W h7=>(by rcases h27 with h|h;exact absurd h W;exact absurd h h7)⟩ (by exact ho) hop (a:=a) (b:=b) (fun _=>rfl) (fun _=>rfl) (fun h=>absurd h H) (fun h=>absurd h27 h) de (Ax (EL _) (qL (by omega)));unfold pb;obtain⟨k,o,hk⟩:=RB (n:={n with A:=1,B:=3}) (a:=a) (b:=b) hn' hop hal hbl;rw [this,Ql (by rfl) (by show 5<=1000;omega) hk,bz];have e:=VI hn hop 1 3 hal hbl;exact congrArg some e
