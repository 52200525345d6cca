import Derived.Test.YtdohlidddcgfjaaGreatFgQ1
set_option linter.all false
namespace Go.Proofs.YtdohlidddcgfjaaGreat
open Go IntKind
def QW(p:List Int)(hp:p.length<=8000)(i:Nat)(y:List Int)(hy:i+y.length=p.length): ∀(k i1:Nat) (x:List Int) (x1:Nat),i1+k=y.length->0<i1->x.length=p.length->x1+1<=i+i1->x.drop (i+i1-1)=p.drop (i+i1-1)->
  gh i y k i1 x (x1:Int)=some (x.take x1++Bm ((p[i+i1-1]?).getD 0) (p.drop (i+i1))):=by
 intro k
 induction k with
 |zero=>
  intro i1 x x1 H h0 K W h3;simp only [gh];have l_:x1<=x.length:=by omega
  rw [oK l_ (kE _)];simp only [bz,EK,Cb];rw [show((0:Int))=((0:Nat):Int)from rfl,oK (mT _) (by simp;omega)];simp only [bz,yf];have hn:p.drop (i+i1)=[]:=EO (by omega);rw [hn,OC,vW,GM (by simp;omega),CJ,Nat.min_self]
 |succ k ih=>
  intro i1 x x1 H h0 K W h3;have e1:x[i+i1]? =p[i+i1]? :=by
   have:=congrArg (fun l:List Int=>l[1]?) h3;simp only [zb]at this
   rwa [show i+i1-1+1=i+i1 from by omega]at this
  have e0:x[i+i1-1]? =p[i+i1-1]? :=by
   have:=congrArg (fun l:List Int=>l[0]?) h3;simpa only [zb,Du] using this
  have hlt:i+i1<p.length:=by omega
  have g1:Jk x (i:Int) y.length (i1:Int)=some p[i+i1]:=by
   unfold Jk;rw [bM (by omega),show(i:Int)+(i1:Int)=((i+i1:Nat):Int)from by omega,eU,e1,vp hlt]
  have g0:Jk x (i:Int) y.length (i64.wrap ((i1:Int)-1))=some p[i+i1-1]:=by
   rw [gg (by omega) (by omega)];unfold Jk;rw [bM (by omega),show(i:Int)+((i1:Int)-1)=((i+i1-1:Nat):Int)from by omega,eU,e0,vp (by omega)]
  have hd:p.drop (i+i1)=p[i+i1]::p.drop (i+i1+1):=Ce hlt;have hp1:(p[i+i1-1]?).getD 0=p[i+i1-1]:=by rw [vp (by omega)];rfl
  simp only [gh,g1,g0,bz];rw [hd,hp1];by_cases hx2:p[i+i1]=p[i+i1-1]
  ·rw [bB (by simp [hx2])];have h3' :x.drop (i+(i1+1)-1)=p.drop (i+(i1+1)-1):=by
    have:=congrArg (List.drop 1) h3
    rwa [uH,uH,show i+i1-1+1=i+(i1+1)-1 from by omega]at this
   rw [ih (i1+1) x x1 (by omega) (by omega) K (by omega) h3'];rw [Kt hx2,show i+(i1+1)-1=i+i1 from by omega,vp hlt,show i+(i1+1)=i+i1+1 from by omega];rfl
  ·rw [bM (by simp [hx2]),eU,vp (by omega)];simp only [bz,Cb];rw [gg (by omega) (by omega),show((x1:Int)+1)=((x1+1:Nat):Int)from by omega];have h3' :(x.set x1 p[i+i1]).drop (i+(i1+1)-1)=p.drop (i+(i1+1)-1):=by
    rw [List.drop_set_of_lt (by omega)];have:=congrArg (List.drop 1) h3
    rwa [uH,uH,show i+i1-1+1=i+(i1+1)-1 from by omega]at this
   rw [ih (i1+1) _ (x1+1) (by omega) (by omega) (by simpa using K) (by omega) h3'];rw [Sq hx2,show i+(i1+1)-1=i+i1 from by omega,vp hlt,show i+(i1+1)=i+i1+1 from by omega];have D:(x.set x1 p[i+i1]).take (x1+1)=x.take x1++[p[i+i1]]:=by
    rw [UV (by simp;omega),List.take_set_of_le (by omega)];simp
   rw [D];simp
def QX(p:List Int)(hp:p.length<=8000):mq p=some (Sp p):=by
 unfold mq;by_cases W:p.length<2
 ·rw [bM (by simp;omega)]
  match p,W with
  |[],_=>rfl
  |[x],_=>rfl
 ·rw [bB (by simp;omega)];have key: ∀(l:List Int) (i:Nat),p.drop i=l->0<i->i<=p.length->Sp p=p.take i++Bm ((p[i-1]?).getD 0) (p.drop i)->gU p l i=some (Sp p):=by
   intro l
   induction l with
   |nil=>
    intro i H h0 hle h3;have:=zc.1 H;simp only [gU];rw [h3,H,yi (by omega),OC,vW]
   |cons x t ih=>
    intro i H h0 hle h3;have hi:i<p.length:=by
     rcases pj i p.length with h|h
     ·exact h
     ·rw [EO h]at H;cases H
    have K:x=p[i]:=by rw [Ce hi]at H;exact(Dn H).1.symm
    have D:p.drop (i+1)=t:=by rw [<-uH,H];rfl
    have hp1:(p[i-1]?).getD 0=p[i-1]:=by rw [vp (by omega)];rfl
    simp only [gU];rw [gg (by omega) (by omega),show(i:Int)-1=((i-1:Nat):Int)from by omega,eU,vp (by omega)];simp only [bz];by_cases he:x=p[i-1]
    ·rw [bM (by simp [he])];rw [oK hle (kE _)];simp only [bz,EK];rw [QW p hp i (p.drop i) (by simp;omega) _ 1 p i (by simp;omega) (by omega) rfl (by omega) (by simp)];rw [h3,H,hp1,Kt he,<-D,K];rw [show i+1-1=i from by omega,vp hi];rfl
    ·rw [bB (by simp [he])];refine ih (i+1) D (by omega) (by omega) ?_;rw [h3,H,hp1,Sq he,UV hi,<-D,K,show i+1-1=i from by omega,vp hi];rw [jR];rfl
  have hpc:p=p[0]::p.drop 1:=by
   have:=Ce (l:=p) (i:=0) (by omega);simpa using this
  refine key (p.drop 1) 1 rfl (by omega) (by omega) ?_;have e:(p[1-1]?).getD 0=p[0]:=by simp [vp (show 0<p.length by omega)]
  rw [e]
  conv=>lhs;rw [hpc]
  have e2:p.take 1=[p[0]]:=by
   conv=>lhs;rw [hpc]
   rfl
  rw [e2];rfl
def TZ(l:List Int)(z:Int):z∈sortI l↔z∈l:=by unfold sortI;simp
def Dl: ∀(ns:List bw) (out:List Int),out.length+ns.length<=8000-> ∃cs,pJ ns out=some cs/\ ∀c,c∈cs↔c∈out\/ ∃n∈ns,n.Tag=2/\n.o_=c
 |[],out,h=>by
  unfold pJ;rw [JR];rw [bM (by simp at h;omega)];simp only [bz];rw [QX _ (by rw [EV];simpa using h)];exact⟨_,rfl,fun c=>by rw [T0,TZ];simp⟩
 |n::ns,out,h=>by
  simp only [jl]at h;unfold pJ;by_cases D:n.Tag=2
  ·rw [bM (by simp [D]),bZ (by simp;omega)];simp only [bz];obtain⟨cs,H,W⟩:=Dl ns (out++[n.o_]) (by simp;omega);exact⟨cs,H,fun c=>by rw [W];simp [D,or_assoc,eq_comm]⟩
  ·rw [bB (by simp [D])];obtain⟨cs,H,W⟩:=Dl ns out (by omega);exact⟨cs,H,fun c=>by rw [W];simp [D]⟩
def Ma(e:bQ)(h:pt e.i'=true): ∃cs,yT e=some cs/\ ∀c,c∈cs↔ ∃n∈e.i',n.Tag=2/\n.o_=c:=by
 have hl:=PI h;unfold yT;rw [CB e (by omega),h];obtain⟨cs,H,W⟩:=Dl e.i' [] (by simp;omega);exact⟨cs,by simpa using H,fun c=>by rw [W];simp⟩
def kn(tag l r:Int):Int×Bool:=(uR tag l r).getD (0,false)
def Cs(tag l r:Int):uR tag l r=some (kn tag l r):=by
 unfold kn uR tm;simp only [bz];repeat' split
 all_goals simp
def k4(k:Int):Prop:=k=0\/k=1\/k=2\/k=3
def aao(tag l r:Int):k4 (kn tag l r).1:=by
 unfold kn uR tm;simp only [bz];repeat' split
 all_goals simp [k4]
def Rf(g':List Int)(n:bw)(x:Int)(K:k4 x)(hk:pk n.Tag=some 1):lE g' n [x]=some (if(kn n.Tag x 0).2 then((kn n.Tag x 0).1,0)else(0,201)):=by
 obtain⟨tag,L,R,col,v⟩:=n;have D:tag=4\/tag=5\/tag=6\/tag=7:=by
  unfold pk at hk;repeat' split at hk
  all_goals simp at hk
  rename_i h;have h:4<=tag/\tag<=7:=h;omega
 rcases D with rfl|rfl|rfl|rfl<;>rcases K with rfl|rfl|rfl|rfl<;>rfl
def Re(g':List Int)(n:bw)(x y:Int)(K:k4 x)(hy:k4 y)(hk:pk n.Tag=some 2):lE g' n [x,y]=some (if(kn n.Tag x y).2 then((kn n.Tag x y).1,0)else(0,201)):=by
 obtain⟨tag,L,R,col,v⟩:=n;have D:tag=12\/tag=13\/tag=14\/tag=15\/tag=16\/tag=17\/tag=18\/tag=19\/tag=20\/tag=21\/tag=22\/tag=23:=by
  unfold pk at hk;repeat' split at hk
  all_goals simp at hk
  rename_i h;have h:12<=tag/\tag<=23:=h;omega
 rcases D with rfl|rfl|rfl|rfl|rfl|rfl|rfl|rfl|rfl|rfl|rfl|rfl<;>rcases K with rfl|rfl|rfl|rfl<;>rcases hy with rfl|rfl|rfl|rfl<;>rfl
def kd(g':List Int):Tr->Option Int
 | .lf n=>if n.Tag=1 then some n.Value.Kind else some ((g'[n.o_.toNat]?).getD 0)
 | .un n a=>(kd g' a).bind fun x=>if(kn n.Tag x 0).2 then some (kn n.Tag x 0).1 else none
 | .bi n a b=>(kd g' a).bind fun x=>(kd g' b).bind fun y=>if(kn n.Tag x y).2 then some (kn n.Tag x y).1 else none
def V4(g':List Int)(n:bw)(a:Tr):kd g' (.un n a)=(kd g' a).bind fun x=>if(kn n.Tag x 0).2 then some (kn n.Tag x 0).1 else none:=rfl
def RX(g':List Int)(n:bw)(a b:Tr):kd g' (.bi n a b)=(kd g' a).bind fun x=>(kd g' b).bind fun y=>if(kn n.Tag x y).2 then some (kn n.Tag x y).1 else none:=rfl
def Ku(m:Nat):Tr->Prop
 | .lf n=>n.Tag=2->n.o_<m
 | .un _ a=>Ku m a
 | .bi _ a b=>Ku m a/\Ku m b
def pk0{tag:Int}(h:pk tag=some 0):tag=1\/tag=2:=by
 unfold pk at h;repeat' split at h
 all_goals simp at h
 assumption
def afY{n:bw}(h:cnt n=true)(D:n.Tag=1):AZ n.Value=true:=by
 have W:=lS n;rw [h]at W;unfold mu at W;rw [bM (by simp [D]),uo]at W;simp at W;exact W.1
def adQ{n:bw}(h:cnt n=true)(D:n.Tag=2):0<=n.o_/\n.o_<16:=by
 have W:=lS n;rw [h]at W;unfold mu at W;rw [bB (by simp [D]),bM (by simp [D])]at W;simp at W;exact⟨W.1.2,W.2⟩
def RW{g':List Int}(hk: ∀k∈g',k4 k): ∀(t:Tr),t.wf-> ∀{k},kd g' t=some k->k4 k
 | .lf n,⟨H,W,_,_⟩,k,h=>by
  unfold kd at h;split at h
  ·rename_i D;have:=NC (afY W D);cases h;unfold k4;omega
  ·injection h with h;subst h
   cases hc:g'[n.o_.toNat]? with
   |none=>exact .inl rfl
   |some z=>exact hk z (t7 hc)
 | .un n a,_,k,h=>by
  unfold kd at h
  cases ha:kd g' a with
  |none=>rw [ha]at h;cases h
  |some x=>
   rw [ha,bz]at h;split at h
   ·cases h;exact aao ..
   ·cases h
 | .bi n a b,_,k,h=>by
  unfold kd at h
  cases ha:kd g' a with
  |none=>rw [ha]at h;cases h
  |some x=>
   cases V:kd g' b with
   |none=>rw [ha,V]at h;cases h
   |some y=>
    rw [ha,V]at h;simp only [bz]at h;split at h
    ·cases h;exact aao ..
    ·cases h
def PV(stack l:List Int)(h:stack.length+l.length<=100000):s7 (stack++l) (l.length:Int)=some (l,stack):=by
 unfold s7 fN;have e:i64.wrap (((stack++l).length:Int)-(l.length:Int))=(stack.length:Int):=by
  rw [nY,gg (by omega) (by omega)];omega
 rw [e,kM stack.length (stack++l).length rfl rfl (by simp) (kE _)];simp only [bz,EK,MG (kE _),List.drop_length,pM];rw [bZ (by simp;omega)];simp only [bz,pM];rw [kM (i:=0) 0 stack.length rfl rfl (mT _) (by simp)];simp
def NM(stack:List Int){b:Int}(h:b≠0):oY b stack=some (0,b):=by
 unfold oY;rw [bM (by simpa using h)]
def yx{tag:Int}{k:Nat}(h:pk tag=some k):u3 tag=some (k:Int):=by
 rw [CA];unfold BK;rw [h]
def TQ(g':List Int)(hk: ∀k∈g',k4 k)(t:Tr):t.wf->Ku g'.length t-> ∀(bx:Nat) (rest:List bw) (stack:List Int),stack.length+t.size<=50000->
  jH (lE g') (t.flat bx++rest) 0 stack=match kd g' t with
   |some k=>jH (lE g') rest 0 (stack++[k])
   |none=>some (0,201):=by
 induction t with
 |lf n=>
  intro⟨H,W,h3,h4⟩ hc bx rest stack hl;simp only [Tr.flat,Tr.size,GL,pM]at hl ⊢;rw [jH];have e1:(mN n (-1) (-1)).Tag=n.Tag:=rfl;rw [e1,yx H];have h0:=PV stack [] (by simp;omega);simp only [vW,yg]at h0;simp only [bz];rw [h0];simp only [bz];have hv:lE g' (mN n (-1) (-1)) []=(kd g' (.lf n)).map (fun k=>(k,(0:Int))):=by
   unfold lE o0 kd;simp only [e1];rcases pk0 H with D|D
   ·rw [bM (by simp [D]),bM D];rfl
   ·rw [bB (by simp [D]),bM (by simp [D]),bB (by simp [D])];have V:=adQ W D;have hm:n.o_<g'.length:=hc D;have e2:(mN n (-1) (-1)).o_=n.o_:=rfl;rw [e2,oj n.o_.toNat (by omega),vp (by omega)];rfl
  rw [hv];have: ∃k,kd g' (.lf n)=some k:=by unfold kd;split<;>exact⟨_,rfl⟩
  obtain⟨k,hk1⟩:=this;rw [hk1];simp only [nq,bz];rw [bB (by simp),bZ (by simp;omega)];rfl
 |un n a ih=>
  intro⟨⟨H,W,h3,h4⟩,ha⟩ hc bx rest stack hl;simp only [Tr.flat,Tr.size,jR]at hl ⊢;rw [V4,ih ha hc bx _ stack (by omega)]
  cases K:kd g' a with
  |none=>rfl
  |some x=>
   have hx4:=RW hk a ha K;simp only [bz,GL,pM];rw [jH];have e1:(mN n (((bx+a.size:Nat):Int)-1) (-1)).Tag=n.Tag:=rfl;rw [e1,yx H];have h0:=PV stack [x] (by simp;omega);simp only [bz];have e0:(([x]:List Int).length:Int)=((1:Nat):Int):=rfl;rw [<-e0,h0];simp only [bz];rw [Rf g' _ x hx4 (by rw [e1];exact H),e1]
   cases V:(kn n.Tag x 0).2 with
   |true=>
    simp only [gQ,bz];rw [bB (by simp),bZ (by simp;omega)];rfl
   |false=>
    simp only [jc,hX,bz];rw [bM (by decide),NM _ (by decide)]
 |bi n a b iha ihb=>
  intro⟨⟨H,W,h3,h4⟩,ha,V⟩ ⟨hca,hcb⟩ bx rest stack hl;simp only [Tr.flat,Tr.size,jR]at hl ⊢;rw [RX,iha ha hca bx _ stack (by omega)]
  cases K:kd g' a with
  |none=>rfl
  |some x=>
   have hx4:=RW hk a ha K;simp only [bz];rw [ihb V hcb (bx+a.size) _ (stack++[x]) (by have:=a.size_pos;simp;omega)]
   cases hy:kd g' b with
   |none=>rfl
   |some y=>
    have hy4:=RW hk b V hy;have hap:=a.size_pos;simp only [bz,GL,pM];rw [jH];have e1:(mN n (((bx+a.size:Nat):Int)-1) (((bx+a.size+b.size:Nat):Int)-1)).Tag=n.Tag:=rfl;rw [e1,yx H];have h0:=PV stack [x,y] (by simp;omega);simp only [bz];have e0:(([x,y]:List Int).length:Int)=((2:Nat):Int):=rfl;have e9:stack++[x]++[y]=stack++[x,y]:=by simp
    rw [<-e0,e9,h0];simp only [bz];rw [Re g' _ x y hx4 hy4 (by rw [e1];exact H),e1]
    cases V:(kn n.Tag x y).2 with
    |true=>
     simp only [gQ,bz];rw [bB (by simp),bZ (by simp;omega)];rfl
    |false=>
     simp only [jc,hX,bz];rw [bM (by decide),NM _ (by decide)]
def Vs(g':List Int)(hk: ∀k∈g',k4 k)(t:Tr):t.wf->Ku g'.length t-> ∀(rest:List bw) (own:List Int),own.length+t.size<=50000->
  (kd g' t=none/\eI g' (t.flat own.length++rest) own=some (0,201))\/
  (∃k w,kd g' t=some k/\w.length+1=t.size/\eI g' (t.flat own.length++rest) own=eI g' rest (own++w++[k])):=by
 induction t with
 |lf n=>
  intro⟨H,W,h3,h4⟩ hc rest own hl;simp only [Tr.flat,Tr.size,GL,pM]at hl ⊢;refine .inr ?_;have e1:(mN n (-1) (-1)).Tag=n.Tag:=rfl;unfold kd;rcases pk0 H with D|D
  ·refine⟨_,[],bM D,rfl,?_⟩;rw [eI];rw [e1,bM (by simp [D]),bZ (by simp;omega)];simp only [bz,vW];rfl
  ·refine⟨_,[],bB (by simp [D]),rfl,?_⟩;have V:=adQ W D;have hm:n.o_<g'.length:=hc D;have e2:(mN n (-1) (-1)).o_=n.o_:=rfl;rw [eI];rw [e1,bB (by simp [D]),bM (by simp [D]),e2,oj n.o_.toNat (by omega),vp (by omega)];simp only [bz,vW,Option.getD_some];rw [bZ (by simp;omega)];rfl
 |un n a ih=>
  intro⟨⟨H,W,h3,h4⟩,ha⟩ hc rest own hl;have hap:=a.size_pos;simp only [Tr.flat,Tr.size,jR]at hl ⊢;rcases ih ha hc ([mN n (((own.length+a.size:Nat):Int)-1) (-1)]++rest) own (by omega)with⟨K,he⟩|⟨x,w,K,hw,he⟩
  ·exact .inl ⟨by rw [V4,K];rfl,by rw [he]⟩
  ·rw [he];rw [V4,K];simp only [bz,GL,pM];have e1:(mN n (((own.length+a.size:Nat):Int)-1) (-1)).Tag=n.Tag:=rfl;have n1:n.Tag≠1:=fun h=>by rw [h]at H;simp [pk]at H
   have n2:n.Tag≠2:=fun h=>by rw [h]at H;simp [pk]at H
   have hstep:eI g' (mN n (((own.length+a.size:Nat):Int)-1) (-1)::rest) (own++w++[x])=if(kn n.Tag x 0).2 then eI g' rest (own++w++[x]++[(kn n.Tag x 0).1])else some (0,201):=by
    rw [eI];rw [e1,bB (by simpa using n1),bB (by simpa using n2)];have eL:(mN n (((own.length+a.size:Nat):Int)-1) (-1)).L=((own.length+a.size:Nat):Int)-1:=rfl;have eR:(mN n (((own.length+a.size:Nat):Int)-1) (-1)).R= -1:=rfl;rw [eL,eR,oj (own++w).length (by simp;omega),Ap (kE _),Aa];simp only [JA,bz];rw [bB (by decide)];unfold sU;rw [e1,Cs];simp only [bz]
    cases V:(kn n.Tag x 0).2 with
    |true=>
     simp only [uc,jc,hX,gQ];rw [bZ (by simp;omega)];rfl
    |false=>rfl
   rw [hstep]
   cases V:(kn n.Tag x 0).2 with
   |true=>exact .inr ⟨(kn n.Tag x 0).1,w++[x],by simp,by simp;omega,by simp⟩
   |false=>exact .inl ⟨by simp,by simp⟩
 |bi n a b iha ihb=>
  intro⟨⟨H,W,h3,h4⟩,ha,V⟩ ⟨hca,hcb⟩ rest own hl;have hap:=a.size_pos;have hbp:=b.size_pos;simp only [Tr.flat,Tr.size,jR]at hl ⊢;obtain⟨m,hm⟩: ∃m,m=mN n (((own.length+a.size:Nat):Int)-1) (((own.length+a.size+b.size:Nat):Int)-1):=⟨_,rfl⟩;rw [<-hm];rcases iha ha hca (b.flat (own.length+a.size)++([m]++rest)) own (by omega)with⟨K,he⟩|⟨x,w,K,hw,he⟩
  ·exact .inl ⟨by rw [RX,K];rfl,by rw [he]⟩
  ·rw [he];have hl2:(own++w++[x]).length=own.length+a.size:=by simp;omega
   rw [<-hl2];rcases ihb V hcb ([m]++rest) (own++w++[x]) (by rw [hl2];omega)with⟨hy,he2⟩|⟨y,w2,hy,hw2,he2⟩
   ·exact .inl ⟨by rw [RX,K,hy];rfl,by rw [he2]⟩
   ·rw [he2];rw [RX,K,hy];simp only [bz,GL,pM];have e1:m.Tag=n.Tag:=by rw [hm];rfl
    have eL:m.L=((own.length+a.size:Nat):Int)-1:=by rw [hm];rfl
    have eR:m.R=((own.length+a.size+b.size:Nat):Int)-1:=by rw [hm];rfl
    have n1:n.Tag≠1:=fun h=>by rw [h]at H;simp [pk]at H
    have n2:n.Tag≠2:=fun h=>by rw [h]at H;simp [pk]at H
    have hstep:eI g' (m::rest) (own++w++[x]++w2++[y])=if(kn n.Tag x y).2 then eI g' rest (own++w++[x]++w2++[y]++[(kn n.Tag x y).1])else some (0,201):=by
     rw [eI];rw [e1,bB (by simpa using n1),bB (by simpa using n2)];rw [eL,eR,oj (own++w).length (by simp;omega)];have g1:(own++w++[x]++w2++[y])[(own++w).length]? =some x:=by
      rw [jR,jR,Ap (kE _),Aa];rfl
     rw [g1];simp only [bz];rw [bM (by rw [mS];omega),oj (own++w++[x]++w2).length (by simp;omega)];have g2:(own++w++[x]++w2++[y])[(own++w++[x]++w2).length]? =some y:=by
      rw [Ap (kE _),Aa];rfl
     rw [g2];simp only [bz];unfold sU;rw [e1,Cs];simp only [bz]
     cases V:(kn n.Tag x y).2 with
     |true=>
      simp only [uc,jc,hX,gQ];rw [bZ (by simp;omega)];rfl
     |false=>rfl
    rw [hstep]
    cases V:(kn n.Tag x y).2 with
    |true=>exact .inr ⟨(kn n.Tag x y).1,w++[x]++w2++[y],by simp,by simp;omega,by simp⟩
    |false=>exact .inl ⟨by simp,by simp⟩
def u4(m:Nat)(ns:List bw):Bool:=ns.all fun n=> !((n.Tag==2)&&decide ((m:Int)<=n.o_))
def OG(m:Nat)(n:bw)(ns:List bw):u4 m (n::ns)=(!((n.Tag==2)&&decide ((m:Int)<=n.o_))&&u4 m ns):=rfl
def FU(m:Nat)(t:Tr):t.wf-> ∀bx,u4 m (t.flat bx)=true->Ku m t:=by
 induction t with
 |lf n=>
  intro _ bx h D;simp only [u4,Tr.flat,Dv,List.all_nil,Bool.and_true]at h;have e1:(mN n (-1) (-1)).Tag=n.Tag:=rfl;have e2:(mN n (-1) (-1)).o_=n.o_:=rfl;simp [e1,e2,D]at h;exact h
 |un n a ih=>
  intro⟨_,ha⟩ bx h;simp only [u4,Tr.flat,List.all_append,nw]at h;exact ih ha bx h.1
 |bi n a b iha ihb=>
  intro⟨_,ha,V⟩ bx h;simp only [u4,Tr.flat,List.all_append,nw]at h;exact⟨iha ha bx h.1.1,ihb V _ h.1.2⟩
def V5(g':List Int):Bool:=g'.all fun k=>decide (0<=k)&&decide (k<=3)
def N5(k:Int)(ks:List Int):V5 (k::ks)=((decide (0<=k)&&decide (k<=3))&&V5 ks):=rfl
def LH{g':List Int}(h:V5 g'=true){k:Int}(hk:k∈g'):k4 k:=by
 have:=mI.1 h k hk;simp at this;unfold k4;omega
def iK(e:bQ)(g':List Int):Int×Int:=
 if pt e.i' then if V5 g' then if u4 g'.length e.i' then match (uO e.i').bind (kd g')with
  |some k=>(k,0)
  |none=>(0,201)else(0,2)else(0,2)else(0,200)
def IJ(e:bQ)(g':List Int): ∀cs:List Int,pH e g' cs=if cs.all (fun c=>decide (c<(g'.length:Int)))then s3 e (lE g')else some (0,2)
 |[]=>by
  unfold pH;cases s3 e (lE g')<;>rfl
 |c::cs=>by
  unfold pH;rw [IJ e g' cs];by_cases h:(g'.length:Int)<=c
  ·rw [bM (by simpa using h),bB (by simp;omega)]
  ·rw [bB (by simpa using h)];have:c<(g'.length:Int):=by omega
   simp [this]
def pI(e:bQ)(g':List Int)(hl:e.i'.length<=50000):qr e g'=some (iK e g'):=by
 unfold qr iK;rw [CB e (by omega)]
 cases hr:pt e.i' with
 |false=>rfl
 |true=>
  simp only [gQ,bz];rw [bB (by decide)];have key: ∀ks:List Int,uB e g' ks=if V5 ks then(yT e).bind (pH e g')else some (0,2):=by
   intro ks
   induction ks with
   |nil=>rfl
   |cons k ks ih=>
    unfold uB;rw [ih];by_cases h:k<0\/3<k
    ·rw [bM (by simpa using h),bB (by simp [V5];omega)]
    ·rw [bB (by simpa using h)];have H:(decide (0<=k)&&decide (k<=3))=true:=by simp;omega
     rw [N5,H,o4]
  rw [key]
  cases hk:V5 g' with
  |false=>rfl
  |true=>
   simp only [gQ];obtain⟨cs,H,W⟩:=Ma e hr;rw [H,bz,IJ];have hci:cs.all (fun c=>decide (c<(g'.length:Int)))=u4 g'.length e.i':=by
    rw [tY];simp only [mI,mS,u4,Cn,Bool.and_eq_false_iff,beq_eq_false_iff_ne,Rq];constructor
    ·intro h n hn;by_cases D:n.Tag=2
     ·exact .inr (by have:=h _ ((W n.o_).2 ⟨n,hn,D,rfl⟩);omega)
     ·exact .inl D
    ·intro h c hc;obtain⟨n,hn,D,rfl⟩:=(W c).1 hc;rcases h n hn with h|h
     ·exact absurd D h
     ·omega
   rw [hci]
   cases hc:u4 g'.length e.i' with
   |false=>rfl
   |true=>
    simp only [gQ]
    cases D:uO e.i' with
    |none=>unfold pt at hr;rw [D]at hr;cases hr
    |some t=>
     obtain⟨hw,hN,hs⟩:=o6 D;have hct:=FU g'.length t hw 0 (by rw [<-hN];exact hc);have:=TQ g' (fun k=>LH hk) t hw hct 0 [] [] (by simp;omega);rw [vW,<-hN]at this;unfold s3;rw [this];simp only [bz]
     cases kd g' t with
     |none=>rfl
     |some k=>rfl
def ve(e:bQ)(g':List Int):uT e g'=some (iK e g'):=by
 unfold uT iK;rw [Hz e]
 cases hr:pt e.i' with
 |false=>rfl
 |true=>
  simp only [gQ,bz,uc,jc,hX];have key2: ∀ns:List bw,qi e g' ns=if u4 g'.length ns then eI g' e.i' []else some (0,2):=by
   intro ns
   induction ns with
   |nil=>rfl
   |cons n ns ih=>
    unfold qi;rw [ih,OG];cases ((n.Tag==2)&&decide ((g'.length:Int)<=n.o_))<;>simp
  have key: ∀ks:List Int,sS e g' ks=if V5 ks then qi e g' e.i' else some (0,2):=by
   intro ks
   induction ks with
   |nil=>rfl
   |cons k ks ih=>
    unfold sS;rw [ih];by_cases h:k<0\/3<k
    ·rw [bM (by simpa using h),bB (by simp [V5];omega)]
    ·rw [bB (by simpa using h)];have H:(decide (0<=k)&&decide (k<=3))=true:=by simp;omega
     rw [N5,H,o4]
  rw [key,key2]
  cases hk:V5 g' with
  |false=>rfl
  |true=>
   cases hc:u4 g'.length e.i' with
   |false=>rfl
   |true=>
    simp only [gQ]
    cases D:uO e.i' with
    |none=>unfold pt at hr;rw [D]at hr;cases hr
    |some t=>
     obtain⟨hw,hN,hs⟩:=o6 D;have hct:=FU g'.length t hw 0 (by rw [<-hN];exact hc);have:=Vs g' (fun k=>LH hk) t hw hct [] [] (by simp;omega);rw [vW,yg,<-hN]at this;simp only [bz];rcases this with⟨H,W⟩|⟨k,w,H,W,h3⟩
     ·rw [H,W]
     ·rw [H,h3];unfold eI;have hls:t.size<=1000:=hs;rw [pM,oj w.length (by rw [gg (by simp<;>omega) (by simp<;>omega)];simp),Ap (kE _),Aa];rfl
def jN{α:Type}{xs tl:List α}{i:Nat}{y:α}(h:xs.drop i=y::tl):gw xs (i:Int)=some y/\i<xs.length/\xs.drop (i+1)=tl:=by
 have hi:i<xs.length:=by
  rcases pj i xs.length with H|H
  ·exact H
  ·rw [EO H]at h;cases h
 rw [Ce hi]at h;injection h with H W;exact⟨by rw [eU,vp hi,H],hi,W⟩
def Ig{α:Type}{xs:List α}{i:Nat}(h:xs.drop i=[]):xs.length<=i:=zc.1 h
def y0{f:Int->Option Bool}{g:Int->Bool}(hf: ∀v,f v=some (g v)): ∀(l:List Int) (i:Nat),∃j:Int,ir f l i=some j/\decide (0<=j)=l.any g
 |[],i=>⟨-1,rfl,rfl⟩
 |e::l,i=>by
  unfold ir;rw [hf,bz]
  cases h:g e with
  |true=>exact⟨(i:Int),by simp,by simp [h]⟩
  |false=>
   obtain⟨j,H,W⟩:=y0 hf l (i+1);exact⟨j,by simpa using H,by rw [W];simp [h]⟩
def ml{f:Int->Option Bool}{g:Int->Bool}(hf: ∀v,f v=some (g v))(l:List Int):gA l f=some (l.any g):=by
 unfold gA n7;obtain⟨j,H,W⟩:=y0 hf l 0;rw [H,bz,W]
def yZ{f:jJ->Option Bool}{g:jJ->Bool}(hf: ∀v,f v=some (g v)): ∀(l:List jJ) (i:Nat),∃j:Int,fM f l i=some j/\decide (0<=j)=l.any g
 |[],i=>⟨-1,rfl,rfl⟩
 |e::l,i=>by
  unfold fM;rw [hf,bz]
  cases h:g e with
  |true=>exact⟨(i:Int),by simp,by simp [h]⟩
  |false=>
   obtain⟨j,H,W⟩:=yZ hf l (i+1);exact⟨j,by simpa using H,by rw [W];simp [h]⟩
def vV{f:jJ->Option Bool}{g:jJ->Bool}(hf: ∀v,f v=some (g v))(l:List jJ):gK l f=some (l.any g):=by
 unfold gK jT;obtain⟨j,H,W⟩:=yZ hf l 0;rw [H,bz,W]
def wx(l:List Int)(h:l.length<=68719476736):fN l=some l:=by
 unfold fN;rw [bZ (by simpa using h)];rfl
def aaj(n:Int)(h0:0<=n)(h:n<=68719476736):ox n=some []:=by
 unfold ox pp;rw [bB (by simp;omega)];have e:i64.wrap (n-i64.wrap ((0:Int)-0))=n:=by
  rw [gg (n:=(0:Int)-0) (by omega) (by omega),gg (by omega) (by omega)];omega
 rw [e];by_cases hp:0<n
 ·rw [bM (by simpa using hp)];unfold gt0 zd;rw [bM hp];simp only [bz];rw [bM ⟨h0,h⟩];simp only [bz];rw [show dr (List.replicate n.toNat (0:Int)) 0 0=some []from by unfold dr;rw [bM (by simp;omega)];simp];rfl
 ·rw [bB (by simpa using hp)];rfl
def IP(a b:List Int)(ha:a.length<=8000)(V:b.length<=8000):kH [a,b]=some (a++b):=by
 unfold kH;simp only [kZ];rw [gg (n:=(0:Int)+(a.length:Int)) (by omega) (by omega),bB (by simp),gg (by omega) (by omega),bB (by simp;omega),aaj _ (by omega) (by omega)];simp only [bz,kY];rw [bZ (by simp;omega)];simp only [bz,pM];rw [bZ (by omega)];rfl
structure kq(n:al):Prop where
 cond:n.c_.i'.length<=30000
 g':n.A'.length<=5000
 keys:n.v'.length<=5000
 aggs:n.u'.length<=5000
 items:n.D'.length<=5000
 order:n.B'.length<=5000
 args: ∀g∈n.u',g.Arg.i'.length<=30000
 exprs: ∀e∈n.D',e.i'.length<=30000
def KX(e:bQ)(g':List Int):Bool:=(iK e g').2==0&&((iK e g').1==1||(iK e g').1==0)
def AU(e:bQ)(g':List Int):vx e g'=some (KX e g'):=by
 unfold vx KX;rw [ve e g'];simp only [bz,Bool.or_comm]
def Q7(a:f9)(g':List Int):Int×Bool:=(nG a g').getD (0,false)
def CZ(a:f9)(g':List Int):nG a g'=some (Q7 a g'):=by
 unfold Q7 nG;rw [ve];simp only [bz];repeat' split
 all_goals rfl
def UM(a:List Int)(e:Int):Int:=(a[e.toNat]?).getD 0
def yL(a:List Int)(e:Int):Bool:=decide (e<0)||decide ((a.length:Int)<=e)
def Qn{a:List Int}{e:Int}(h:yL a e=false):gw a e=some (UM a e):=by
 simp [yL]at h;rw [oj e.toNat (by omega),vp (by omega)];unfold UM;rw [vp (by omega)];rfl
def KU(x y:Int):Int:=if x=0 then y else x
def F7(p:Int×Int):Bool:=(p.2==KU p.1 p.2)||p.2==0
