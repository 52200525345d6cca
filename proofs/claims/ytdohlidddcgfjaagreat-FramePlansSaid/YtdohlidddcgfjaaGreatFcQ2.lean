/- cE of this claim: L3, L4. -/
import Derived.Test.YtdohlidddcgfjaaGreatFcQ1
set_option linter.all false
namespace Go.Proofs.YtdohlidddcgfjaaGreat
open Go

def Mt(p:List Int)(hp:p.length<=8000)(i:Nat)(y:List Int)(hy:i+y.length=p.length): ∀(k i1:Nat) (x:List Int) (x1:Nat),i1+k=y.length->0<i1->x.length=p.length->x1+1<=i+i1->x.drop (i+i1-1)=p.drop (i+i1-1)->
  fc i y k i1 x (x1:Int)=some (x.take x1++yG ((p[i+i1-1]?).getD 0) (p.drop (i+i1))):=by
 intro k
 induction k with
 |zero=>
  intro i1 x x1 X h0 V K h3
  simp only [fc]
  have hx1:x1<=x.length:=by omega
  rw [t7 hx1 (eJ _)]
  simp only [bG,DF,xM]
  rw [show((0:Int))=((0:Nat):Int)from rfl,t7 (oW _) (by simp;omega)]
  simp only [bG,zr]
  have hn:p.drop (i+i1)=[]:=Hy (by omega)
  rw [hn,KE,qC,Dh (by simp;omega),AI,Nat.min_self]
 |succ k ih=>
  intro i1 x x1 X h0 V K h3
  have e1:x[i+i1]? =p[i+i1]? :=by
   have:=congrArg (fun l:List Int=>l[1]?) h3
   simp only [wF]at this
   rwa [show i+i1-1+1=i+i1 from by omega]at this
  have e0:x[i+i1-1]? =p[i+i1-1]? :=by
   have:=congrArg (fun l:List Int=>l[0]?) h3
   simpa only [wF,CK] using this
  have hlt:i+i1<p.length:=by omega
  have g1:F6 x (i:Int) y.length (i1:Int)=some p[i+i1]:=by
   unfold F6
   rw [bJ (by omega),show(i:Int)+(i1:Int)=((i+i1:Nat):Int)from by omega,eu,e1,lI hlt]
  have g0:F6 x (i:Int) y.length (IntKind.i64.wrap ((i1:Int)-1))=some p[i+i1-1]:=by
   rw [fg (by omega) (by omega)]
   unfold F6
   rw [bJ (by omega),show(i:Int)+((i1:Int)-1)=((i+i1-1:Nat):Int)from by omega,eu,e0,lI (by omega)]
  have hd:p.drop (i+i1)=p[i+i1]::p.drop (i+i1+1):=AO hlt
  have hp1:(p[i+i1-1]?).getD 0=p[i+i1-1]:=by rw [lI (by omega)];rfl
  simp only [fc,g1,g0,bG]
  rw [hd,hp1]
  by_cases hx2:p[i+i1]=p[i+i1-1]
  ·rw [bk (by simp [hx2])]
   have h3' :x.drop (i+(i1+1)-1)=p.drop (i+(i1+1)-1):=by
    have:=congrArg (List.drop 1) h3
    rwa [uV,uV,show i+i1-1+1=i+(i1+1)-1 from by omega]at this
   rw [ih (i1+1) x x1 (by omega) (by omega) V (by omega) h3']
   rw [Hi hx2,show i+(i1+1)-1=i+i1 from by omega,lI hlt,show i+(i1+1)=i+i1+1 from by omega]
   rfl
  ·rw [bJ (by simp [hx2]),eu,lI (by omega)]
   simp only [bG,xM]
   rw [fg (by omega) (by omega),show((x1:Int)+1)=((x1+1:Nat):Int)from by omega]
   have h3' :(x.set x1 p[i+i1]).drop (i+(i1+1)-1)=p.drop (i+(i1+1)-1):=by
    rw [List.drop_set_of_lt (by omega)]
    have:=congrArg (List.drop 1) h3
    rwa [uV,uV,show i+i1-1+1=i+(i1+1)-1 from by omega]at this
   rw [ih (i1+1) _ (x1+1) (by omega) (by omega) (by simpa using V) (by omega) h3']
   rw [NN hx2,show i+(i1+1)-1=i+i1 from by omega,lI hlt,show i+(i1+1)=i+i1+1 from by omega]
   have D:(x.set x1 p[i+i1]).take (x1+1)=x.take x1++[p[i+i1]]:=by
    rw [PY (by simp;omega),List.take_set_of_le (by omega)]
    simp
   rw [D]
   simp
def Mu(p:List Int)(hp:p.length<=8000):lk p=some (NM p):=by
 unfold lk
 by_cases K:p.length<2
 ·rw [bJ (by simp;omega)]
  match p,K with
  |[],_=>rfl
  |[x],_=>rfl
 ·rw [bk (by simp;omega)]
  have key: ∀(l:List Int) (i:Nat),p.drop i=l->0<i->i<=p.length->NM p=p.take i++yG ((p[i-1]?).getD 0) (p.drop i)->gh p l i=some (NM p):=by
   intro l
   induction l with
   |nil=>
    intro i X h0 hle h3
    have:=xO.1 X
    simp only [gh]
    rw [h3,X,uj (by omega),KE,qC]
   |cons x t ih=>
    intro i X h0 hle h3
    have hi:i<p.length:=by
     rcases qb i p.length with h|h
     ·exact h
     ·rw [Hy h]at X;cases X
    have V:x=p[i]:=by rw [AO hi]at X;exact(zA X).1.symm
    have D:p.drop (i+1)=t:=by rw [<-uV,X];rfl
    have hp1:(p[i-1]?).getD 0=p[i-1]:=by rw [lI (by omega)];rfl
    simp only [gh]
    rw [fg (by omega) (by omega),show(i:Int)-1=((i-1:Nat):Int)from by omega,eu,lI (by omega)]
    simp only [bG]
    by_cases he:x=p[i-1]
    ·rw [bJ (by simp [he])]
     rw [t7 hle (eJ _)]
     simp only [bG,DF]
     rw [Mt p hp i (p.drop i) (by simp;omega) _ 1 p i (by simp;omega) (by omega) rfl (by omega) (by simp)]
     rw [h3,X,hp1,Hi he,<-D,V]
     rw [show i+1-1=i from by omega,lI hi];rfl
    ·rw [bk (by simp [he])]
     refine ih (i+1) D (by omega) (by omega) ?_
     rw [h3,X,hp1,NN he,PY hi,<-D,V,show i+1-1=i from by omega,lI hi]
     rw [pe];rfl
  have hpc:p=p[0]::p.drop 1:=by
   have:=AO (l:=p) (i:=0) (by omega)
   simpa using this
  refine key (p.drop 1) 1 rfl (by omega) (by omega) ?_
  have e:(p[1-1]?).getD 0=p[0]:=by simp [lI (show 0<p.length by omega)]
  rw [e]
  conv=>lhs;rw [hpc]
  have e2:p.take 1=[p[0]]:=by
   conv=>lhs;rw [hpc]
   rfl
  rw [e2];rfl

def O7(l:List Int)(z:Int):z∈sortI l↔z∈l:=by unfold sortI;simp
def AH: ∀(ns:List av) (out:List Int),out.length+ns.length<=8000-> ∃cs,ol ns out=some cs/\ ∀c,c∈cs↔c∈out\/ ∃n∈ns,n.Tag=2/\n.Col=c
 |[],out,h=>by
  unfold ol Eb
  rw [bJ (by simp at h;omega)]
  simp only [bG]
  rw [Mu _ (by rw [Cb];simpa using h)]
  exact⟨_,rfl,fun c=>by rw [O8,O7];simp⟩
 |n::ns,out,h=>by
  simp only [iG]at h
  unfold ol
  by_cases D:n.Tag=2
  ·rw [bJ (by simp [D]),cd (by simp;omega)]
   simp only [bG]
   obtain⟨cs,X,K⟩:=AH ns (out++[n.Col]) (by simp;omega)
   exact⟨cs,X,fun c=>by rw [K];simp [D,or_assoc,eq_comm]⟩
  ·rw [bk (by simp [D])]
   obtain⟨cs,X,K⟩:=AH ns out (by omega)
   exact⟨cs,X,fun c=>by rw [K];simp [D]⟩
def IG(e:aW)(h:nw e.Nodes=true): ∃cs,wu e=some cs/\ ∀c,c∈cs↔ ∃n∈e.Nodes,n.Tag=2/\n.Col=c:=by
 have hl:=Lu h
 unfold wu
 rw [zS e (by omega),h]
 obtain⟨cs,X,K⟩:=AH e.Nodes [] (by simp;omega)
 exact⟨cs,by simpa using X,fun c=>by rw [K];simp⟩
def kn(tag l r:Int):Int×Bool:=(sx tag l r).getD (0,false)
def zK(tag l r:Int):sx tag l r=some (kn tag l r):=by
 unfold kn sx q0
 simp only [bG]
 repeat' split
 all_goals simp
def k4(k:Int):Prop:=k=0\/k=1\/k=2\/k=3
def VD(tag l r:Int):k4 (kn tag l r).1:=by
 unfold kn sx q0
 simp only [bG]
 repeat' split
 all_goals simp [k4]
def MG(kinds:List Int)(n:av)(x:Int)(V:k4 x)(hk:pk n.Tag=some 1):kC kinds n [x]=some (if(kn n.Tag x 0).2 then((kn n.Tag x 0).1,0)else(0,201)):=by
 obtain⟨tag,L,R,col,v⟩:=n
 have D:tag=4\/tag=5\/tag=6\/tag=7:=by
  unfold pk at hk
  repeat' split at hk
  all_goals simp at hk
  rename_i h
  have h:4<=tag/\tag<=7:=h
  omega
 rcases D with rfl|rfl|rfl|rfl<;>rcases V with rfl|rfl|rfl|rfl<;>rfl
def MF(kinds:List Int)(n:av)(x y:Int)(V:k4 x)(hy:k4 y)(hk:pk n.Tag=some 2):kC kinds n [x,y]=some (if(kn n.Tag x y).2 then((kn n.Tag x y).1,0)else(0,201)):=by
 obtain⟨tag,L,R,col,v⟩:=n
 have D:tag=12\/tag=13\/tag=14\/tag=15\/tag=16\/tag=17\/tag=18\/tag=19\/tag=20\/tag=21\/tag=22\/tag=23:=by
  unfold pk at hk
  repeat' split at hk
  all_goals simp at hk
  rename_i h
  have h:12<=tag/\tag<=23:=h
  omega
 rcases D with rfl|rfl|rfl|rfl|rfl|rfl|rfl|rfl|rfl|rfl|rfl|rfl<;>rcases V with rfl|rfl|rfl|rfl<;>rcases hy with rfl|rfl|rfl|rfl<;>rfl
def kd(kinds:List Int):Tr->Option Int
 | .lf n=>if n.Tag=1 then some n.Value.Kind else some ((kinds[n.Col.toNat]?).getD 0)
 | .un n a=>(kd kinds a).bind fun x=>if(kn n.Tag x 0).2 then some (kn n.Tag x 0).1 else none
 | .bi n a b=>(kd kinds a).bind fun x=>(kd kinds b).bind fun y=>if(kn n.Tag x y).2 then some (kn n.Tag x y).1 else none
def Rm(kinds:List Int)(n:av)(a:Tr):kd kinds (.un n a)=(kd kinds a).bind fun x=>if(kn n.Tag x 0).2 then some (kn n.Tag x 0).1 else none:=rfl
def Nn(kinds:List Int)(n:av)(a b:Tr):kd kinds (.bi n a b)=(kd kinds a).bind fun x=>(kd kinds b).bind fun y=>if(kn n.Tag x y).2 then some (kn n.Tag x y).1 else none:=rfl
def Hj(m:Nat):Tr->Prop
 | .lf n=>n.Tag=2->n.Col<m
 | .un _ a=>Hj m a
 | .bi _ a b=>Hj m a/\Hj m b
def pk0{tag:Int}(h:pk tag=some 0):tag=1\/tag=2:=by
 unfold pk at h
 repeat' split at h
 all_goals simp at h
 assumption
def ab7{n:av}(h:C7 n=true)(D:n.Tag=1):vM n.Value=true:=by
 have K:=kX n
 rw [h]at K
 unfold ka at K
 rw [bJ (by simp [D]),pM]at K
 simp at K
 exact K.1
def Z5{n:av}(h:C7 n=true)(D:n.Tag=2):0<=n.Col/\n.Col<16:=by
 have K:=kX n
 rw [h]at K
 unfold ka at K
 rw [bk (by simp [D]),bJ (by simp [D])]at K
 simp at K
 exact⟨K.1.2,K.2⟩
def Nm{kinds:List Int}(hk: ∀k∈kinds,k4 k): ∀(t:Tr),t.wf-> ∀{k},kd kinds t=some k->k4 k
 | .lf n,⟨X,K,_,_⟩,k,h=>by
  unfold kd at h
  split at h
  ·rename_i D
   have:=JQ (ab7 K D)
   cases h;unfold k4;omega
  ·injection h with h
   subst h
   cases hc:kinds[n.Col.toNat]? with
   |none=>exact .inl rfl
   |some z=>exact hk z (rC hc)
 | .un n a,_,k,h=>by
  unfold kd at h
  cases ha:kd kinds a with
  |none=>rw [ha]at h;cases h
  |some x=>
   rw [ha,bG]at h
   split at h
   ·cases h;exact VD ..
   ·cases h
 | .bi n a b,_,k,h=>by
  unfold kd at h
  cases ha:kd kinds a with
  |none=>rw [ha]at h;cases h
  |some x=>
   cases H:kd kinds b with
   |none=>rw [ha,H]at h;cases h
   |some y=>
    rw [ha,H]at h
    simp only [bG]at h
    split at h
    ·cases h;exact VD ..
    ·cases h
def LB(stack l:List Int)(h:stack.length+l.length<=100000):qT (stack++l) (l.length:Int)=some (l,stack):=by
 unfold qT eG
 have e:IntKind.i64.wrap (((stack++l).length:Int)-(l.length:Int))=(stack.length:Int):=by
  rw [mq,fg (by omega) (by omega)];omega
 rw [e,lB stack.length (stack++l).length rfl rfl (by simp) (eJ _)]
 simp only [bG,DF,I6 (eJ _),List.drop_length,oY]
 rw [cd (by simp;omega)]
 simp only [bG,oY]
 rw [lB (i:=0) 0 stack.length rfl rfl (oW _) (by simp)]
 simp
def JV(stack:List Int){b:Int}(h:b≠0):nJ b stack=some (0,b):=by
 unfold nJ;rw [bJ (by simpa using h)]
def vS{tag:Int}{k:Nat}(h:pk tag=some k):sO tag=some (k:Int):=by
 rw [zR];unfold Ic;rw [h]
def O0(kinds:List Int)(hk: ∀k∈kinds,k4 k)(t:Tr):t.wf->Hj kinds.length t-> ∀(ac:Nat) (rest:List av) (stack:List Int),stack.length+t.size<=50000->
  i0 (kC kinds) (t.flat ac++rest) 0 stack=match kd kinds t with
   |some k=>i0 (kC kinds) rest 0 (stack++[k])
   |none=>some (0,201):=by
 induction t with
 |lf n=>
  intro⟨X,K,h3,h4⟩ hc ac rest stack hl
  simp only [Tr.flat,Tr.size,FJ,oY]at hl ⊢
  rw [i0]
  have e1:(jU n (-1) (-1)).Tag=n.Tag:=rfl
  rw [e1,vS X]
  have h0:=LB stack [] (by simp;omega)
  simp only [qC,vX]at h0
  simp only [bG]
  rw [h0]
  simp only [bG]
  have hv:kC kinds (jU n (-1) (-1)) []=(kd kinds (.lf n)).map (fun k=>(k,(0:Int))):=by
   unfold kC nL kd
   simp only [e1]
   rcases pk0 X with D|D
   ·rw [bJ (by simp [D]),bJ D];rfl
   ·rw [bk (by simp [D]),bJ (by simp [D]),bk (by simp [D])]
    have H:=Z5 K D
    have hm:n.Col<kinds.length:=hc D
    have e2:(jU n (-1) (-1)).Col=n.Col:=rfl
    rw [e2,m6 n.Col.toNat (by omega),lI (by omega)]
    rfl
  rw [hv]
  have: ∃k,kd kinds (.lf n)=some k:=by unfold kd;split<;>exact⟨_,rfl⟩
  obtain⟨k,hk1⟩:=this
  rw [hk1]
  simp only [xB,bG]
  rw [bk (by simp),cd (by simp;omega)]
  rfl
 |un n a ih=>
  intro⟨⟨X,K,h3,h4⟩,ha⟩ hc ac rest stack hl
  simp only [Tr.flat,Tr.size,pe]at hl ⊢
  rw [Rm,ih ha hc ac _ stack (by omega)]
  cases V:kd kinds a with
  |none=>rfl
  |some x=>
   have hx4:=Nm hk a ha V
   simp only [bG,FJ,oY]
   rw [i0]
   have e1:(jU n (((ac+a.size:Nat):Int)-1) (-1)).Tag=n.Tag:=rfl
   rw [e1,vS X]
   have h0:=LB stack [x] (by simp;omega)
   simp only [bG]
   have e0:(([x]:List Int).length:Int)=((1:Nat):Int):=rfl
   rw [<-e0,h0]
   simp only [bG]
   rw [MG kinds _ x hx4 (by rw [e1];exact X),e1]
   cases H:(kn n.Tag x 0).2 with
   |true=>
    simp only [mG,bG]
    rw [bk (by simp),cd (by simp;omega)]
    rfl
   |false=>
    simp only [r0,oV,bG]
    rw [bJ (by decide),JV _ (by decide)]
 |bi n a b iha ihb=>
  intro⟨⟨X,K,h3,h4⟩,ha,H⟩ ⟨hca,hcb⟩ ac rest stack hl
  simp only [Tr.flat,Tr.size,pe]at hl ⊢
  rw [Nn,iha ha hca ac _ stack (by omega)]
  cases V:kd kinds a with
  |none=>rfl
  |some x=>
   have hx4:=Nm hk a ha V
   simp only [bG]
   rw [ihb H hcb (ac+a.size) _ (stack++[x]) (by have:=a.size_pos;simp;omega)]
   cases hy:kd kinds b with
   |none=>rfl
   |some y=>
    have hy4:=Nm hk b H hy
    have hap:=a.size_pos
    simp only [bG,FJ,oY]
    rw [i0]
    have e1:(jU n (((ac+a.size:Nat):Int)-1) (((ac+a.size+b.size:Nat):Int)-1)).Tag=n.Tag:=rfl
    rw [e1,vS X]
    have h0:=LB stack [x,y] (by simp;omega)
    simp only [bG]
    have e0:(([x,y]:List Int).length:Int)=((2:Nat):Int):=rfl
    have e9:stack++[x]++[y]=stack++[x,y]:=by simp
    rw [<-e0,e9,h0]
    simp only [bG]
    rw [MF kinds _ x y hx4 hy4 (by rw [e1];exact X),e1]
    cases H:(kn n.Tag x y).2 with
    |true=>
     simp only [mG,bG]
     rw [bk (by simp),cd (by simp;omega)]
     rfl
    |false=>
     simp only [r0,oV,bG]
     rw [bJ (by decide),JV _ (by decide)]
def QM(kinds:List Int)(hk: ∀k∈kinds,k4 k)(t:Tr):t.wf->Hj kinds.length t-> ∀(rest:List av) (own:List Int),own.length+t.size<=50000->
  (kd kinds t=none/\dI kinds (t.flat own.length++rest) own=some (0,201))\/
  (∃k w,kd kinds t=some k/\w.length+1=t.size/\dI kinds (t.flat own.length++rest) own=dI kinds rest (own++w++[k])):=by
 induction t with
 |lf n=>
  intro⟨X,K,h3,h4⟩ hc rest own hl
  simp only [Tr.flat,Tr.size,FJ,oY]at hl ⊢
  refine .inr ?_
  have e1:(jU n (-1) (-1)).Tag=n.Tag:=rfl
  unfold kd
  rcases pk0 X with D|D
  ·refine⟨_,[],bJ D,rfl,?_⟩
   rw [dI]
   rw [e1,bJ (by simp [D]),cd (by simp;omega)]
   simp only [bG,qC]
   rfl
  ·refine⟨_,[],bk (by simp [D]),rfl,?_⟩
   have H:=Z5 K D
   have hm:n.Col<kinds.length:=hc D
   have e2:(jU n (-1) (-1)).Col=n.Col:=rfl
   rw [dI]
   rw [e1,bk (by simp [D]),bJ (by simp [D]),e2,m6 n.Col.toNat (by omega),lI (by omega)]
   simp only [bG,qC,Option.getD_some]
   rw [cd (by simp;omega)]
   rfl
 |un n a ih=>
  intro⟨⟨X,K,h3,h4⟩,ha⟩ hc rest own hl
  have hap:=a.size_pos
  simp only [Tr.flat,Tr.size,pe]at hl ⊢
  rcases ih ha hc ([jU n (((own.length+a.size:Nat):Int)-1) (-1)]++rest) own (by omega)with⟨V,he⟩|⟨x,w,V,hw,he⟩
  ·exact .inl ⟨by rw [Rm,V];rfl,by rw [he]⟩
  ·rw [he]
   rw [Rm,V]
   simp only [bG,FJ,oY]
   have e1:(jU n (((own.length+a.size:Nat):Int)-1) (-1)).Tag=n.Tag:=rfl
   have n1:n.Tag≠1:=fun h=>by rw [h]at X;simp [pk]at X
   have n2:n.Tag≠2:=fun h=>by rw [h]at X;simp [pk]at X
   have hstep:dI kinds (jU n (((own.length+a.size:Nat):Int)-1) (-1)::rest) (own++w++[x])=if(kn n.Tag x 0).2 then dI kinds rest (own++w++[x]++[(kn n.Tag x 0).1])else some (0,201):=by
    rw [dI]
    rw [e1,bk (by simpa using n1),bk (by simpa using n2)]
    have eL:(jU n (((own.length+a.size:Nat):Int)-1) (-1)).L=((own.length+a.size:Nat):Int)-1:=rfl
    have eR:(jU n (((own.length+a.size:Nat):Int)-1) (-1)).R= -1:=rfl
    rw [eL,eR,m6 (own++w).length (by simp;omega),xC (eJ _),xo]
    simp only [Gl,bG]
    rw [bk (by decide)]
    unfold qK
    rw [e1,zK]
    simp only [bG]
    cases H:(kn n.Tag x 0).2 with
    |true=>
     simp only [ug,r0,oV,mG]
     rw [cd (by simp;omega)];rfl
    |false=>rfl
   rw [hstep]
   cases H:(kn n.Tag x 0).2 with
   |true=>exact .inr ⟨(kn n.Tag x 0).1,w++[x],by simp,by simp;omega,by simp⟩
   |false=>exact .inl ⟨by simp,by simp⟩
 |bi n a b iha ihb=>
  intro⟨⟨X,K,h3,h4⟩,ha,H⟩ ⟨hca,hcb⟩ rest own hl
  have hap:=a.size_pos
  have hbp:=b.size_pos
  simp only [Tr.flat,Tr.size,pe]at hl ⊢
  obtain⟨m,hm⟩: ∃m,m=jU n (((own.length+a.size:Nat):Int)-1) (((own.length+a.size+b.size:Nat):Int)-1):=⟨_,rfl⟩
  rw [<-hm]
  rcases iha ha hca (b.flat (own.length+a.size)++([m]++rest)) own (by omega)with⟨V,he⟩|⟨x,w,V,hw,he⟩
  ·exact .inl ⟨by rw [Nn,V];rfl,by rw [he]⟩
  ·rw [he]
   have hl2:(own++w++[x]).length=own.length+a.size:=by simp;omega
   rw [<-hl2]
   rcases ihb H hcb ([m]++rest) (own++w++[x]) (by rw [hl2];omega)with⟨hy,he2⟩|⟨y,w2,hy,hw2,he2⟩
   ·exact .inl ⟨by rw [Nn,V,hy];rfl,by rw [he2]⟩
   ·rw [he2]
    rw [Nn,V,hy]
    simp only [bG,FJ,oY]
    have e1:m.Tag=n.Tag:=by rw [hm];rfl
    have eL:m.L=((own.length+a.size:Nat):Int)-1:=by rw [hm];rfl
    have eR:m.R=((own.length+a.size+b.size:Nat):Int)-1:=by rw [hm];rfl
    have n1:n.Tag≠1:=fun h=>by rw [h]at X;simp [pk]at X
    have n2:n.Tag≠2:=fun h=>by rw [h]at X;simp [pk]at X
    have hstep:dI kinds (m::rest) (own++w++[x]++w2++[y])=if(kn n.Tag x y).2 then dI kinds rest (own++w++[x]++w2++[y]++[(kn n.Tag x y).1])else some (0,201):=by
     rw [dI]
     rw [e1,bk (by simpa using n1),bk (by simpa using n2)]
     rw [eL,eR,m6 (own++w).length (by simp;omega)]
     have g1:(own++w++[x]++w2++[y])[(own++w).length]? =some x:=by
      rw [pe,pe,xC (eJ _),xo];rfl
     rw [g1]
     simp only [bG]
     rw [bJ (by rw [mp];omega),m6 (own++w++[x]++w2).length (by simp;omega)]
     have g2:(own++w++[x]++w2++[y])[(own++w++[x]++w2).length]? =some y:=by
      rw [xC (eJ _),xo];rfl
     rw [g2]
     simp only [bG]
     unfold qK
     rw [e1,zK]
     simp only [bG]
     cases H:(kn n.Tag x y).2 with
     |true=>
      simp only [ug,r0,oV,mG]
      rw [cd (by simp;omega)];rfl
     |false=>rfl
    rw [hstep]
    cases H:(kn n.Tag x y).2 with
    |true=>exact .inr ⟨(kn n.Tag x y).1,w++[x]++w2++[y],by simp,by simp;omega,by simp⟩
    |false=>exact .inl ⟨by simp,by simp⟩
def sP(m:Nat)(ns:List av):Bool:=ns.all fun n=> !((n.Tag==2)&&decide ((m:Int)<=n.Col))
def KF(m:Nat)(n:av)(ns:List av):sP m (n::ns)=(!((n.Tag==2)&&decide ((m:Int)<=n.Col))&&sP m ns):=rfl
def C6(m:Nat)(t:Tr):t.wf-> ∀ac,sP m (t.flat ac)=true->Hj m t:=by
 induction t with
 |lf n=>
  intro _ ac h D
  simp only [sP,Tr.flat,zB,List.all_nil,Bool.and_true]at h
  have e1:(jU n (-1) (-1)).Tag=n.Tag:=rfl
  have e2:(jU n (-1) (-1)).Col=n.Col:=rfl
  simp [e1,e2,D]at h
  exact h
 |un n a ih=>
  intro⟨_,ha⟩ ac h
  simp only [sP,Tr.flat,List.all_append,pt]at h
  exact ih ha ac h.1
 |bi n a b iha ihb=>
  intro⟨_,ha,H⟩ ac h
  simp only [sP,Tr.flat,List.all_append,pt]at h
  exact⟨iha ha ac h.1.1,ihb H _ h.1.2⟩
def Rn(kinds:List Int):Bool:=kinds.all fun k=>decide (0<=k)&&decide (k<=3)
def Ke(k:Int)(ks:List Int):Rn (k::ks)=((decide (0<=k)&&decide (k<=3))&&Rn ks):=rfl
def Im{kinds:List Int}(h:Rn kinds=true){k:Int}(hk:k∈kinds):k4 k:=by
 have:=mo.1 h k hk
 simp at this
 unfold k4;omega
def gT(e:aW)(kinds:List Int):Int×Int:=
 if nw e.Nodes then if Rn kinds then if sP kinds.length e.Nodes then match (sr e.Nodes).bind (kd kinds)with
  |some k=>(k,0)
  |none=>(0,201)else(0,2)else(0,2)else(0,200)
def FB(e:aW)(kinds:List Int): ∀cs:List Int,oh e kinds cs=if cs.all (fun c=>decide (c<(kinds.length:Int)))then qM e (kC kinds)else some (0,2)
 |[]=>by
  unfold oh
  cases qM e (kC kinds)<;>rfl
 |c::cs=>by
  unfold oh
  rw [FB e kinds cs]
  by_cases h:(kinds.length:Int)<=c
  ·rw [bJ (by simpa using h),bk (by simp;omega)]
  ·rw [bk (by simpa using h)]
   have:c<(kinds.length:Int):=by omega
   simp [this]
def oj(e:aW)(kinds:List Int)(hl:e.Nodes.length<=50000):oU e kinds=some (gT e kinds):=by
 unfold oU gT
 rw [zS e (by omega)]
 cases hr:nw e.Nodes with
 |false=>rfl
 |true=>
  simp only [mG,bG]
  rw [bk (by decide)]
  have key: ∀ks:List Int,rW e kinds ks=if Rn ks then(wu e).bind (oh e kinds)else some (0,2):=by
   intro ks
   induction ks with
   |nil=>rfl
   |cons k ks ih=>
    unfold rW
    rw [ih]
    by_cases h:k<0\/3<k
    ·rw [bJ (by simpa using h),bk (by simp [Rn];omega)]
    ·rw [bk (by simpa using h)]
     have X:(decide (0<=k)&&decide (k<=3))=true:=by simp;omega
     rw [Ke,X,oX]
  rw [key]
  cases hk:Rn kinds with
  |false=>rfl
  |true=>
   simp only [mG]
   obtain⟨cs,X,K⟩:=IG e hr
   rw [X,bG,FB]
   have hci:cs.all (fun c=>decide (c<(kinds.length:Int)))=sP kinds.length e.Nodes:=by
    rw [AJ]
    simp only [mo,mp,sP,DI,Bool.and_eq_false_iff,beq_eq_false_iff_ne,MN]
    constructor
    ·intro h n hn
     by_cases D:n.Tag=2
     ·exact .inr (by have:=h _ ((K n.Col).2 ⟨n,hn,D,rfl⟩);omega)
     ·exact .inl D
    ·intro h c hc
     obtain⟨n,hn,D,rfl⟩:=(K c).1 hc
     rcases h n hn with h|h
     ·exact absurd D h
     ·omega
   rw [hci]
   cases hc:sP kinds.length e.Nodes with
   |false=>rfl
   |true=>
    simp only [mG]
    cases D:sr e.Nodes with
    |none=>unfold nw at hr;rw [D]at hr;cases hr
    |some t=>
     obtain⟨hw,hN,hs⟩:=nR D
     have hct:=C6 kinds.length t hw 0 (by rw [<-hN];exact hc)
     have:=O0 kinds (fun k=>Im hk) t hw hct 0 [] [] (by simp;omega)
     rw [qC,<-hN]at this
     unfold qM
     rw [this]
     simp only [bG]
     cases kd kinds t with
     |none=>rfl
     |some k=>rfl
def sY(e:aW)(kinds:List Int):sC e kinds=some (gT e kinds):=by
 unfold sC gT
 rw [Eu e]
 cases hr:nw e.Nodes with
 |false=>rfl
 |true=>
  simp only [mG,bG,ug,r0,oV]
  have ER: ∀ns:List av,oL e kinds ns=if sP kinds.length ns then dI kinds e.Nodes []else some (0,2):=by
   intro ns
   induction ns with
   |nil=>rfl
   |cons n ns ih=>
    unfold oL
    rw [ih,KF]
    cases ((n.Tag==2)&&decide ((kinds.length:Int)<=n.Col))<;>simp
  have key: ∀ks:List Int,qJ e kinds ks=if Rn ks then oL e kinds e.Nodes else some (0,2):=by
   intro ks
   induction ks with
   |nil=>rfl
   |cons k ks ih=>
    unfold qJ
    rw [ih]
    by_cases h:k<0\/3<k
    ·rw [bJ (by simpa using h),bk (by simp [Rn];omega)]
    ·rw [bk (by simpa using h)]
     have X:(decide (0<=k)&&decide (k<=3))=true:=by simp;omega
     rw [Ke,X,oX]
  rw [key,ER]
  cases hk:Rn kinds with
  |false=>rfl
  |true=>
   cases hc:sP kinds.length e.Nodes with
   |false=>rfl
   |true=>
    simp only [mG]
    cases D:sr e.Nodes with
    |none=>unfold nw at hr;rw [D]at hr;cases hr
    |some t=>
     obtain⟨hw,hN,hs⟩:=nR D
     have hct:=C6 kinds.length t hw 0 (by rw [<-hN];exact hc)
     have:=QM kinds (fun k=>Im hk) t hw hct [] [] (by simp;omega)
     rw [qC,vX,<-hN]at this
     simp only [bG]
     rcases this with⟨X,K⟩|⟨k,w,X,K,h3⟩
     ·rw [X,K]
     ·rw [X,h3]
      unfold dI
      have hls:t.size<=1000:=hs
      rw [oY,m6 w.length (by rw [fg (by simp<;>omega) (by simp<;>omega)];simp),xC (eJ _),xo]
      rfl

def jb{α:Type}{xs tl:List α}{i:Nat}{y:α}(h:xs.drop i=y::tl):gB xs (i:Int)=some y/\i<xs.length/\xs.drop (i+1)=tl:=by
 have hi:i<xs.length:=by
  rcases qb i xs.length with X|X
  ·exact X
  ·rw [Hy X]at h;cases h
 rw [AO hi]at h
 injection h with X K
 exact⟨by rw [eu,lI hi,X],hi,K⟩
def Fb{α:Type}{xs:List α}{i:Nat}(h:xs.drop i=[]):xs.length<=i:=xO.1 h
def wA{f:Int->Option Bool}{g:Int->Bool}(hf: ∀v,f v=some (g v)): ∀(l:List Int) (i:Nat),∃j:Int,gC f l i=some j/\decide (0<=j)=l.any g
 |[],i=>⟨-1,rfl,rfl⟩
 |e::l,i=>by
  unfold gC
  rw [hf,bG]
  cases h:g e with
  |true=>exact⟨(i:Int),by simp,by simp [h]⟩
  |false=>
   obtain⟨j,X,K⟩:=wA hf l (i+1)
   exact⟨j,by simpa using X,by rw [K];simp [h]⟩
def lj{f:Int->Option Bool}{g:Int->Bool}(hf: ∀v,f v=some (g v))(l:List Int):fD l f=some (l.any g):=by
 unfold fD mY
 obtain⟨j,X,K⟩:=wA hf l 0
 rw [X,bG,K]
def wz{f:kF->Option Bool}{g:kF->Bool}(hf: ∀v,f v=some (g v)): ∀(l:List kF) (i:Nat),∃j:Int,eF f l i=some j/\decide (0<=j)=l.any g
 |[],i=>⟨-1,rfl,rfl⟩
 |e::l,i=>by
  unfold eF
  rw [hf,bG]
  cases h:g e with
  |true=>exact⟨(i:Int),by simp,by simp [h]⟩
  |false=>
   obtain⟨j,X,K⟩:=wz hf l (i+1)
   exact⟨j,by simpa using X,by rw [K];simp [h]⟩
def tG{f:kF->Option Bool}{g:kF->Bool}(hf: ∀v,f v=some (g v))(l:List kF):fX l f=some (l.any g):=by
 unfold fX je
 obtain⟨j,X,K⟩:=wz hf l 0
 rw [X,bG,K]
def tY(l:List Int)(h:l.length<=68719476736):eG l=some l:=by
 unfold eG
 rw [cd (by simpa using h)];rfl
def Vp(n:Int)(h0:0<=n)(h:n<=68719476736):nh n=some []:=by
 unfold nh nX
 rw [bk (by simp;omega)]
 have e:IntKind.i64.wrap (n-IntKind.i64.wrap ((0:Int)-0))=n:=by
  rw [fg (n:=(0:Int)-0) (by omega) (by omega),fg (by omega) (by omega)];omega
 rw [e]
 by_cases hp:0<n
 ·rw [bJ (by simpa using hp)]
  unfold gt0 wG
  rw [bJ hp]
  simp only [bG]
  rw [bJ ⟨h0,h⟩]
  simp only [bG]
  rw [show eX (List.replicate n.toNat (0:Int)) 0 0=some []from by unfold eX;rw [bJ (by simp;omega)];simp]
  rfl
 ·rw [bk (by simpa using hp)];rfl
def FD(a b:List Int)(ha:a.length<=8000)(H:b.length<=8000):jO [a,b]=some (a++b):=by
 unfold jO
 simp only [j7]
 rw [fg (n:=(0:Int)+(a.length:Int)) (by omega) (by omega),bk (by simp),fg (by omega) (by omega),bk (by simp;omega),Vp _ (by omega) (by omega)]
 simp only [bG,j6]
 rw [cd (by simp;omega)]
 simp only [bG,oY]
 rw [cd (by omega)]
 rfl
structure jJ(n:tV):Prop where
 cond:n.Cond.Nodes.length<=5000
 kinds:n.Kinds.length<=5000
 keys:n.Keys.length<=5000
 aggs:n.Aggs.length<=5000
 items:n.Items.length<=5000
 order:n.Order.length<=5000
 args: ∀g∈n.Aggs,g.Arg.Nodes.length<=5000
 exprs: ∀e∈n.Items,e.Nodes.length<=5000
def HI(e:aW)(kinds:List Int):Bool:=(gT e kinds).2==0&&((gT e kinds).1==1||(gT e kinds).1==0)
def yd(e:aW)(kinds:List Int):s8 e kinds=some (HI e kinds):=by
 unfold s8 HI
 rw [sY e kinds]
 simp only [bG,Bool.or_comm]
def MA(a:fU)(kinds:List Int):Int×Bool:=(mA a kinds).getD (0,false)
def Ae(a:fU)(kinds:List Int):mA a kinds=some (MA a kinds):=by
 unfold MA mA
 rw [sY]
 simp only [bG]
 repeat' split
 all_goals rfl
def PS(a:List Int)(e:Int):Int:=(a[e.toNat]?).getD 0
def wj(a:List Int)(e:Int):Bool:=decide (e<0)||decide ((a.length:Int)<=e)
def LU{a:List Int}{e:Int}(h:wj a e=false):gB a e=some (PS a e):=by
 simp [wj]at h
 rw [m6 e.toNat (by omega),lI (by omega)]
 unfold PS
 rw [lI (by omega)];rfl
def HG(x y:Int):Int:=if x=0 then y else x
def Di(p:Int×Int):Bool:=(p.2==HG p.1 p.2)||p.2==0
end Go.Proofs.YtdohlidddcgfjaaGreat

