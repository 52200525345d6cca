/- bS of this claim: L3, L4. -/
import Derived.Test.YtdohlidddcgfjaaGreatFfQ1
set_option linter.all false
namespace Go.Proofs.YtdohlidddcgfjaaGreat
open Go

def Ny(p:List Int)(hp:p.length<=8000)(i:Nat)(y:List Int)(hy:i+y.length=p.length): ∀(k i1:Nat) (x:List Int) (x1:Nat),i1+k=y.length->0<i1->x.length=p.length->x1+1<=i+i1->x.drop (i+i1-1)=p.drop (i+i1-1)->
  ew i y k i1 x (x1:Int)=some (x.take x1++yr ((p[i+i1-1]?).getD 0) (p.drop (i+i1))):=by
 intro k
 induction k with
 |zero=>
  intro i1 x x1 Y h0 V X d
  simp only [ew]
  have hx1:x1<=x.length:=by omega
  rw [te hx1 (eo _)]
  simp only [bf,D0,uY]
  rw [show((0:Int))=((0:Nat):Int)from rfl,te (pL _) (by simp;omega)]
  simp only [bf,zF]
  have hn:p.drop (i+i1)=[]:=FU (by omega)
  rw [hn,Lv,p6,AD (by simp;omega),Ax,Nat.min_self]
 |succ k ih=>
  intro i1 x x1 Y h0 V X d
  have e1:x[i+i1]? =p[i+i1]? :=by
   have:=congrArg (fun l:List Int=>l[1]?) d
   simp only [vX]at this
   rwa [show i+i1-1+1=i+i1 from by omega]at this
  have e0:x[i+i1-1]? =p[i+i1-1]? :=by
   have:=congrArg (fun l:List Int=>l[0]?) d
   simpa only [vX,CF] using this
  have hlt:i+i1<p.length:=by omega
  have g1:Gh x (i:Int) y.length (i1:Int)=some p[i+i1]:=by
   unfold Gh
   rw [bh (by omega),show(i:Int)+(i1:Int)=((i+i1:Nat):Int)from by omega,eU,e1,sH hlt]
  have g0:Gh x (i:Int) y.length (IntKind.i64.wrap ((i1:Int)-1))=some p[i+i1-1]:=by
   rw [eM (by omega) (by omega)]
   unfold Gh
   rw [bh (by omega),show(i:Int)+((i1:Int)-1)=((i+i1-1:Nat):Int)from by omega,eU,e0,sH (by omega)]
  have hd:p.drop (i+i1)=p[i+i1]::p.drop (i+i1+1):=B0 hlt
  have hp1:(p[i+i1-1]?).getD 0=p[i+i1-1]:=by rw [sH (by omega)];rfl
  simp only [ew,g1,g0,bf]
  rw [hd,hp1]
  by_cases hx2:p[i+i1]=p[i+i1-1]
  ·rw [aQ (by simp [hx2])]
   have h3' :x.drop (i+(i1+1)-1)=p.drop (i+(i1+1)-1):=by
    have:=congrArg (List.drop 1) d
    rwa [sJ,sJ,show i+i1-1+1=i+(i1+1)-1 from by omega]at this
   rw [ih (i1+1) x x1 (by omega) (by omega) V (by omega) h3']
   rw [Hu hx2,show i+(i1+1)-1=i+i1 from by omega,sH hlt,show i+(i1+1)=i+i1+1 from by omega]
   rfl
  ·rw [bh (by simp [hx2]),eU,sH (by omega)]
   simp only [bf,uY]
   rw [eM (by omega) (by omega),show((x1:Int)+1)=((x1+1:Nat):Int)from by omega]
   have h3' :(x.set x1 p[i+i1]).drop (i+(i1+1)-1)=p.drop (i+(i1+1)-1):=by
    rw [List.drop_set_of_lt (by omega)]
    have:=congrArg (List.drop 1) d
    rwa [sJ,sJ,show i+i1-1+1=i+(i1+1)-1 from by omega]at this
   rw [ih (i1+1) _ (x1+1) (by omega) (by omega) (by simpa using V) (by omega) h3']
   rw [O9 hx2,show i+(i1+1)-1=i+i1 from by omega,sH hlt,show i+(i1+1)=i+i1+1 from by omega]
   have D:(x.set x1 p[i+i1]).take (x1+1)=x.take x1++[p[i+i1]]:=by
    rw [Rs (by simp;omega),List.take_set_of_le (by omega)]
    simp
   rw [D]
   simp
def Nz(p:List Int)(hp:p.length<=8000):kG p=some (O8 p):=by
 unfold kG
 by_cases X:p.length<2
 ·rw [bh (by simp;omega)]
  match p,X with
  |[],_=>rfl
  |[x],_=>rfl
 ·rw [aQ (by simp;omega)]
  have key: ∀(l:List Int) (i:Nat),p.drop i=l->0<i->i<=p.length->O8 p=p.take i++yr ((p[i-1]?).getD 0) (p.drop i)->fE p l i=some (O8 p):=by
   intro l
   induction l with
   |nil=>
    intro i Y h0 hle d
    have:=Jz.1 Y
    simp only [fE]
    rw [d,Y,ul (by omega),Lv,p6]
   |cons x t ih=>
    intro i Y h0 hle d
    have hi:i<p.length:=by
     rcases oc i p.length with h|h
     ·exact h
     ·rw [FU h]at Y;cases Y
    have V:x=p[i]:=by rw [B0 hi]at Y;exact(xw Y).1.symm
    have D:p.drop (i+1)=t:=by rw [<-sJ,Y];rfl
    have hp1:(p[i-1]?).getD 0=p[i-1]:=by rw [sH (by omega)];rfl
    simp only [fE]
    rw [eM (by omega) (by omega),show(i:Int)-1=((i-1:Nat):Int)from by omega,eU,sH (by omega)]
    simp only [bf]
    by_cases he:x=p[i-1]
    ·rw [bh (by simp [he])]
     rw [te hle (eo _)]
     simp only [bf,D0]
     rw [Ny p hp i (p.drop i) (by simp;omega) _ 1 p i (by simp;omega) (by omega) rfl (by omega) (by simp)]
     rw [d,Y,hp1,Hu he,<-D,V]
     rw [show i+1-1=i from by omega,sH hi];rfl
    ·rw [aQ (by simp [he])]
     refine ih (i+1) D (by omega) (by omega) ?_
     rw [d,Y,hp1,O9 he,Rs hi,<-D,V,show i+1-1=i from by omega,sH hi]
     rw [hZ];rfl
  have hpc:p=p[0]::p.drop 1:=by
   have:=B0 (l:=p) (i:=0) (by omega)
   simpa using this
  refine key (p.drop 1) 1 rfl (by omega) (by omega) ?_
  have e:(p[1-1]?).getD 0=p[0]:=by simp [sH (show 0<p.length by omega)]
  rw [e]
  conv=>lhs;rw [hpc]
  have e2:p.take 1=[p[0]]:=by
   conv=>lhs;rw [hpc]
   rfl
  rw [e2];rfl

def Qy(l:List Int)(z:Int):z∈sortI l↔z∈l:=by unfold sortI;simp
def Av: ∀(ns:List ap) (out:List Int),out.length+ns.length<=8000-> ∃cs,nf ns out=some cs/\ ∀c,c∈cs↔c∈out\/ ∃n∈ns,n.Tag=2/\n.Col=c
 |[],out,h=>by
  unfold nf Em
  rw [bh (by simp at h;omega)]
  simp only [bf]
  rw [Nz _ (by rw [B7];simpa using h)]
  exact⟨_,rfl,fun c=>by rw [Qz,Qy];simp⟩
 |n::ns,out,h=>by
  simp only [iG]at h
  unfold nf
  by_cases D:n.Tag=2
  ·rw [bh (by simp [D]),cD (by simp;omega)]
   simp only [bf]
   obtain⟨cs,Y,X⟩:=Av ns (out++[n.Col]) (by simp;omega)
   exact⟨cs,Y,fun c=>by rw [X];simp [D,or_assoc,eq_comm]⟩
  ·rw [aQ (by simp [D])]
   obtain⟨cs,Y,X⟩:=Av ns out (by omega)
   exact⟨cs,Y,fun c=>by rw [X];simp [D]⟩
def I8(e:aO)(h:mE e.Nodes=true): ∃cs,vI e=some cs/\ ∀c,c∈cs↔ ∃n∈e.Nodes,n.Tag=2/\n.Col=c:=by
 have hl:=My h
 unfold vI
 rw [zy e (by omega),h]
 obtain⟨cs,Y,X⟩:=Av e.Nodes [] (by simp;omega)
 exact⟨cs,by simpa using Y,fun c=>by rw [X];simp⟩
def kn(tag l r:Int):Int×Bool:=(tP tag l r).getD (0,false)
def zk(tag l r:Int):tP tag l r=some (kn tag l r):=by
 unfold kn tP rr
 simp only [bf]
 repeat' split
 all_goals simp
def k4(k:Int):Prop:=k=0\/k=1\/k=2\/k=3
def WW(tag l r:Int):k4 (kn tag l r).1:=by
 unfold kn tP rr
 simp only [bf]
 repeat' split
 all_goals simp [k4]
def NN(kinds:List Int)(n:ap)(x:Int)(V:k4 x)(hk:pk n.Tag=some 1):j3 kinds n [x]=some (if(kn n.Tag x 0).2 then((kn n.Tag x 0).1,0)else(0,201)):=by
 obtain⟨tag,L,R,col,v⟩:=n
 have D:tag=4\/tag=5\/tag=6\/tag=7:=by
  unfold pk at hk
  repeat' split at hk
  all_goals simp at hk
  rename_i h
  have h:4<=tag/\tag<=7:=h
  omega
 rcases D with rfl|rfl|rfl|rfl<;>rcases V with rfl|rfl|rfl|rfl<;>rfl
def NM(kinds:List Int)(n:ap)(x y:Int)(V:k4 x)(hy:k4 y)(hk:pk n.Tag=some 2):j3 kinds n [x,y]=some (if(kn n.Tag x y).2 then((kn n.Tag x y).1,0)else(0,201)):=by
 obtain⟨tag,L,R,col,v⟩:=n
 have D:tag=12\/tag=13\/tag=14\/tag=15\/tag=16\/tag=17\/tag=18\/tag=19\/tag=20\/tag=21\/tag=22\/tag=23:=by
  unfold pk at hk
  repeat' split at hk
  all_goals simp at hk
  rename_i h
  have h:12<=tag/\tag<=23:=h
  omega
 rcases D with rfl|rfl|rfl|rfl|rfl|rfl|rfl|rfl|rfl|rfl|rfl|rfl<;>rcases V with rfl|rfl|rfl|rfl<;>rcases hy with rfl|rfl|rfl|rfl<;>rfl
def kd(kinds:List Int):Tr->Option Int
 | .lf n=>if n.Tag=1 then some n.Value.Kind else some ((kinds[n.Col.toNat]?).getD 0)
 | .un n a=>(kd kinds a).bind fun x=>if(kn n.Tag x 0).2 then some (kn n.Tag x 0).1 else none
 | .bi n a b=>(kd kinds a).bind fun x=>(kd kinds b).bind fun y=>if(kn n.Tag x y).2 then some (kn n.Tag x y).1 else none
def S2(kinds:List Int)(n:ap)(a:Tr):kd kinds (.un n a)=(kd kinds a).bind fun x=>if(kn n.Tag x 0).2 then some (kn n.Tag x 0).1 else none:=rfl
def OM(kinds:List Int)(n:ap)(a b:Tr):kd kinds (.bi n a b)=(kd kinds a).bind fun x=>(kd kinds b).bind fun y=>if(kn n.Tag x y).2 then some (kn n.Tag x y).1 else none:=rfl
def Hw(m:Nat):Tr->Prop
 | .lf n=>n.Tag=2->n.Col<m
 | .un _ a=>Hw m a
 | .bi _ a b=>Hw m a/\Hw m b
def pk0{tag:Int}(h:pk tag=some 0):tag=1\/tag=2:=by
 unfold pk at h
 repeat' split at h
 all_goals simp at h
 assumption
def ada{n:ap}(h:C9 n=true)(D:n.Tag=1):va n.Value=true:=by
 have X:=ko n
 rw [h]at X
 unfold kH at X
 rw [bh (by simp [D]),oz]at X
 simp at X
 exact X.1
def abj{n:ap}(h:C9 n=true)(D:n.Tag=2):0<=n.Col/\n.Col<16:=by
 have X:=ko n
 rw [h]at X
 unfold kH at X
 rw [aQ (by simp [D]),bh (by simp [D])]at X
 simp at X
 exact⟨X.1.2,X.2⟩
def OL{kinds:List Int}(hk: ∀k∈kinds,k4 k): ∀(t:Tr),t.wf-> ∀{k},kd kinds t=some k->k4 k
 | .lf n,⟨Y,X,_,_⟩,k,h=>by
  unfold kd at h
  split at h
  ·rename_i D
   have:=Ko (ada X D)
   cases h;unfold k4;omega
  ·injection h with h
   subst h
   cases hc:kinds[n.Col.toNat]? with
   |none=>exact .inl rfl
   |some z=>exact hk z (tu hc)
 | .un n a,_,k,h=>by
  unfold kd at h
  cases ha:kd kinds a with
  |none=>rw [ha]at h;cases h
  |some x=>
   rw [ha,bf]at h
   split at h
   ·cases h;exact WW ..
   ·cases h
 | .bi n a b,_,k,h=>by
  unfold kd at h
  cases ha:kd kinds a with
  |none=>rw [ha]at h;cases h
  |some x=>
   cases H:kd kinds b with
   |none=>rw [ha,H]at h;cases h
   |some y=>
    rw [ha,H]at h
    simp only [bf]at h
    split at h
    ·cases h;exact WW ..
    ·cases h
def MG(stack l:List Int)(h:stack.length+l.length<=100000):pW (stack++l) (l.length:Int)=some (l,stack):=by
 unfold pW dX
 have e:IntKind.i64.wrap (((stack++l).length:Int)-(l.length:Int))=(stack.length:Int):=by
  rw [kj,eM (by omega) (by omega)];omega
 rw [e,iZ stack.length (stack++l).length rfl rfl (by simp) (eo _)]
 simp only [bf,D0,PB (eo _),List.drop_length,mh]
 rw [cD (by simp;omega)]
 simp only [bf,mh]
 rw [iZ (i:=0) 0 stack.length rfl rfl (pL _) (by simp)]
 simp
def Kw(stack:List Int){b:Int}(h:b≠0):mS b stack=some (0,b):=by
 unfold mS;rw [bh (by simpa using h)]
def vg{tag:Int}{k:Nat}(h:pk tag=some k):rG tag=some (k:Int):=by
 rw [zx];unfold ID;rw [h]
def Qt(kinds:List Int)(hk: ∀k∈kinds,k4 k)(t:Tr):t.wf->Hw kinds.length t-> ∀(ae:Nat) (rest:List ap) (stack:List Int),stack.length+t.size<=50000->
  iB (j3 kinds) (t.flat ae++rest) 0 stack=match kd kinds t with
   |some k=>iB (j3 kinds) rest 0 (stack++[k])
   |none=>some (0,201):=by
 induction t with
 |lf n=>
  intro⟨Y,X,d,h4⟩ hc ae rest stack hl
  simp only [Tr.flat,Tr.size,De,mh]at hl ⊢
  rw [iB]
  have e1:(jv n (-1) (-1)).Tag=n.Tag:=rfl
  rw [e1,vg Y]
  have h0:=MG stack [] (by simp;omega)
  simp only [p6,vk]at h0
  simp only [bf]
  rw [h0]
  simp only [bf]
  have hv:j3 kinds (jv n (-1) (-1)) []=(kd kinds (.lf n)).map (fun k=>(k,(0:Int))):=by
   unfold j3 mU kd
   simp only [e1]
   rcases pk0 Y with D|D
   ·rw [bh (by simp [D]),bh D];rfl
   ·rw [aQ (by simp [D]),bh (by simp [D]),aQ (by simp [D])]
    have H:=abj X D
    have hm:n.Col<kinds.length:=hc D
    have e2:(jv n (-1) (-1)).Col=n.Col:=rfl
    rw [e2,lZ n.Col.toNat (by omega),sH (by omega)]
    rfl
  rw [hv]
  have: ∃k,kd kinds (.lf n)=some k:=by unfold kd;split<;>exact⟨_,rfl⟩
  obtain⟨k,hk1⟩:=this
  rw [hk1]
  simp only [pM,bf]
  rw [aQ (by simp),cD (by simp;omega)]
  rfl
 |un n a ih=>
  intro⟨⟨Y,X,d,h4⟩,ha⟩ hc ae rest stack hl
  simp only [Tr.flat,Tr.size,hZ]at hl ⊢
  rw [S2,ih ha hc ae _ stack (by omega)]
  cases V:kd kinds a with
  |none=>rfl
  |some x=>
   have hx4:=OL hk a ha V
   simp only [bf,De,mh]
   rw [iB]
   have e1:(jv n (((ae+a.size:Nat):Int)-1) (-1)).Tag=n.Tag:=rfl
   rw [e1,vg Y]
   have h0:=MG stack [x] (by simp;omega)
   simp only [bf]
   have e0:(([x]:List Int).length:Int)=((1:Nat):Int):=rfl
   rw [<-e0,h0]
   simp only [bf]
   rw [NN kinds _ x hx4 (by rw [e1];exact Y),e1]
   cases H:(kn n.Tag x 0).2 with
   |true=>
    simp only [jR,bf]
    rw [aQ (by simp),cD (by simp;omega)]
    rfl
   |false=>
    simp only [oj,lI,bf]
    rw [bh (by decide),Kw _ (by decide)]
 |bi n a b iha ihb=>
  intro⟨⟨Y,X,d,h4⟩,ha,H⟩ ⟨hca,hcb⟩ ae rest stack hl
  simp only [Tr.flat,Tr.size,hZ]at hl ⊢
  rw [OM,iha ha hca ae _ stack (by omega)]
  cases V:kd kinds a with
  |none=>rfl
  |some x=>
   have hx4:=OL hk a ha V
   simp only [bf]
   rw [ihb H hcb (ae+a.size) _ (stack++[x]) (by have:=a.size_pos;simp;omega)]
   cases hy:kd kinds b with
   |none=>rfl
   |some y=>
    have hy4:=OL hk b H hy
    have hap:=a.size_pos
    simp only [bf,De,mh]
    rw [iB]
    have e1:(jv n (((ae+a.size:Nat):Int)-1) (((ae+a.size+b.size:Nat):Int)-1)).Tag=n.Tag:=rfl
    rw [e1,vg Y]
    have h0:=MG stack [x,y] (by simp;omega)
    simp only [bf]
    have e0:(([x,y]:List Int).length:Int)=((2:Nat):Int):=rfl
    have e9:stack++[x]++[y]=stack++[x,y]:=by simp
    rw [<-e0,e9,h0]
    simp only [bf]
    rw [NM kinds _ x y hx4 hy4 (by rw [e1];exact Y),e1]
    cases H:(kn n.Tag x y).2 with
    |true=>
     simp only [jR,bf]
     rw [aQ (by simp),cD (by simp;omega)]
     rfl
    |false=>
     simp only [oj,lI,bf]
     rw [bh (by decide),Kw _ (by decide)]
def Sd(kinds:List Int)(hk: ∀k∈kinds,k4 k)(t:Tr):t.wf->Hw kinds.length t-> ∀(rest:List ap) (own:List Int),own.length+t.size<=50000->
  (kd kinds t=none/\dO kinds (t.flat own.length++rest) own=some (0,201))\/
  (∃k w,kd kinds t=some k/\w.length+1=t.size/\dO kinds (t.flat own.length++rest) own=dO kinds rest (own++w++[k])):=by
 induction t with
 |lf n=>
  intro⟨Y,X,d,h4⟩ hc rest own hl
  simp only [Tr.flat,Tr.size,De,mh]at hl ⊢
  refine .inr ?_
  have e1:(jv n (-1) (-1)).Tag=n.Tag:=rfl
  unfold kd
  rcases pk0 Y with D|D
  ·refine⟨_,[],bh D,rfl,?_⟩
   rw [dO]
   rw [e1,bh (by simp [D]),cD (by simp;omega)]
   simp only [bf,p6]
   rfl
  ·refine⟨_,[],aQ (by simp [D]),rfl,?_⟩
   have H:=abj X D
   have hm:n.Col<kinds.length:=hc D
   have e2:(jv n (-1) (-1)).Col=n.Col:=rfl
   rw [dO]
   rw [e1,aQ (by simp [D]),bh (by simp [D]),e2,lZ n.Col.toNat (by omega),sH (by omega)]
   simp only [bf,p6,Option.getD_some]
   rw [cD (by simp;omega)]
   rfl
 |un n a ih=>
  intro⟨⟨Y,X,d,h4⟩,ha⟩ hc rest own hl
  have hap:=a.size_pos
  simp only [Tr.flat,Tr.size,hZ]at hl ⊢
  rcases ih ha hc ([jv n (((own.length+a.size:Nat):Int)-1) (-1)]++rest) own (by omega)with⟨V,he⟩|⟨x,w,V,hw,he⟩
  ·exact .inl ⟨by rw [S2,V];rfl,by rw [he]⟩
  ·rw [he]
   rw [S2,V]
   simp only [bf,De,mh]
   have e1:(jv n (((own.length+a.size:Nat):Int)-1) (-1)).Tag=n.Tag:=rfl
   have n1:n.Tag≠1:=fun h=>by rw [h]at Y;simp [pk]at Y
   have n2:n.Tag≠2:=fun h=>by rw [h]at Y;simp [pk]at Y
   have hstep:dO kinds (jv n (((own.length+a.size:Nat):Int)-1) (-1)::rest) (own++w++[x])=if(kn n.Tag x 0).2 then dO kinds rest (own++w++[x]++[(kn n.Tag x 0).1])else some (0,201):=by
    rw [dO]
    rw [e1,aQ (by simpa using n1),aQ (by simpa using n2)]
    have eL:(jv n (((own.length+a.size:Nat):Int)-1) (-1)).L=((own.length+a.size:Nat):Int)-1:=rfl
    have eR:(jv n (((own.length+a.size:Nat):Int)-1) (-1)).R= -1:=rfl
    rw [eL,eR,lZ (own++w).length (by simp;omega),xf (eo _),wY]
    simp only [Gz,bf]
    rw [aQ (by decide)]
    unfold rQ
    rw [e1,zk]
    simp only [bf]
    cases H:(kn n.Tag x 0).2 with
    |true=>
     simp only [sI,oj,lI,jR]
     rw [cD (by simp;omega)];rfl
    |false=>rfl
   rw [hstep]
   cases H:(kn n.Tag x 0).2 with
   |true=>exact .inr ⟨(kn n.Tag x 0).1,w++[x],by simp,by simp;omega,by simp⟩
   |false=>exact .inl ⟨by simp,by simp⟩
 |bi n a b iha ihb=>
  intro⟨⟨Y,X,d,h4⟩,ha,H⟩ ⟨hca,hcb⟩ rest own hl
  have hap:=a.size_pos
  have hbp:=b.size_pos
  simp only [Tr.flat,Tr.size,hZ]at hl ⊢
  obtain⟨m,hm⟩: ∃m,m=jv n (((own.length+a.size:Nat):Int)-1) (((own.length+a.size+b.size:Nat):Int)-1):=⟨_,rfl⟩
  rw [<-hm]
  rcases iha ha hca (b.flat (own.length+a.size)++([m]++rest)) own (by omega)with⟨V,he⟩|⟨x,w,V,hw,he⟩
  ·exact .inl ⟨by rw [OM,V];rfl,by rw [he]⟩
  ·rw [he]
   have hl2:(own++w++[x]).length=own.length+a.size:=by simp;omega
   rw [<-hl2]
   rcases ihb H hcb ([m]++rest) (own++w++[x]) (by rw [hl2];omega)with⟨hy,he2⟩|⟨y,w2,hy,hw2,he2⟩
   ·exact .inl ⟨by rw [OM,V,hy];rfl,by rw [he2]⟩
   ·rw [he2]
    rw [OM,V,hy]
    simp only [bf,De,mh]
    have e1:m.Tag=n.Tag:=by rw [hm];rfl
    have eL:m.L=((own.length+a.size:Nat):Int)-1:=by rw [hm];rfl
    have eR:m.R=((own.length+a.size+b.size:Nat):Int)-1:=by rw [hm];rfl
    have n1:n.Tag≠1:=fun h=>by rw [h]at Y;simp [pk]at Y
    have n2:n.Tag≠2:=fun h=>by rw [h]at Y;simp [pk]at Y
    have hstep:dO kinds (m::rest) (own++w++[x]++w2++[y])=if(kn n.Tag x y).2 then dO kinds rest (own++w++[x]++w2++[y]++[(kn n.Tag x y).1])else some (0,201):=by
     rw [dO]
     rw [e1,aQ (by simpa using n1),aQ (by simpa using n2)]
     rw [eL,eR,lZ (own++w).length (by simp;omega)]
     have g1:(own++w++[x]++w2++[y])[(own++w).length]? =some x:=by
      rw [hZ,hZ,xf (eo _),wY];rfl
     rw [g1]
     simp only [bf]
     rw [bh (by rw [ig];omega),lZ (own++w++[x]++w2).length (by simp;omega)]
     have g2:(own++w++[x]++w2++[y])[(own++w++[x]++w2).length]? =some y:=by
      rw [xf (eo _),wY];rfl
     rw [g2]
     simp only [bf]
     unfold rQ
     rw [e1,zk]
     simp only [bf]
     cases H:(kn n.Tag x y).2 with
     |true=>
      simp only [sI,oj,lI,jR]
      rw [cD (by simp;omega)];rfl
     |false=>rfl
    rw [hstep]
    cases H:(kn n.Tag x y).2 with
    |true=>exact .inr ⟨(kn n.Tag x y).1,w++[x]++w2++[y],by simp,by simp;omega,by simp⟩
    |false=>exact .inl ⟨by simp,by simp⟩
def rK(m:Nat)(ns:List ap):Bool:=ns.all fun n=> !((n.Tag==2)&&decide ((m:Int)<=n.Col))
def Lw(m:Nat)(n:ap)(ns:List ap):rK m (n::ns)=(!((n.Tag==2)&&decide ((m:Int)<=n.Col))&&rK m ns):=rfl
def C7(m:Nat)(t:Tr):t.wf-> ∀ae,rK m (t.flat ae)=true->Hw m t:=by
 induction t with
 |lf n=>
  intro _ ae h D
  simp only [rK,Tr.flat,AI,List.all_nil,Bool.and_true]at h
  have e1:(jv n (-1) (-1)).Tag=n.Tag:=rfl
  have e2:(jv n (-1) (-1)).Col=n.Col:=rfl
  simp [e1,e2,D]at h
  exact h
 |un n a ih=>
  intro⟨_,ha⟩ ae h
  simp only [rK,Tr.flat,List.all_append,ly]at h
  exact ih ha ae h.1
 |bi n a b iha ihb=>
  intro⟨_,ha,H⟩ ae h
  simp only [rK,Tr.flat,List.all_append,ly]at h
  exact⟨iha ha ae h.1.1,ihb H _ h.1.2⟩
def S3(kinds:List Int):Bool:=kinds.all fun k=>decide (0<=k)&&decide (k<=3)
def KT(k:Int)(ks:List Int):S3 (k::ks)=((decide (0<=k)&&decide (k<=3))&&S3 ks):=rfl
def IN{kinds:List Int}(h:S3 kinds=true){k:Int}(hk:k∈kinds):k4 k:=by
 have:=kU.1 h k hk
 simp at this
 unfold k4;omega
def gp(e:aO)(kinds:List Int):Int×Int:=
 if mE e.Nodes then if S3 kinds then if rK kinds.length e.Nodes then match (rp e.Nodes).bind (kd kinds)with
  |some k=>(k,0)
  |none=>(0,201)else(0,2)else(0,2)else(0,200)
def FK(e:aO)(kinds:List Int): ∀cs:List Int,nd e kinds cs=if cs.all (fun c=>decide (c<(kinds.length:Int)))then pS e (j3 kinds)else some (0,2)
 |[]=>by
  unfold nd
  cases pS e (j3 kinds)<;>rfl
 |c::cs=>by
  unfold nd
  rw [FK e kinds cs]
  by_cases h:(kinds.length:Int)<=c
  ·rw [bh (by simpa using h),aQ (by simp;omega)]
  ·rw [aQ (by simpa using h)]
   have:c<(kinds.length:Int):=by omega
   simp [this]
def ne(e:aO)(kinds:List Int)(hl:e.Nodes.length<=50000):nH e kinds=some (gp e kinds):=by
 unfold nH gp
 rw [zy e (by omega)]
 cases hr:mE e.Nodes with
 |false=>rfl
 |true=>
  simp only [jR,bf]
  rw [aQ (by decide)]
  have key: ∀ks:List Int,q7 e kinds ks=if S3 ks then(vI e).bind (nd e kinds)else some (0,2):=by
   intro ks
   induction ks with
   |nil=>rfl
   |cons k ks ih=>
    unfold q7
    rw [ih]
    by_cases h:k<0\/3<k
    ·rw [bh (by simpa using h),aQ (by simp [S3];omega)]
    ·rw [aQ (by simpa using h)]
     have Y:(decide (0<=k)&&decide (k<=3))=true:=by simp;omega
     rw [KT,Y,nN]
  rw [key]
  cases hk:S3 kinds with
  |false=>rfl
  |true=>
   simp only [jR]
   obtain⟨cs,Y,X⟩:=I8 e hr
   rw [Y,bf,FK]
   have hci:cs.all (fun c=>decide (c<(kinds.length:Int)))=rK kinds.length e.Nodes:=by
    rw [xp]
    simp only [kU,ig,rK,Df,Bool.and_eq_false_iff,beq_eq_false_iff_ne,NX]
    constructor
    ·intro h n hn
     by_cases D:n.Tag=2
     ·exact .inr (by have:=h _ ((X n.Col).2 ⟨n,hn,D,rfl⟩);omega)
     ·exact .inl D
    ·intro h c hc
     obtain⟨n,hn,D,rfl⟩:=(X c).1 hc
     rcases h n hn with h|h
     ·exact absurd D h
     ·omega
   rw [hci]
   cases hc:rK kinds.length e.Nodes with
   |false=>rfl
   |true=>
    simp only [jR]
    cases D:rp e.Nodes with
    |none=>unfold mE at hr;rw [D]at hr;cases hr
    |some t=>
     obtain⟨hw,hN,hs⟩:=mZ D
     have hct:=C7 kinds.length t hw 0 (by rw [<-hN];exact hc)
     have:=Qt kinds (fun k=>IN hk) t hw hct 0 [] [] (by simp;omega)
     rw [p6,<-hN]at this
     unfold pS
     rw [this]
     simp only [bf]
     cases kd kinds t with
     |none=>rfl
     |some k=>rfl
def rR(e:aO)(kinds:List Int):tQ e kinds=some (gp e kinds):=by
 unfold tQ gp
 rw [EN e]
 cases hr:mE e.Nodes with
 |false=>rfl
 |true=>
  simp only [jR,bf,sI,oj,lI]
  have E2: ∀ns:List ap,pP e kinds ns=if rK kinds.length ns then dO kinds e.Nodes []else some (0,2):=by
   intro ns
   induction ns with
   |nil=>rfl
   |cons n ns ih=>
    unfold pP
    rw [ih,Lw]
    cases ((n.Tag==2)&&decide ((kinds.length:Int)<=n.Col))<;>simp
  have key: ∀ks:List Int,rP e kinds ks=if S3 ks then pP e kinds e.Nodes else some (0,2):=by
   intro ks
   induction ks with
   |nil=>rfl
   |cons k ks ih=>
    unfold rP
    rw [ih]
    by_cases h:k<0\/3<k
    ·rw [bh (by simpa using h),aQ (by simp [S3];omega)]
    ·rw [aQ (by simpa using h)]
     have Y:(decide (0<=k)&&decide (k<=3))=true:=by simp;omega
     rw [KT,Y,nN]
  rw [key,E2]
  cases hk:S3 kinds with
  |false=>rfl
  |true=>
   cases hc:rK kinds.length e.Nodes with
   |false=>rfl
   |true=>
    simp only [jR]
    cases D:rp e.Nodes with
    |none=>unfold mE at hr;rw [D]at hr;cases hr
    |some t=>
     obtain⟨hw,hN,hs⟩:=mZ D
     have hct:=C7 kinds.length t hw 0 (by rw [<-hN];exact hc)
     have:=Sd kinds (fun k=>IN hk) t hw hct [] [] (by simp;omega)
     rw [p6,vk,<-hN]at this
     simp only [bf]
     rcases this with⟨Y,X⟩|⟨k,w,Y,X,d⟩
     ·rw [Y,X]
     ·rw [Y,d]
      unfold dO
      have hls:t.size<=1000:=hs
      rw [mh,lZ w.length (by rw [eM (by simp<;>omega) (by simp<;>omega)];simp),xf (eo _),wY]
      rfl

def pz{α:Type}{xs tl:List α}{i:Nat}{y:α}(h:xs.drop i=y::tl):gV xs (i:Int)=some y/\i<xs.length/\xs.drop (i+1)=tl:=by
 have hi:i<xs.length:=by
  rcases oc i xs.length with Y|Y
  ·exact Y
  ·rw [FU Y]at h;cases h
 rw [B0 hi]at h
 injection h with Y X
 exact⟨by rw [eU,sH hi,Y],hi,X⟩
def Fo{α:Type}{xs:List α}{i:Nat}(h:xs.drop i=[]):xs.length<=i:=Jz.1 h
def vT{f:Int->Option Bool}{g:Int->Bool}(hf: ∀v,f v=some (g v)): ∀(l:List Int) (i:Nat),∃j:Int,f6 f l i=some j/\decide (0<=j)=l.any g
 |[],i=>⟨-1,rfl,rfl⟩
 |e::l,i=>by
  unfold f6
  rw [hf,bf]
  cases h:g e with
  |true=>exact⟨(i:Int),by simp,by simp [h]⟩
  |false=>
   obtain⟨j,Y,X⟩:=vT hf l (i+1)
   exact⟨j,by simpa using Y,by rw [X];simp [h]⟩
def kF{f:Int->Option Bool}{g:Int->Bool}(hf: ∀v,f v=some (g v))(l:List Int):eT l f=some (l.any g):=by
 unfold eT lX
 obtain⟨j,Y,X⟩:=vT hf l 0
 rw [Y,bf,X]
def vS{f:ku->Option Bool}{g:ku->Bool}(hf: ∀v,f v=some (g v)): ∀(l:List ku) (i:Nat),∃j:Int,dW f l i=some j/\decide (0<=j)=l.any g
 |[],i=>⟨-1,rfl,rfl⟩
 |e::l,i=>by
  unfold dW
  rw [hf,bf]
  cases h:g e with
  |true=>exact⟨(i:Int),by simp,by simp [h]⟩
  |false=>
   obtain⟨j,Y,X⟩:=vS hf l (i+1)
   exact⟨j,by simpa using Y,by rw [X];simp [h]⟩
def sG{f:ku->Option Bool}{g:ku->Bool}(hf: ∀v,f v=some (g v))(l:List ku):fg l f=some (l.any g):=by
 unfold fg iJ
 obtain⟨j,Y,X⟩:=vS hf l 0
 rw [Y,bf,X]
def td(l:List Int)(h:l.length<=68719476736):dX l=some l:=by
 unfold dX
 rw [cD (by simpa using h)];rfl
def WG(n:Int)(h0:0<=n)(h:n<=68719476736):mo n=some []:=by
 unfold mo m8
 rw [aQ (by simp;omega)]
 have e:IntKind.i64.wrap (n-IntKind.i64.wrap ((0:Int)-0))=n:=by
  rw [eM (n:=(0:Int)-0) (by omega) (by omega),eM (by omega) (by omega)];omega
 rw [e]
 by_cases hp:0<n
 ·rw [bh (by simpa using hp)]
  unfold gt0 vY
  rw [bh hp]
  simp only [bf]
  rw [bh ⟨h0,h⟩]
  simp only [bf]
  rw [show dQ (List.replicate n.toNat (0:Int)) 0 0=some []from by unfold dQ;rw [bh (by simp;omega)];simp]
  rfl
 ·rw [aQ (by simpa using hp)];rfl
def FN(a b:List Int)(ha:a.length<=8000)(H:b.length<=8000):jn [a,b]=some (a++b):=by
 unfold jn
 simp only [jG]
 rw [eM (n:=(0:Int)+(a.length:Int)) (by omega) (by omega),aQ (by simp),eM (by omega) (by omega),aQ (by simp;omega),WG _ (by omega) (by omega)]
 simp only [bf,jF]
 rw [cD (by simp;omega)]
 simp only [bf,mh]
 rw [cD (by omega)]
 rfl
structure je(n:aa):Prop where
 cond:n.Cond.Nodes.length<=5000
 kinds:n.Kinds.length<=5000
 keys:n.Keys.length<=5000
 aggs:n.Aggs.length<=5000
 items:n.Items.length<=5000
 order:n.Order.length<=5000
 args: ∀g∈n.Aggs,g.Arg.Nodes.length<=5000
 exprs: ∀e∈n.Items,e.Nodes.length<=5000
def Ie(e:aO)(kinds:List Int):Bool:=(gp e kinds).2==0&&((gp e kinds).1==1||(gp e kinds).1==0)
def xI(e:aO)(kinds:List Int):uz e kinds=some (Ie e kinds):=by
 unfold uz Ie
 rw [rR e kinds]
 simp only [bf,Bool.or_comm]
def NI(a:eY)(kinds:List Int):Int×Bool:=(nl a kinds).getD (0,false)
def zY(a:eY)(kinds:List Int):nl a kinds=some (NI a kinds):=by
 unfold NI nl
 rw [rR]
 simp only [bf]
 repeat' split
 all_goals rfl
def Rm(a:List Int)(e:Int):Int:=(a[e.toNat]?).getD 0
def vy(a:List Int)(e:Int):Bool:=decide (e<0)||decide ((a.length:Int)<=e)
def M1{a:List Int}{e:Int}(h:vy a e=false):gV a e=some (Rm a e):=by
 simp [vy]at h
 rw [lZ e.toNat (by omega),sH (by omega)]
 unfold Rm
 rw [sH (by omega)];rfl
def Ib(x y:Int):Int:=if x=0 then y else x
def Dk(p:Int×Int):Bool:=(p.2==Ib p.1 p.2)||p.2==0
end Go.Proofs.YtdohlidddcgfjaaGreat

