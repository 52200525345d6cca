/- bR of this claim: L3, L4. -/
import Derived.Test.YtdohlidddcgfjaaGreatFbQ1
set_option linter.all false
namespace Go.Proofs.YtdohlidddcgfjaaGreat
open Go

def IS(p:List Int)(hp:p.length<=8000)(i:Nat)(y:List Int)(hy:i+y.length=p.length): ∀(k i1:Nat) (x:List Int) (x1:Nat),i1+k=y.length->0<i1->x.length=p.length->x1+1<=i+i1->x.drop (i+i1-1)=p.drop (i+i1-1)->
  dD i y k i1 x (x1:Int)=some (x.take x1++vm ((p[i+i1-1]?).getD 0) (p.drop (i+i1))):=by
 intro k
 induction k with
 |zero=>
  intro i1 x x1 Y h0 V H Q
  simp only [dD]
  have hx1:x1<=x.length:=by omega
  rw [qA hx1 (jW _)]
  simp only [br,Au,yJ]
  rw [show((0:Int))=((0:Nat):Int)from rfl,qA (nv _) (by simp;omega)]
  simp only [br,Ar]
  have hn:p.drop (i+i1)=[]:=Fj (by omega)
  rw [hn,GQ,sC,z1 (by simp;omega),xm,Nat.min_self]
 |succ k ih=>
  intro i1 x x1 Y h0 V H Q
  have e1:x[i+i1]? =p[i+i1]? :=by
   have:=congrArg (fun l:List Int=>l[1]?) Q
   simp only [tk]at this
   rwa [show i+i1-1+1=i+i1 from by omega]at this
  have e0:x[i+i1-1]? =p[i+i1-1]? :=by
   have:=congrArg (fun l:List Int=>l[0]?) Q
   simpa only [tk,zr] using this
  have hlt:i+i1<p.length:=by omega
  have g1:CJ x (i:Int) y.length (i1:Int)=some p[i+i1]:=by
   unfold CJ
   rw [bu (by omega),show(i:Int)+(i1:Int)=((i+i1:Nat):Int)from by omega,eZ,e1,sx hlt]
  have g0:CJ x (i:Int) y.length (IntKind.i64.wrap ((i1:Int)-1))=some p[i+i1-1]:=by
   rw [d7 (by omega) (by omega)]
   unfold CJ
   rw [bu (by omega),show(i:Int)+((i1:Int)-1)=((i+i1-1:Nat):Int)from by omega,eZ,e0,sx (by omega)]
  have hd:p.drop (i+i1)=p[i+i1]::p.drop (i+i1+1):=Cr hlt
  have hp1:(p[i+i1-1]?).getD 0=p[i+i1-1]:=by rw [sx (by omega)];rfl
  simp only [dD,g1,g0,br]
  rw [hd,hp1]
  by_cases hx2:p[i+i1]=p[i+i1-1]
  ·rw [aZ (by simp [hx2])]
   have h3' :x.drop (i+(i1+1)-1)=p.drop (i+(i1+1)-1):=by
    have:=congrArg (List.drop 1) Q
    rwa [sa,sa,show i+i1-1+1=i+(i1+1)-1 from by omega]at this
   rw [ih (i1+1) x x1 (by omega) (by omega) V (by omega) h3']
   rw [DN hx2,show i+(i1+1)-1=i+i1 from by omega,sx hlt,show i+(i1+1)=i+i1+1 from by omega]
   rfl
  ·rw [bu (by simp [hx2]),eZ,sx (by omega)]
   simp only [br,yJ]
   rw [d7 (by omega) (by omega),show((x1:Int)+1)=((x1+1:Nat):Int)from by omega]
   have h3' :(x.set x1 p[i+i1]).drop (i+(i1+1)-1)=p.drop (i+(i1+1)-1):=by
    rw [List.drop_set_of_lt (by omega)]
    have:=congrArg (List.drop 1) Q
    rwa [sa,sa,show i+i1-1+1=i+(i1+1)-1 from by omega]at this
   rw [ih (i1+1) _ (x1+1) (by omega) (by omega) (by simpa using V) (by omega) h3']
   rw [JY hx2,show i+(i1+1)-1=i+i1 from by omega,sx hlt,show i+(i1+1)=i+i1+1 from by omega]
   have D:(x.set x1 p[i+i1]).take (x1+1)=x.take x1++[p[i+i1]]:=by
    rw [LO (by simp;omega),List.take_set_of_le (by omega)]
    simp
   rw [D]
   simp
def IT(p:List Int)(hp:p.length<=8000):jk p=some (JX p):=by
 unfold jk
 by_cases H:p.length<2
 ·rw [bu (by simp;omega)]
  match p,H with
  |[],_=>rfl
  |[x],_=>rfl
 ·rw [aZ (by simp;omega)]
  have key: ∀(l:List Int) (i:Nat),p.drop i=l->0<i->i<=p.length->JX p=p.take i++vm ((p[i-1]?).getD 0) (p.drop i)->ei p l i=some (JX p):=by
   intro l
   induction l with
   |nil=>
    intro i Y h0 hle Q
    have:=CU.1 Y
    simp only [ei]
    rw [Q,Y,sb (by omega),GQ,sC]
   |cons x t ih=>
    intro i Y h0 hle Q
    have hi:i<p.length:=by
     rcases m0 i p.length with h|h
     ·exact h
     ·rw [Fj h]at Y;cases Y
    have V:x=p[i]:=by rw [Cr hi]at Y;exact(List.cons.inj Y).1.symm
    have D:p.drop (i+1)=t:=by rw [<-sa,Y];rfl
    have hp1:(p[i-1]?).getD 0=p[i-1]:=by rw [sx (by omega)];rfl
    simp only [ei]
    rw [d7 (by omega) (by omega),show(i:Int)-1=((i-1:Nat):Int)from by omega,eZ,sx (by omega)]
    simp only [br]
    by_cases he:x=p[i-1]
    ·rw [bu (by simp [he])]
     rw [qA hle (jW _)]
     simp only [br,Au]
     rw [IS p hp i (p.drop i) (by simp;omega) _ 1 p i (by simp;omega) (by omega) rfl (by omega) (by simp)]
     rw [Q,Y,hp1,DN he,<-D,V]
     rw [show i+1-1=i from by omega,sx hi];rfl
    ·rw [aZ (by simp [he])]
     refine ih (i+1) D (by omega) (by omega) ?_
     rw [Q,Y,hp1,JY he,LO hi,<-D,V,show i+1-1=i from by omega,sx hi]
     rw [oB];rfl
  have hpc:p=p[0]::p.drop 1:=by
   have:=Cr (l:=p) (i:=0) (by omega)
   simpa using this
  refine key (p.drop 1) 1 rfl (by omega) (by omega) ?_
  have e:(p[1-1]?).getD 0=p[0]:=by simp [sx (show 0<p.length by omega)]
  rw [e]
  conv=>lhs;rw [hpc]
  have e2:p.take 1=[p[0]]:=by
   conv=>lhs;rw [hpc]
   rfl
  rw [e2];rfl

def KY(l:List Int)(z:Int):z∈sortI l↔z∈l:=by unfold sortI;simp
def xl: ∀(ns:List am) (out:List Int),out.length+ns.length<=8000-> ∃cs,lH ns out=some cs/\ ∀c,c∈cs↔c∈out\/ ∃n∈ns,n.Tag=2/\n.Col=c
 |[],out,h=>by
  unfold lH AZ
  rw [bu (by simp at h;omega)]
  simp only [br]
  rw [IT _ (by rw [yQ];simpa using h)]
  exact⟨_,rfl,fun c=>by rw [KZ,KY];simp⟩
 |n::ns,out,h=>by
  simp only [jj]at h
  unfold lH
  by_cases D:n.Tag=2
  ·rw [bu (by simp [D]),cy (by simp;omega)]
   simp only [br]
   obtain⟨cs,Y,H⟩:=xl ns (out++[n.Col]) (by simp;omega)
   exact⟨cs,Y,fun c=>by rw [H];simp [D,or_assoc,eq_comm]⟩
  ·rw [aZ (by simp [D])]
   obtain⟨cs,Y,H⟩:=xl ns out (by omega)
   exact⟨cs,Y,fun c=>by rw [H];simp [D]⟩
def EV(e:aM)(h:mJ e.Nodes=true): ∃cs,s4 e=some cs/\ ∀c,c∈cs↔ ∃n∈e.Nodes,n.Tag=2/\n.Col=c:=by
 have hl:=HR h
 unfold s4
 rw [wx e (by omega),h]
 obtain⟨cs,Y,H⟩:=xl e.Nodes [] (by simp;omega)
 exact⟨cs,by simpa using Y,fun c=>by rw [H];simp⟩
def kn(tag l r:Int):Int×Bool:=(qW tag l r).getD (0,false)
def wo(tag l r:Int):qW tag l r=some (kn tag l r):=by
 unfold kn qW pe
 simp only [br]
 repeat' split
 all_goals simp
def k4(k:Int):Prop:=k=0\/k=1\/k=2\/k=3
def Qk(tag l r:Int):k4 (kn tag l r).1:=by
 unfold kn qW pe
 simp only [br]
 repeat' split
 all_goals simp [k4]
def I5(kinds:List Int)(n:am)(x:Int)(V:k4 x)(hk:pk n.Tag=some 1):iM kinds n [x]=some (if(kn n.Tag x 0).2 then((kn n.Tag x 0).1,0)else(0,201)):=by
 obtain⟨tag,L,R,col,v⟩:=n
 have D:tag=4\/tag=5\/tag=6\/tag=7:=by
  unfold pk at hk
  repeat' split at hk
  all_goals simp at hk
  rename_i h
  have h:4<=tag/\tag<=7:=h
  omega
 rcases D with rfl|rfl|rfl|rfl<;>rcases V with rfl|rfl|rfl|rfl<;>rfl
def I4(kinds:List Int)(n:am)(x y:Int)(V:k4 x)(hy:k4 y)(hk:pk n.Tag=some 2):iM kinds n [x,y]=some (if(kn n.Tag x y).2 then((kn n.Tag x y).1,0)else(0,201)):=by
 obtain⟨tag,L,R,col,v⟩:=n
 have D:tag=12\/tag=13\/tag=14\/tag=15\/tag=16\/tag=17\/tag=18\/tag=19\/tag=20\/tag=21\/tag=22\/tag=23:=by
  unfold pk at hk
  repeat' split at hk
  all_goals simp at hk
  rename_i h
  have h:12<=tag/\tag<=23:=h
  omega
 rcases D with rfl|rfl|rfl|rfl|rfl|rfl|rfl|rfl|rfl|rfl|rfl|rfl<;>rcases V with rfl|rfl|rfl|rfl<;>rcases hy with rfl|rfl|rfl|rfl<;>rfl
def kd(kinds:List Int):Tr->Option Int
 | .lf n=>if n.Tag=1 then some n.Value.Kind else some ((kinds[n.Col.toNat]?).getD 0)
 | .un n a=>(kd kinds a).bind fun x=>if(kn n.Tag x 0).2 then some (kn n.Tag x 0).1 else none
 | .bi n a b=>(kd kinds a).bind fun x=>(kd kinds b).bind fun y=>if(kn n.Tag x y).2 then some (kn n.Tag x y).1 else none
def MO(kinds:List Int)(n:am)(a:Tr):kd kinds (.un n a)=(kd kinds a).bind fun x=>if(kn n.Tag x 0).2 then some (kn n.Tag x 0).1 else none:=rfl
def JG(kinds:List Int)(n:am)(a b:Tr):kd kinds (.bi n a b)=(kd kinds a).bind fun x=>(kd kinds b).bind fun y=>if(kn n.Tag x y).2 then some (kn n.Tag x y).1 else none:=rfl
def DO(m:Nat):Tr->Prop
 | .lf n=>n.Tag=2->n.Col<m
 | .un _ a=>DO m a
 | .bi _ a b=>DO m a/\DO m b
def pk0{tag:Int}(h:pk tag=some 0):tag=1\/tag=2:=by
 unfold pk at h
 repeat' split at h
 all_goals simp at h
 assumption
def Wg{n:am}(h:BX n=true)(D:n.Tag=1):uV n.Value=true:=by
 have H:=iZ n
 rw [h]at H
 unfold km at H
 rw [bu (by simp [D]),oO]at H
 simp at H
 exact H.1
def Ug{n:am}(h:BX n=true)(D:n.Tag=2):0<=n.Col/\n.Col<16:=by
 have H:=iZ n
 rw [h]at H
 unfold km at H
 rw [aZ (by simp [D]),bu (by simp [D])]at H
 simp at H
 exact⟨H.1.2,H.2⟩
def JF{kinds:List Int}(hk: ∀k∈kinds,k4 k): ∀(t:Tr),t.wf-> ∀{k},kd kinds t=some k->k4 k
 | .lf n,⟨Y,H,_,_⟩,k,h=>by
  unfold kd at h
  split at h
  ·rename_i D
   have:=F0 (Wg H D)
   cases h;unfold k4;omega
  ·injection h with h
   subst h
   cases hc:kinds[n.Col.toNat]? with
   |none=>exact .inl rfl
   |some z=>exact hk z (rm hc)
 | .un n a,_,k,h=>by
  unfold kd at h
  cases ha:kd kinds a with
  |none=>rw [ha]at h;cases h
  |some x=>
   rw [ha,br]at h
   split at h
   ·cases h;exact Qk ..
   ·cases h
 | .bi n a b,_,k,h=>by
  unfold kd at h
  cases ha:kd kinds a with
  |none=>rw [ha]at h;cases h
  |some x=>
   cases W:kd kinds b with
   |none=>rw [ha,W]at h;cases h
   |some y=>
    rw [ha,W]at h
    simp only [br]at h
    split at h
    ·cases h;exact Qk ..
    ·cases h
def H0(stack l:List Int)(h:stack.length+l.length<=100000):nJ (stack++l) (l.length:Int)=some (l,stack):=by
 unfold nJ dj
 have e:IntKind.i64.wrap (((stack++l).length:Int)-(l.length:Int))=(stack.length:Int):=by
  rw [kO,d7 (by omega) (by omega)];omega
 rw [e,jA stack.length (stack++l).length rfl rfl (by simp) (jW _)]
 simp only [br,Au,Jg (jW _),List.drop_length,mz]
 rw [cy (by simp;omega)]
 simp only [br,mz]
 rw [jA (i:=0) 0 stack.length rfl rfl (nv _) (by simp)]
 simp
def F4(stack:List Int){b:Int}(h:b≠0):ln b stack=some (0,b):=by
 unfold ln;rw [bu (by simpa using h)]
def ss{tag:Int}{k:Nat}(h:pk tag=some k):pt tag=some (k:Int):=by
 rw [ww];unfold Ex;rw [h]
def KT(kinds:List Int)(hk: ∀k∈kinds,k4 k)(t:Tr):t.wf->DO kinds.length t-> ∀(ae:Nat) (rest:List am) (stack:List Int),stack.length+t.size<=50000->
  gp (iM kinds) (t.flat ae++rest) 0 stack=match kd kinds t with
   |some k=>gp (iM kinds) rest 0 (stack++[k])
   |none=>some (0,201):=by
 induction t with
 |lf n=>
  intro⟨Y,H,Q,h4⟩ hc ae rest stack hl
  simp only [Tr.flat,Tr.size,Ax,mz]at hl ⊢
  rw [gp]
  have e1:(jK n (-1) (-1)).Tag=n.Tag:=rfl
  rw [e1,ss Y]
  have h0:=H0 stack [] (by simp;omega)
  simp only [sC,ul]at h0
  simp only [br]
  rw [h0]
  simp only [br]
  have hv:iM kinds (jK n (-1) (-1)) []=(kd kinds (.lf n)).map (fun k=>(k,(0:Int))):=by
   unfold iM lq kd
   simp only [e1]
   rcases pk0 Y with D|D
   ·rw [bu (by simp [D]),bu D];rfl
   ·rw [aZ (by simp [D]),bu (by simp [D]),aZ (by simp [D])]
    have W:=Ug H D
    have hm:n.Col<kinds.length:=hc D
    have e2:(jK n (-1) (-1)).Col=n.Col:=rfl
    rw [e2,lg n.Col.toNat (by omega),sx (by omega)]
    rfl
  rw [hv]
  have: ∃k,kd kinds (.lf n)=some k:=by unfold kd;split<;>exact⟨_,rfl⟩
  obtain⟨k,hk1⟩:=this
  rw [hk1]
  simp only [uk,br]
  rw [aZ (by simp),cy (by simp;omega)]
  rfl
 |un n a ih=>
  intro⟨⟨Y,H,Q,h4⟩,ha⟩ hc ae rest stack hl
  simp only [Tr.flat,Tr.size,oB]at hl ⊢
  rw [MO,ih ha hc ae _ stack (by omega)]
  cases V:kd kinds a with
  |none=>rfl
  |some x=>
   have hx4:=JF hk a ha V
   simp only [br,Ax,mz]
   rw [gp]
   have e1:(jK n (((ae+a.size:Nat):Int)-1) (-1)).Tag=n.Tag:=rfl
   rw [e1,ss Y]
   have h0:=H0 stack [x] (by simp;omega)
   simp only [br]
   have e0:(([x]:List Int).length:Int)=((1:Nat):Int):=rfl
   rw [<-e0,h0]
   simp only [br]
   rw [I5 kinds _ x hx4 (by rw [e1];exact Y),e1]
   cases W:(kn n.Tag x 0).2 with
   |true=>
    simp only [jY,br]
    rw [aZ (by simp),cy (by simp;omega)]
    rfl
   |false=>
    simp only [o0,md,br]
    rw [bu (by decide),F4 _ (by decide)]
 |bi n a b iha ihb=>
  intro⟨⟨Y,H,Q,h4⟩,ha,W⟩ ⟨hca,hcb⟩ ae rest stack hl
  simp only [Tr.flat,Tr.size,oB]at hl ⊢
  rw [JG,iha ha hca ae _ stack (by omega)]
  cases V:kd kinds a with
  |none=>rfl
  |some x=>
   have hx4:=JF hk a ha V
   simp only [br]
   rw [ihb W hcb (ae+a.size) _ (stack++[x]) (by have:=a.size_pos;simp;omega)]
   cases hy:kd kinds b with
   |none=>rfl
   |some y=>
    have hy4:=JF hk b W hy
    have hap:=a.size_pos
    simp only [br,Ax,mz]
    rw [gp]
    have e1:(jK n (((ae+a.size:Nat):Int)-1) (((ae+a.size+b.size:Nat):Int)-1)).Tag=n.Tag:=rfl
    rw [e1,ss Y]
    have h0:=H0 stack [x,y] (by simp;omega)
    simp only [br]
    have e0:(([x,y]:List Int).length:Int)=((2:Nat):Int):=rfl
    have e9:stack++[x]++[y]=stack++[x,y]:=by simp
    rw [<-e0,e9,h0]
    simp only [br]
    rw [I4 kinds _ x y hx4 hy4 (by rw [e1];exact Y),e1]
    cases W:(kn n.Tag x y).2 with
    |true=>
     simp only [jY,br]
     rw [aZ (by simp),cy (by simp;omega)]
     rfl
    |false=>
     simp only [o0,md,br]
     rw [bu (by decide),F4 _ (by decide)]
def Mq(kinds:List Int)(hk: ∀k∈kinds,k4 k)(t:Tr):t.wf->DO kinds.length t-> ∀(rest:List am) (own:List Int),own.length+t.size<=50000->
  (kd kinds t=none/\dc kinds (t.flat own.length++rest) own=some (0,201))\/
  (∃k w,kd kinds t=some k/\w.length+1=t.size/\dc kinds (t.flat own.length++rest) own=dc kinds rest (own++w++[k])):=by
 induction t with
 |lf n=>
  intro⟨Y,H,Q,h4⟩ hc rest own hl
  simp only [Tr.flat,Tr.size,Ax,mz]at hl ⊢
  refine .inr ?_
  have e1:(jK n (-1) (-1)).Tag=n.Tag:=rfl
  unfold kd
  rcases pk0 Y with D|D
  ·refine⟨_,[],bu D,rfl,?_⟩
   rw [dc]
   rw [e1,bu (by simp [D]),cy (by simp;omega)]
   simp only [br,sC]
   rfl
  ·refine⟨_,[],aZ (by simp [D]),rfl,?_⟩
   have W:=Ug H D
   have hm:n.Col<kinds.length:=hc D
   have e2:(jK n (-1) (-1)).Col=n.Col:=rfl
   rw [dc]
   rw [e1,aZ (by simp [D]),bu (by simp [D]),e2,lg n.Col.toNat (by omega),sx (by omega)]
   simp only [br,sC,Option.getD_some]
   rw [cy (by simp;omega)]
   rfl
 |un n a ih=>
  intro⟨⟨Y,H,Q,h4⟩,ha⟩ hc rest own hl
  have hap:=a.size_pos
  simp only [Tr.flat,Tr.size,oB]at hl ⊢
  rcases ih ha hc ([jK n (((own.length+a.size:Nat):Int)-1) (-1)]++rest) own (by omega)with⟨V,he⟩|⟨x,w,V,hw,he⟩
  ·exact .inl ⟨by rw [MO,V];rfl,by rw [he]⟩
  ·rw [he]
   rw [MO,V]
   simp only [br,Ax,mz]
   have e1:(jK n (((own.length+a.size:Nat):Int)-1) (-1)).Tag=n.Tag:=rfl
   have n1:n.Tag≠1:=fun h=>by rw [h]at Y;simp [pk]at Y
   have n2:n.Tag≠2:=fun h=>by rw [h]at Y;simp [pk]at Y
   have hstep:dc kinds (jK n (((own.length+a.size:Nat):Int)-1) (-1)::rest) (own++w++[x])=if(kn n.Tag x 0).2 then dc kinds rest (own++w++[x]++[(kn n.Tag x 0).1])else some (0,201):=by
    rw [dc]
    rw [e1,aZ (by simpa using n1),aZ (by simpa using n2)]
    have eL:(jK n (((own.length+a.size:Nat):Int)-1) (-1)).L=((own.length+a.size:Nat):Int)-1:=rfl
    have eR:(jK n (((own.length+a.size:Nat):Int)-1) (-1)).R= -1:=rfl
    rw [eL,eR,lg (own++w).length (by simp;omega),uo (jW _),uc]
    simp only [CV,br]
    rw [aZ (by decide)]
    unfold pD
    rw [e1,wo]
    simp only [br]
    cases W:(kn n.Tag x 0).2 with
    |true=>
     simp only [qK,o0,md,jY]
     rw [cy (by simp;omega)];rfl
    |false=>rfl
   rw [hstep]
   cases W:(kn n.Tag x 0).2 with
   |true=>exact .inr ⟨(kn n.Tag x 0).1,w++[x],by simp,by simp;omega,by simp⟩
   |false=>exact .inl ⟨by simp,by simp⟩
 |bi n a b iha ihb=>
  intro⟨⟨Y,H,Q,h4⟩,ha,W⟩ ⟨hca,hcb⟩ rest own hl
  have hap:=a.size_pos
  have hbp:=b.size_pos
  simp only [Tr.flat,Tr.size,oB]at hl ⊢
  obtain⟨m,hm⟩: ∃m,m=jK n (((own.length+a.size:Nat):Int)-1) (((own.length+a.size+b.size:Nat):Int)-1):=⟨_,rfl⟩
  rw [<-hm]
  rcases iha ha hca (b.flat (own.length+a.size)++([m]++rest)) own (by omega)with⟨V,he⟩|⟨x,w,V,hw,he⟩
  ·exact .inl ⟨by rw [JG,V];rfl,by rw [he]⟩
  ·rw [he]
   have hl2:(own++w++[x]).length=own.length+a.size:=by simp;omega
   rw [<-hl2]
   rcases ihb W hcb ([m]++rest) (own++w++[x]) (by rw [hl2];omega)with⟨hy,he2⟩|⟨y,w2,hy,hw2,he2⟩
   ·exact .inl ⟨by rw [JG,V,hy];rfl,by rw [he2]⟩
   ·rw [he2]
    rw [JG,V,hy]
    simp only [br,Ax,mz]
    have e1:m.Tag=n.Tag:=by rw [hm];rfl
    have eL:m.L=((own.length+a.size:Nat):Int)-1:=by rw [hm];rfl
    have eR:m.R=((own.length+a.size+b.size:Nat):Int)-1:=by rw [hm];rfl
    have n1:n.Tag≠1:=fun h=>by rw [h]at Y;simp [pk]at Y
    have n2:n.Tag≠2:=fun h=>by rw [h]at Y;simp [pk]at Y
    have hstep:dc kinds (m::rest) (own++w++[x]++w2++[y])=if(kn n.Tag x y).2 then dc kinds rest (own++w++[x]++w2++[y]++[(kn n.Tag x y).1])else some (0,201):=by
     rw [dc]
     rw [e1,aZ (by simpa using n1),aZ (by simpa using n2)]
     rw [eL,eR,lg (own++w).length (by simp;omega)]
     have g1:(own++w++[x]++w2++[y])[(own++w).length]? =some x:=by
      rw [oB,oB,uo (jW _),uc];rfl
     rw [g1]
     simp only [br]
     rw [bu (by rw [o9];omega),lg (own++w++[x]++w2).length (by simp;omega)]
     have g2:(own++w++[x]++w2++[y])[(own++w++[x]++w2).length]? =some y:=by
      rw [uo (jW _),uc];rfl
     rw [g2]
     simp only [br]
     unfold pD
     rw [e1,wo]
     simp only [br]
     cases W:(kn n.Tag x y).2 with
     |true=>
      simp only [qK,o0,md,jY]
      rw [cy (by simp;omega)];rfl
     |false=>rfl
    rw [hstep]
    cases W:(kn n.Tag x y).2 with
    |true=>exact .inr ⟨(kn n.Tag x y).1,w++[x]++w2++[y],by simp,by simp;omega,by simp⟩
    |false=>exact .inl ⟨by simp,by simp⟩
def pu(m:Nat)(ns:List am):Bool:=ns.all fun n=> !((n.Tag==2)&&decide ((m:Int)<=n.Col))
def GR(m:Nat)(n:am)(ns:List am):pu m (n::ns)=(!((n.Tag==2)&&decide ((m:Int)<=n.Col))&&pu m ns):=rfl
def zQ(m:Nat)(t:Tr):t.wf-> ∀ae,pu m (t.flat ae)=true->DO m t:=by
 induction t with
 |lf n=>
  intro _ ae h D
  simp only [pu,Tr.flat,zw,List.all_nil,Bool.and_true]at h
  have e1:(jK n (-1) (-1)).Tag=n.Tag:=rfl
  have e2:(jK n (-1) (-1)).Col=n.Col:=rfl
  simp [e1,e2,D]at h
  exact h
 |un n a ih=>
  intro⟨_,ha⟩ ae h
  simp only [pu,Tr.flat,List.all_append,iO]at h
  exact ih ha ae h.1
 |bi n a b iha ihb=>
  intro⟨_,ha,W⟩ ae h
  simp only [pu,Tr.flat,List.all_append,iO]at h
  exact⟨iha ha ae h.1.1,ihb W _ h.1.2⟩
def MP(kinds:List Int):Bool:=kinds.all fun k=>decide (0<=k)&&decide (k<=3)
def Gm(k:Int)(ks:List Int):MP (k::ks)=((decide (0<=k)&&decide (k<=3))&&MP ks):=rfl
def EG{kinds:List Int}(h:MP kinds=true){k:Int}(hk:k∈kinds):k4 k:=by
 have:=me.1 h k hk
 simp at this
 unfold k4;omega
def eX(e:aM)(kinds:List Int):Int×Int:=
 if mJ e.Nodes then if MP kinds then if pu kinds.length e.Nodes then match (pc e.Nodes).bind (kd kinds)with
  |some k=>(k,0)
  |none=>(0,201)else(0,2)else(0,2)else(0,200)
def Cf(e:aM)(kinds:List Int): ∀cs:List Int,lF e kinds cs=if cs.all (fun c=>decide (c<(kinds.length:Int)))then nE e (iM kinds)else some (0,2)
 |[]=>by
  unfold lF
  cases nE e (iM kinds)<;>rfl
 |c::cs=>by
  unfold lF
  rw [Cf e kinds cs]
  by_cases h:(kinds.length:Int)<=c
  ·rw [bu (by simpa using h),aZ (by simp;omega)]
  ·rw [aZ (by simpa using h)]
   have:c<(kinds.length:Int):=by omega
   simp [this]
def lG(e:aM)(kinds:List Int)(hl:e.Nodes.length<=50000):ma e kinds=some (eX e kinds):=by
 unfold ma eX
 rw [wx e (by omega)]
 cases hr:mJ e.Nodes with
 |false=>rfl
 |true=>
  simp only [jY,br]
  rw [aZ (by decide)]
  have key: ∀ks:List Int,oV e kinds ks=if MP ks then(s4 e).bind (lF e kinds)else some (0,2):=by
   intro ks
   induction ks with
   |nil=>rfl
   |cons k ks ih=>
    unfold oV
    rw [ih]
    by_cases h:k<0\/3<k
    ·rw [bu (by simpa using h),aZ (by simp [MP];omega)]
    ·rw [aZ (by simpa using h)]
     have Y:(decide (0<=k)&&decide (k<=3))=true:=by simp;omega
     rw [Gm,Y,mA]
  rw [key]
  cases hk:MP kinds with
  |false=>rfl
  |true=>
   simp only [jY]
   obtain⟨cs,Y,H⟩:=EV e hr
   rw [Y,br,Cf]
   have hci:cs.all (fun c=>decide (c<(kinds.length:Int)))=pu kinds.length e.Nodes:=by
    rw [Cl]
    simp only [me,o9,pu,Cm,Bool.and_eq_false_iff,beq_eq_false_iff_ne,Jc]
    constructor
    ·intro h n hn
     by_cases D:n.Tag=2
     ·exact .inr (by have:=h _ ((H n.Col).2 ⟨n,hn,D,rfl⟩);omega)
     ·exact .inl D
    ·intro h c hc
     obtain⟨n,hn,D,rfl⟩:=(H c).1 hc
     rcases h n hn with h|h
     ·exact absurd D h
     ·omega
   rw [hci]
   cases hc:pu kinds.length e.Nodes with
   |false=>rfl
   |true=>
    simp only [jY]
    cases D:pc e.Nodes with
    |none=>unfold mJ at hr;rw [D]at hr;cases hr
    |some t=>
     obtain⟨hw,hN,hs⟩:=mD D
     have hct:=zQ kinds.length t hw 0 (by rw [<-hN];exact hc)
     have:=KT kinds (fun k=>EG hk) t hw hct 0 [] [] (by simp;omega)
     rw [sC,<-hN]at this
     unfold nE
     rw [this]
     simp only [br]
     cases kd kinds t with
     |none=>rfl
     |some k=>rfl
def pF(e:aM)(kinds:List Int):qX e kinds=some (eX e kinds):=by
 unfold qX eX
 rw [Bd e]
 cases hr:mJ e.Nodes with
 |false=>rfl
 |true=>
  simp only [jY,br,qK,o0,md]
  have Br: ∀ns:List am,nC e kinds ns=if pu kinds.length ns then dc kinds e.Nodes []else some (0,2):=by
   intro ns
   induction ns with
   |nil=>rfl
   |cons n ns ih=>
    unfold nC
    rw [ih,GR]
    cases ((n.Tag==2)&&decide ((kinds.length:Int)<=n.Col))<;>simp
  have key: ∀ks:List Int,pC e kinds ks=if MP ks then nC e kinds e.Nodes else some (0,2):=by
   intro ks
   induction ks with
   |nil=>rfl
   |cons k ks ih=>
    unfold pC
    rw [ih]
    by_cases h:k<0\/3<k
    ·rw [bu (by simpa using h),aZ (by simp [MP];omega)]
    ·rw [aZ (by simpa using h)]
     have Y:(decide (0<=k)&&decide (k<=3))=true:=by simp;omega
     rw [Gm,Y,mA]
  rw [key,Br]
  cases hk:MP kinds with
  |false=>rfl
  |true=>
   cases hc:pu kinds.length e.Nodes with
   |false=>rfl
   |true=>
    simp only [jY]
    cases D:pc e.Nodes with
    |none=>unfold mJ at hr;rw [D]at hr;cases hr
    |some t=>
     obtain⟨hw,hN,hs⟩:=mD D
     have hct:=zQ kinds.length t hw 0 (by rw [<-hN];exact hc)
     have:=Mq kinds (fun k=>EG hk) t hw hct [] [] (by simp;omega)
     rw [sC,ul,<-hN]at this
     simp only [br]
     rcases this with⟨Y,H⟩|⟨k,w,Y,H,Q⟩
     ·rw [Y,H]
     ·rw [Y,Q]
      unfold dc
      have hls:t.size<=1000:=hs
      rw [mz,lg w.length (by rw [d7 (by simp<;>omega) (by simp<;>omega)];simp),uo (jW _),uc]
      rfl

def nL{α:Type}{xs tl:List α}{i:Nat}{y:α}(h:xs.drop i=y::tl):ga xs (i:Int)=some y/\i<xs.length/\xs.drop (i+1)=tl:=by
 have hi:i<xs.length:=by
  rcases m0 i xs.length with Y|Y
  ·exact Y
  ·rw [Fj Y]at h;cases h
 rw [Cr hi]at h
 injection h with Y H
 exact⟨by rw [eZ,sx hi,Y],hi,H⟩
def BQ{α:Type}{xs:List α}{i:Nat}(h:xs.drop i=[]):xs.length<=i:=CU.1 h
def te{f:Int->Option Bool}{g:Int->Bool}(hf: ∀v,f v=some (g v)): ∀(l:List Int) (i:Nat),∃j:Int,eK f l i=some j/\decide (0<=j)=l.any g
 |[],i=>⟨-1,rfl,rfl⟩
 |e::l,i=>by
  unfold eK
  rw [hf,br]
  cases h:g e with
  |true=>exact⟨(i:Int),by simp,by simp [h]⟩
  |false=>
   obtain⟨j,Y,H⟩:=te hf l (i+1)
   exact⟨j,by simpa using Y,by rw [H];simp [h]⟩
def jh{f:Int->Option Bool}{g:Int->Bool}(hf: ∀v,f v=some (g v))(l:List Int):dR l f=some (l.any g):=by
 unfold dR kD
 obtain⟨j,Y,H⟩:=te hf l 0
 rw [Y,br,H]
def td{f:j3->Option Bool}{g:j3->Bool}(hf: ∀v,f v=some (g v)): ∀(l:List j3) (i:Nat),∃j:Int,di f l i=some j/\decide (0<=j)=l.any g
 |[],i=>⟨-1,rfl,rfl⟩
 |e::l,i=>by
  unfold di
  rw [hf,br]
  cases h:g e with
  |true=>exact⟨(i:Int),by simp,by simp [h]⟩
  |false=>
   obtain⟨j,Y,H⟩:=td hf l (i+1)
   exact⟨j,by simpa using Y,by rw [H];simp [h]⟩
def qj{f:j3->Option Bool}{g:j3->Bool}(hf: ∀v,f v=some (g v))(l:List j3):ec l f=some (l.any g):=by
 unfold ec gz
 obtain⟨j,Y,H⟩:=td hf l 0
 rw [Y,br,H]
def ua(l:List Int)(h:l.length<=68719476736):dj l=some l:=by
 unfold dj
 rw [cy (by simpa using h)];rfl
def PY(n:Int)(h0:0<=n)(h:n<=68719476736):kQ n=some []:=by
 unfold kQ lC
 rw [aZ (by simp;omega)]
 have e:IntKind.i64.wrap (n-IntKind.i64.wrap ((0:Int)-0))=n:=by
  rw [d7 (n:=(0:Int)-0) (by omega) (by omega),d7 (by omega) (by omega)];omega
 rw [e]
 by_cases hp:0<n
 ·rw [bu (by simpa using hp)]
  unfold VW tn
  rw [bu hp]
  simp only [br]
  rw [bu ⟨h0,h⟩]
  simp only [br]
  rw [show dz (List.replicate n.toNat (0:Int)) 0 0=some []from by unfold dz;rw [bu (by simp;omega)];simp]
  rfl
 ·rw [aZ (by simpa using hp)];rfl
def Ch(a b:List Int)(ha:a.length<=8000)(W:b.length<=8000):hU [a,b]=some (a++b):=by
 unfold hU
 simp only [iz]
 rw [d7 (n:=(0:Int)+(a.length:Int)) (by omega) (by omega),aZ (by simp),d7 (by omega) (by omega),aZ (by simp;omega),PY _ (by omega) (by omega)]
 simp only [br,iy]
 rw [cy (by simp;omega)]
 simp only [br,mz]
 rw [cy (by omega)]
 rfl
structure iN(n:aa):Prop where
 cond:n.Cond.Nodes.length<=5000
 kinds:n.Kinds.length<=5000
 keys:n.Keys.length<=5000
 aggs:n.Aggs.length<=5000
 items:n.Items.length<=5000
 order:n.Order.length<=5000
 args: ∀g∈n.Aggs,g.Arg.Nodes.length<=5000
 exprs: ∀e∈n.Items,e.Nodes.length<=5000
def Hy(e:aM)(kinds:List Int):Bool:=(eX e kinds).2==0&&((eX e kinds).1==1||(eX e kinds).1==0)
def uP(e:aM)(kinds:List Int):rz e kinds=some (Hy e kinds):=by
 unfold rz Hy
 rw [pF e kinds]
 simp only [br,Bool.or_comm]
def IZ(a:fj)(kinds:List Int):Int×Bool:=(lO a kinds).getD (0,false)
def wS(a:fj)(kinds:List Int):lO a kinds=some (IZ a kinds):=by
 unfold IZ lO
 rw [pF]
 simp only [br]
 repeat' split
 all_goals rfl
def LJ(a:List Int)(e:Int):Int:=(a[e.toNat]?).getD 0
def uX(a:List Int)(e:Int):Bool:=decide (e<0)||decide ((a.length:Int)<=e)
def Ir{a:List Int}{e:Int}(h:uX a e=false):ga a e=some (LJ a e):=by
 simp [uX]at h
 rw [lg e.toNat (by omega),sx (by omega)]
 unfold LJ
 rw [sx (by omega)];rfl
def Eg(x y:Int):Int:=if x=0 then y else x
def z6(p:Int×Int):Bool:=(p.2==Eg p.1 p.2)||p.2==0
end Go.Proofs.YtdohlidddcgfjaaGreat

