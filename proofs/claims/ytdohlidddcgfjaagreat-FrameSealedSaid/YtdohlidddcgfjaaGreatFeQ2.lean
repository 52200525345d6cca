/- bO of this claim: L3, L4. -/
import Derived.Test.YtdohlidddcgfjaaGreatFeQ1
set_option linter.all false
namespace Go.Proofs.YtdohlidddcgfjaaGreat
open Go

def K8(p:List Int)(hp:p.length<=8000)(i:Nat)(y:List Int)(hy:i+y.length=p.length): ∀(k i1:Nat) (x:List Int) (x1:Nat),i1+k=y.length->0<i1->x.length=p.length->x1+1<=i+i1->x.drop (i+i1-1)=p.drop (i+i1-1)->
  d6 i y k i1 x (x1:Int)=some (x.take x1++wH ((p[i+i1-1]?).getD 0) (p.drop (i+i1))):=by
 intro k
 induction k with
 |zero=>
  intro i1 x x1 Y h0 X H s
  simp only [d6]
  have hx1:x1<=x.length:=by omega
  rw [rF hx1 (dY _)]
  simp only [bg,B1,Ad]
  rw [show((0:Int))=((0:Nat):Int)from rfl,rF (oC _) (by simp;omega)]
  simp only [bg,z2]
  have hn:p.drop (i+i1)=[]:=D0 (by omega)
  rw [hn,I6,tv,Bw (by simp;omega),yN,Nat.min_self]
 |succ k ih=>
  intro i1 x x1 Y h0 X H s
  have e1:x[i+i1]? =p[i+i1]? :=by
   have:=congrArg (fun l:List Int=>l[1]?) s
   simp only [uB]at this
   rwa [show i+i1-1+1=i+i1 from by omega]at this
  have e0:x[i+i1-1]? =p[i+i1-1]? :=by
   have:=congrArg (fun l:List Int=>l[0]?) s
   simpa only [uB,AU] using this
  have hlt:i+i1<p.length:=by omega
  have g1:Ek x (i:Int) y.length (i1:Int)=some p[i+i1]:=by
   unfold Ek
   rw [bo (by omega),show(i:Int)+(i1:Int)=((i+i1:Nat):Int)from by omega,eK,e1,sG hlt]
  have g0:Ek x (i:Int) y.length (IntKind.i64.wrap ((i1:Int)-1))=some p[i+i1-1]:=by
   rw [ew (by omega) (by omega)]
   unfold Ek
   rw [bo (by omega),show(i:Int)+((i1:Int)-1)=((i+i1-1:Nat):Int)from by omega,eK,e0,sG (by omega)]
  have hd:p.drop (i+i1)=p[i+i1]::p.drop (i+i1+1):=Ae hlt
  have hp1:(p[i+i1-1]?).getD 0=p[i+i1-1]:=by rw [sG (by omega)];rfl
  simp only [d6,g1,g0,bg]
  rw [hd,hp1]
  by_cases hx2:p[i+i1]=p[i+i1-1]
  ·rw [aV (by simp [hx2])]
   have h3' :x.drop (i+(i1+1)-1)=p.drop (i+(i1+1)-1):=by
    have:=congrArg (List.drop 1) s
    rwa [rP,rP,show i+i1-1+1=i+(i1+1)-1 from by omega]at this
   rw [ih (i1+1) x x1 (by omega) (by omega) X (by omega) h3']
   rw [Ft hx2,show i+(i1+1)-1=i+i1 from by omega,sG hlt,show i+(i1+1)=i+i1+1 from by omega]
   rfl
  ·rw [bo (by simp [hx2]),eK,sG (by omega)]
   simp only [bg,Ad]
   rw [ew (by omega) (by omega),show((x1:Int)+1)=((x1+1:Nat):Int)from by omega]
   have h3' :(x.set x1 p[i+i1]).drop (i+(i1+1)-1)=p.drop (i+(i1+1)-1):=by
    rw [List.drop_set_of_lt (by omega)]
    have:=congrArg (List.drop 1) s
    rwa [rP,rP,show i+i1-1+1=i+(i1+1)-1 from by omega]at this
   rw [ih (i1+1) _ (x1+1) (by omega) (by omega) (by simpa using X) (by omega) h3']
   rw [Mx hx2,show i+(i1+1)-1=i+i1 from by omega,sG hlt,show i+(i1+1)=i+i1+1 from by omega]
   have D:(x.set x1 p[i+i1]).take (x1+1)=x.take x1++[p[i+i1]]:=by
    rw [Oz (by simp;omega),List.take_set_of_le (by omega)]
    simp
   rw [D]
   simp
def K9(p:List Int)(hp:p.length<=8000):jS p=some (Mw p):=by
 unfold jS
 by_cases H:p.length<2
 ·rw [bo (by simp;omega)]
  match p,H with
  |[],_=>rfl
  |[x],_=>rfl
 ·rw [aV (by simp;omega)]
  have key: ∀(l:List Int) (i:Nat),p.drop i=l->0<i->i<=p.length->Mw p=p.take i++wH ((p[i-1]?).getD 0) (p.drop i)->eT p l i=some (Mw p):=by
   intro l
   induction l with
   |nil=>
    intro i Y h0 hle s
    have:=Hh.1 Y
    simp only [eT]
    rw [s,Y,tz (by omega),I6,tv]
   |cons x t ih=>
    intro i Y h0 hle s
    have hi:i<p.length:=by
     rcases nf i p.length with h|h
     ·exact h
     ·rw [D0 h]at Y;cases Y
    have X:x=p[i]:=by rw [Ae hi]at Y;exact(vM Y).1.symm
    have D:p.drop (i+1)=t:=by rw [<-rP,Y];rfl
    have hp1:(p[i-1]?).getD 0=p[i-1]:=by rw [sG (by omega)];rfl
    simp only [eT]
    rw [ew (by omega) (by omega),show(i:Int)-1=((i-1:Nat):Int)from by omega,eK,sG (by omega)]
    simp only [bg]
    by_cases he:x=p[i-1]
    ·rw [bo (by simp [he])]
     rw [rF hle (dY _)]
     simp only [bg,B1]
     rw [K8 p hp i (p.drop i) (by simp;omega) _ 1 p i (by simp;omega) (by omega) rfl (by omega) (by simp)]
     rw [s,Y,hp1,Ft he,<-D,X]
     rw [show i+1-1=i from by omega,sG hi];rfl
    ·rw [aV (by simp [he])]
     refine ih (i+1) D (by omega) (by omega) ?_
     rw [s,Y,hp1,Mx he,Oz hi,<-D,X,show i+1-1=i from by omega,sG hi]
     rw [oB];rfl
  have hpc:p=p[0]::p.drop 1:=by
   have:=Ae (l:=p) (i:=0) (by omega)
   simpa using this
  refine key (p.drop 1) 1 rfl (by omega) (by omega) ?_
  have e:(p[1-1]?).getD 0=p[0]:=by simp [sG (show 0<p.length by omega)]
  rw [e]
  conv=>lhs;rw [hpc]
  have e2:p.take 1=[p[0]]:=by
   conv=>lhs;rw [hpc]
   rfl
  rw [e2];rfl

def NH(l:List Int)(z:Int):z∈sortI l↔z∈l:=by unfold sortI;simp
def yL: ∀(ns:List ap) (out:List Int),out.length+ns.length<=8000-> ∃cs,mz ns out=some cs/\ ∀c,c∈cs↔c∈out\/ ∃n∈ns,n.Tag=2/\n.Col=c
 |[],out,h=>by
  unfold mz Cu
  rw [bo (by simp at h;omega)]
  simp only [bg]
  rw [K9 _ (by rw [Aj];simpa using h)]
  exact⟨_,rfl,fun c=>by rw [NI,NH];simp⟩
 |n::ns,out,h=>by
  simp only [iR]at h
  unfold mz
  by_cases D:n.Tag=2
  ·rw [bo (by simp [D]),cE (by simp;omega)]
   simp only [bg]
   obtain⟨cs,Y,H⟩:=yL ns (out++[n.Col]) (by simp;omega)
   exact⟨cs,Y,fun c=>by rw [H];simp [D,or_assoc,eq_comm]⟩
  ·rw [aV (by simp [D])]
   obtain⟨cs,Y,H⟩:=yL ns out (by omega)
   exact⟨cs,Y,fun c=>by rw [H];simp [D]⟩
def GO(e:aR)(h:mY e.Nodes=true): ∃cs,ul e=some cs/\ ∀c,c∈cs↔ ∃n∈e.Nodes,n.Tag=2/\n.Col=c:=by
 have hl:=J8 h
 unfold ul
 rw [xN e (by omega),h]
 obtain⟨cs,Y,H⟩:=yL e.Nodes [] (by simp;omega)
 exact⟨cs,by simpa using Y,fun c=>by rw [H];simp⟩
def kn(tag l r:Int):Int×Bool:=(sh tag l r).getD (0,false)
def xE(tag l r:Int):sh tag l r=some (kn tag l r):=by
 unfold kn sh qj
 simp only [bg]
 repeat' split
 all_goals simp
def k4(k:Int):Prop:=k=0\/k=1\/k=2\/k=3
def Ts(tag l r:Int):k4 (kn tag l r).1:=by
 unfold kn sh qj
 simp only [bg]
 repeat' split
 all_goals simp [k4]
def Ln(kinds:List Int)(n:ap)(x:Int)(X:k4 x)(hk:pk n.Tag=some 1):jt kinds n [x]=some (if(kn n.Tag x 0).2 then((kn n.Tag x 0).1,0)else(0,201)):=by
 obtain⟨tag,L,R,col,v⟩:=n
 have D:tag=4\/tag=5\/tag=6\/tag=7:=by
  unfold pk at hk
  repeat' split at hk
  all_goals simp at hk
  rename_i h
  have h:4<=tag/\tag<=7:=h
  omega
 rcases D with rfl|rfl|rfl|rfl<;>rcases X with rfl|rfl|rfl|rfl<;>rfl
def Lm(kinds:List Int)(n:ap)(x y:Int)(X:k4 x)(hy:k4 y)(hk:pk n.Tag=some 2):jt kinds n [x,y]=some (if(kn n.Tag x y).2 then((kn n.Tag x y).1,0)else(0,201)):=by
 obtain⟨tag,L,R,col,v⟩:=n
 have D:tag=12\/tag=13\/tag=14\/tag=15\/tag=16\/tag=17\/tag=18\/tag=19\/tag=20\/tag=21\/tag=22\/tag=23:=by
  unfold pk at hk
  repeat' split at hk
  all_goals simp at hk
  rename_i h
  have h:12<=tag/\tag<=23:=h
  omega
 rcases D with rfl|rfl|rfl|rfl|rfl|rfl|rfl|rfl|rfl|rfl|rfl|rfl<;>rcases X with rfl|rfl|rfl|rfl<;>rcases hy with rfl|rfl|rfl|rfl<;>rfl
def kd(kinds:List Int):Tr->Option Int
 | .lf n=>if n.Tag=1 then some n.Value.Kind else some ((kinds[n.Col.toNat]?).getD 0)
 | .un n a=>(kd kinds a).bind fun x=>if(kn n.Tag x 0).2 then some (kn n.Tag x 0).1 else none
 | .bi n a b=>(kd kinds a).bind fun x=>(kd kinds b).bind fun y=>if(kn n.Tag x y).2 then some (kn n.Tag x y).1 else none
def PG(kinds:List Int)(n:ap)(a:Tr):kd kinds (.un n a)=(kd kinds a).bind fun x=>if(kn n.Tag x 0).2 then some (kn n.Tag x 0).1 else none:=rfl
def Mc(kinds:List Int)(n:ap)(a b:Tr):kd kinds (.bi n a b)=(kd kinds a).bind fun x=>(kd kinds b).bind fun y=>if(kn n.Tag x y).2 then some (kn n.Tag x y).1 else none:=rfl
def Fv(m:Nat):Tr->Prop
 | .lf n=>n.Tag=2->n.Col<m
 | .un _ a=>Fv m a
 | .bi _ a b=>Fv m a/\Fv m b
def pk0{tag:Int}(h:pk tag=some 0):tag=1\/tag=2:=by
 unfold pk at h
 repeat' split at h
 all_goals simp at h
 assumption
def ZB{n:ap}(h:Dp n=true)(D:n.Tag=1):we n.Value=true:=by
 have H:=jG n
 rw [h]at H
 unfold kW at H
 rw [bo (by simp [D]),pN]at H
 simp at H
 exact H.1
def Xn{n:ap}(h:Dp n=true)(D:n.Tag=2):0<=n.Col/\n.Col<16:=by
 have H:=jG n
 rw [h]at H
 unfold kW at H
 rw [aV (by simp [D]),bo (by simp [D])]at H
 simp at H
 exact⟨H.1.2,H.2⟩
def Mb{kinds:List Int}(hk: ∀k∈kinds,k4 k): ∀(t:Tr),t.wf-> ∀{k},kd kinds t=some k->k4 k
 | .lf n,⟨Y,H,_,_⟩,k,h=>by
  unfold kd at h
  split at h
  ·rename_i D
   have:=Ib (ZB H D)
   cases h;unfold k4;omega
  ·injection h with h
   subst h
   cases hc:kinds[n.Col.toNat]? with
   |none=>exact .inl rfl
   |some z=>exact hk z (sI hc)
 | .un n a,_,k,h=>by
  unfold kd at h
  cases ha:kd kinds a with
  |none=>rw [ha]at h;cases h
  |some x=>
   rw [ha,bg]at h
   split at h
   ·cases h;exact Ts ..
   ·cases h
 | .bi n a b,_,k,h=>by
  unfold kd at h
  cases ha:kd kinds a with
  |none=>rw [ha]at h;cases h
  |some x=>
   cases W:kd kinds b with
   |none=>rw [ha,W]at h;cases h
   |some y=>
    rw [ha,W]at h
    simp only [bg]at h
    split at h
    ·cases h;exact Ts ..
    ·cases h
def Ki(stack l:List Int)(h:stack.length+l.length<=100000):oN (stack++l) (l.length:Int)=some (l,stack):=by
 unfold oN dH
 have e:IntKind.i64.wrap (((stack++l).length:Int)-(l.length:Int))=(stack.length:Int):=by
  rw [kJ,ew (by omega) (by omega)];omega
 rw [e,jy stack.length (stack++l).length rfl rfl (by simp) (dY _)]
 simp only [bg,B1,Lx (dY _),List.drop_length,mo]
 rw [cE (by simp;omega)]
 simp only [bg,mo]
 rw [jy (i:=0) 0 stack.length rfl rfl (oC _) (by simp)]
 simp
def If(stack:List Int){b:Int}(h:b≠0):lY b stack=some (0,b):=by
 unfold lY;rw [bo (by simpa using h)]
def tP{tag:Int}{k:Nat}(h:pk tag=some k):qx tag=some (k:Int):=by
 rw [xM];unfold Gi;rw [h]
def NA(kinds:List Int)(hk: ∀k∈kinds,k4 k)(t:Tr):t.wf->Fv kinds.length t-> ∀(h3:Nat) (rest:List ap) (stack:List Int),stack.length+t.size<=50000->
  hD (jt kinds) (t.flat h3++rest) 0 stack=match kd kinds t with
   |some k=>hD (jt kinds) rest 0 (stack++[k])
   |none=>some (0,201):=by
 induction t with
 |lf n=>
  intro⟨Y,H,s,h4⟩ hc h3 rest stack hl
  simp only [Tr.flat,Tr.size,B3,mo]at hl ⊢
  rw [hD]
  have e1:(kp n (-1) (-1)).Tag=n.Tag:=rfl
  rw [e1,tP Y]
  have h0:=Ki stack [] (by simp;omega)
  simp only [tv,vx]at h0
  simp only [bg]
  rw [h0]
  simp only [bg]
  have hv:jt kinds (kp n (-1) (-1)) []=(kd kinds (.lf n)).map (fun k=>(k,(0:Int))):=by
   unfold jt ma kd
   simp only [e1]
   rcases pk0 Y with D|D
   ·rw [bo (by simp [D]),bo D];rfl
   ·rw [aV (by simp [D]),bo (by simp [D]),aV (by simp [D])]
    have W:=Xn H D
    have hm:n.Col<kinds.length:=hc D
    have e2:(kp n (-1) (-1)).Col=n.Col:=rfl
    rw [e2,lU n.Col.toNat (by omega),sG (by omega)]
    rfl
  rw [hv]
  have: ∃k,kd kinds (.lf n)=some k:=by unfold kd;split<;>exact⟨_,rfl⟩
  obtain⟨k,hk1⟩:=this
  rw [hk1]
  simp only [oD,bg]
  rw [aV (by simp),cE (by simp;omega)]
  rfl
 |un n a ih=>
  intro⟨⟨Y,H,s,h4⟩,ha⟩ hc h3 rest stack hl
  simp only [Tr.flat,Tr.size,oB]at hl ⊢
  rw [PG,ih ha hc h3 _ stack (by omega)]
  cases X:kd kinds a with
  |none=>rfl
  |some x=>
   have hx4:=Mb hk a ha X
   simp only [bg,B3,mo]
   rw [hD]
   have e1:(kp n (((h3+a.size:Nat):Int)-1) (-1)).Tag=n.Tag:=rfl
   rw [e1,tP Y]
   have h0:=Ki stack [x] (by simp;omega)
   simp only [bg]
   have e0:(([x]:List Int).length:Int)=((1:Nat):Int):=rfl
   rw [<-e0,h0]
   simp only [bg]
   rw [Ln kinds _ x hx4 (by rw [e1];exact Y),e1]
   cases W:(kn n.Tag x 0).2 with
   |true=>
    simp only [jl,bg]
    rw [aV (by simp),cE (by simp;omega)]
    rfl
   |false=>
    simp only [nj,kQ,bg]
    rw [bo (by decide),If _ (by decide)]
 |bi n a b iha ihb=>
  intro⟨⟨Y,H,s,h4⟩,ha,W⟩ ⟨hca,hcb⟩ h3 rest stack hl
  simp only [Tr.flat,Tr.size,oB]at hl ⊢
  rw [Mc,iha ha hca h3 _ stack (by omega)]
  cases X:kd kinds a with
  |none=>rfl
  |some x=>
   have hx4:=Mb hk a ha X
   simp only [bg]
   rw [ihb W hcb (h3+a.size) _ (stack++[x]) (by have:=a.size_pos;simp;omega)]
   cases hy:kd kinds b with
   |none=>rfl
   |some y=>
    have hy4:=Mb hk b W hy
    have hap:=a.size_pos
    simp only [bg,B3,mo]
    rw [hD]
    have e1:(kp n (((h3+a.size:Nat):Int)-1) (((h3+a.size+b.size:Nat):Int)-1)).Tag=n.Tag:=rfl
    rw [e1,tP Y]
    have h0:=Ki stack [x,y] (by simp;omega)
    simp only [bg]
    have e0:(([x,y]:List Int).length:Int)=((2:Nat):Int):=rfl
    have e9:stack++[x]++[y]=stack++[x,y]:=by simp
    rw [<-e0,e9,h0]
    simp only [bg]
    rw [Lm kinds _ x y hx4 hy4 (by rw [e1];exact Y),e1]
    cases W:(kn n.Tag x y).2 with
    |true=>
     simp only [jl,bg]
     rw [aV (by simp),cE (by simp;omega)]
     rfl
    |false=>
     simp only [nj,kQ,bg]
     rw [bo (by decide),If _ (by decide)]
def Pb(kinds:List Int)(hk: ∀k∈kinds,k4 k)(t:Tr):t.wf->Fv kinds.length t-> ∀(rest:List ap) (own:List Int),own.length+t.size<=50000->
  (kd kinds t=none/\dz kinds (t.flat own.length++rest) own=some (0,201))\/
  (∃k w,kd kinds t=some k/\w.length+1=t.size/\dz kinds (t.flat own.length++rest) own=dz kinds rest (own++w++[k])):=by
 induction t with
 |lf n=>
  intro⟨Y,H,s,h4⟩ hc rest own hl
  simp only [Tr.flat,Tr.size,B3,mo]at hl ⊢
  refine .inr ?_
  have e1:(kp n (-1) (-1)).Tag=n.Tag:=rfl
  unfold kd
  rcases pk0 Y with D|D
  ·refine⟨_,[],bo D,rfl,?_⟩
   rw [dz]
   rw [e1,bo (by simp [D]),cE (by simp;omega)]
   simp only [bg,tv]
   rfl
  ·refine⟨_,[],aV (by simp [D]),rfl,?_⟩
   have W:=Xn H D
   have hm:n.Col<kinds.length:=hc D
   have e2:(kp n (-1) (-1)).Col=n.Col:=rfl
   rw [dz]
   rw [e1,aV (by simp [D]),bo (by simp [D]),e2,lU n.Col.toNat (by omega),sG (by omega)]
   simp only [bg,tv,Option.getD_some]
   rw [cE (by simp;omega)]
   rfl
 |un n a ih=>
  intro⟨⟨Y,H,s,h4⟩,ha⟩ hc rest own hl
  have hap:=a.size_pos
  simp only [Tr.flat,Tr.size,oB]at hl ⊢
  rcases ih ha hc ([kp n (((own.length+a.size:Nat):Int)-1) (-1)]++rest) own (by omega)with⟨X,he⟩|⟨x,w,X,hw,he⟩
  ·exact .inl ⟨by rw [PG,X];rfl,by rw [he]⟩
  ·rw [he]
   rw [PG,X]
   simp only [bg,B3,mo]
   have e1:(kp n (((own.length+a.size:Nat):Int)-1) (-1)).Tag=n.Tag:=rfl
   have n1:n.Tag≠1:=fun h=>by rw [h]at Y;simp [pk]at Y
   have n2:n.Tag≠2:=fun h=>by rw [h]at Y;simp [pk]at Y
   have hstep:dz kinds (kp n (((own.length+a.size:Nat):Int)-1) (-1)::rest) (own++w++[x])=if(kn n.Tag x 0).2 then dz kinds rest (own++w++[x]++[(kn n.Tag x 0).1])else some (0,201):=by
    rw [dz]
    rw [e1,aV (by simpa using n1),aV (by simpa using n2)]
    have eL:(kp n (((own.length+a.size:Nat):Int)-1) (-1)).L=((own.length+a.size:Nat):Int)-1:=rfl
    have eR:(kp n (((own.length+a.size:Nat):Int)-1) (-1)).R= -1:=rfl
    rw [eL,eR,lU (own++w).length (by simp;omega),vz (dY _),vn]
    simp only [EE,bg]
    rw [aV (by decide)]
    unfold qG
    rw [e1,xE]
    simp only [bg]
    cases W:(kn n.Tag x 0).2 with
    |true=>
     simp only [rk,nj,kQ,jl]
     rw [cE (by simp;omega)];rfl
    |false=>rfl
   rw [hstep]
   cases W:(kn n.Tag x 0).2 with
   |true=>exact .inr ⟨(kn n.Tag x 0).1,w++[x],by simp,by simp;omega,by simp⟩
   |false=>exact .inl ⟨by simp,by simp⟩
 |bi n a b iha ihb=>
  intro⟨⟨Y,H,s,h4⟩,ha,W⟩ ⟨hca,hcb⟩ rest own hl
  have hap:=a.size_pos
  have hbp:=b.size_pos
  simp only [Tr.flat,Tr.size,oB]at hl ⊢
  obtain⟨m,hm⟩: ∃m,m=kp n (((own.length+a.size:Nat):Int)-1) (((own.length+a.size+b.size:Nat):Int)-1):=⟨_,rfl⟩
  rw [<-hm]
  rcases iha ha hca (b.flat (own.length+a.size)++([m]++rest)) own (by omega)with⟨X,he⟩|⟨x,w,X,hw,he⟩
  ·exact .inl ⟨by rw [Mc,X];rfl,by rw [he]⟩
  ·rw [he]
   have hl2:(own++w++[x]).length=own.length+a.size:=by simp;omega
   rw [<-hl2]
   rcases ihb W hcb ([m]++rest) (own++w++[x]) (by rw [hl2];omega)with⟨hy,he2⟩|⟨y,w2,hy,hw2,he2⟩
   ·exact .inl ⟨by rw [Mc,X,hy];rfl,by rw [he2]⟩
   ·rw [he2]
    rw [Mc,X,hy]
    simp only [bg,B3,mo]
    have e1:m.Tag=n.Tag:=by rw [hm];rfl
    have eL:m.L=((own.length+a.size:Nat):Int)-1:=by rw [hm];rfl
    have eR:m.R=((own.length+a.size+b.size:Nat):Int)-1:=by rw [hm];rfl
    have n1:n.Tag≠1:=fun h=>by rw [h]at Y;simp [pk]at Y
    have n2:n.Tag≠2:=fun h=>by rw [h]at Y;simp [pk]at Y
    have hstep:dz kinds (m::rest) (own++w++[x]++w2++[y])=if(kn n.Tag x y).2 then dz kinds rest (own++w++[x]++w2++[y]++[(kn n.Tag x y).1])else some (0,201):=by
     rw [dz]
     rw [e1,aV (by simpa using n1),aV (by simpa using n2)]
     rw [eL,eR,lU (own++w).length (by simp;omega)]
     have g1:(own++w++[x]++w2++[y])[(own++w).length]? =some x:=by
      rw [oB,oB,vz (dY _),vn];rfl
     rw [g1]
     simp only [bg]
     rw [bo (by rw [mg];omega),lU (own++w++[x]++w2).length (by simp;omega)]
     have g2:(own++w++[x]++w2++[y])[(own++w++[x]++w2).length]? =some y:=by
      rw [vz (dY _),vn];rfl
     rw [g2]
     simp only [bg]
     unfold qG
     rw [e1,xE]
     simp only [bg]
     cases W:(kn n.Tag x y).2 with
     |true=>
      simp only [rk,nj,kQ,jl]
      rw [cE (by simp;omega)];rfl
     |false=>rfl
    rw [hstep]
    cases W:(kn n.Tag x y).2 with
    |true=>exact .inr ⟨(kn n.Tag x y).1,w++[x]++w2++[y],by simp,by simp;omega,by simp⟩
    |false=>exact .inl ⟨by simp,by simp⟩
def qz(m:Nat)(ns:List ap):Bool:=ns.all fun n=> !((n.Tag==2)&&decide ((m:Int)<=n.Col))
def I7(m:Nat)(n:ap)(ns:List ap):qz m (n::ns)=(!((n.Tag==2)&&decide ((m:Int)<=n.Col))&&qz m ns):=rfl
def Bl(m:Nat)(t:Tr):t.wf-> ∀h3,qz m (t.flat h3)=true->Fv m t:=by
 induction t with
 |lf n=>
  intro _ h3 h D
  simp only [qz,Tr.flat,yV,List.all_nil,Bool.and_true]at h
  have e1:(kp n (-1) (-1)).Tag=n.Tag:=rfl
  have e2:(kp n (-1) (-1)).Col=n.Col:=rfl
  simp [e1,e2,D]at h
  exact h
 |un n a ih=>
  intro⟨_,ha⟩ h3 h
  simp only [qz,Tr.flat,List.all_append,nP]at h
  exact ih ha h3 h.1
 |bi n a b iha ihb=>
  intro⟨_,ha,W⟩ h3 h
  simp only [qz,Tr.flat,List.all_append,nP]at h
  exact⟨iha ha h3 h.1.1,ihb W _ h.1.2⟩
def PH(kinds:List Int):Bool:=kinds.all fun k=>decide (0<=k)&&decide (k<=3)
def Iz(k:Int)(ks:List Int):PH (k::ks)=((decide (0<=k)&&decide (k<=3))&&PH ks):=rfl
def Gu{kinds:List Int}(h:PH kinds=true){k:Int}(hk:k∈kinds):k4 k:=by
 have:=lw.1 h k hk
 simp at this
 unfold k4;omega
def fM(e:aR)(kinds:List Int):Int×Int:=
 if mY e.Nodes then if PH kinds then if qz kinds.length e.Nodes then match (qg e.Nodes).bind (kd kinds)with
  |some k=>(k,0)
  |none=>(0,201)else(0,2)else(0,2)else(0,200)
def DL(e:aR)(kinds:List Int): ∀cs:List Int,mw e kinds cs=if cs.all (fun c=>decide (c<(kinds.length:Int)))then oJ e (jt kinds)else some (0,2)
 |[]=>by
  unfold mw
  cases oJ e (jt kinds)<;>rfl
 |c::cs=>by
  unfold mw
  rw [DL e kinds cs]
  by_cases h:(kinds.length:Int)<=c
  ·rw [bo (by simpa using h),aV (by simp;omega)]
  ·rw [aV (by simpa using h)]
   have:c<(kinds.length:Int):=by omega
   simp [this]
def my(e:aR)(kinds:List Int)(hl:e.Nodes.length<=50000):mT e kinds=some (fM e kinds):=by
 unfold mT fM
 rw [xN e (by omega)]
 cases hr:mY e.Nodes with
 |false=>rfl
 |true=>
  simp only [jl,bg]
  rw [aV (by decide)]
  have key: ∀ks:List Int,pU e kinds ks=if PH ks then(ul e).bind (mw e kinds)else some (0,2):=by
   intro ks
   induction ks with
   |nil=>rfl
   |cons k ks ih=>
    unfold pU
    rw [ih]
    by_cases h:k<0\/3<k
    ·rw [bo (by simpa using h),aV (by simp [PH];omega)]
    ·rw [aV (by simpa using h)]
     have Y:(decide (0<=k)&&decide (k<=3))=true:=by simp;omega
     rw [Iz,Y,ni]
  rw [key]
  cases hk:PH kinds with
  |false=>rfl
  |true=>
   simp only [jl]
   obtain⟨cs,Y,H⟩:=GO e hr
   rw [Y,bg,DL]
   have hci:cs.all (fun c=>decide (c<(kinds.length:Int)))=qz kinds.length e.Nodes:=by
    rw [vI]
    simp only [lw,mg,qz,DW,Bool.and_eq_false_iff,beq_eq_false_iff_ne,Lu]
    constructor
    ·intro h n hn
     by_cases D:n.Tag=2
     ·exact .inr (by have:=h _ ((H n.Col).2 ⟨n,hn,D,rfl⟩);omega)
     ·exact .inl D
    ·intro h c hc
     obtain⟨n,hn,D,rfl⟩:=(H c).1 hc
     rcases h n hn with h|h
     ·exact absurd D h
     ·omega
   rw [hci]
   cases hc:qz kinds.length e.Nodes with
   |false=>rfl
   |true=>
    simp only [jl]
    cases D:qg e.Nodes with
    |none=>unfold mY at hr;rw [D]at hr;cases hr
    |some t=>
     obtain⟨hw,hN,hs⟩:=nl D
     have hct:=Bl kinds.length t hw 0 (by rw [<-hN];exact hc)
     have:=NA kinds (fun k=>Gu hk) t hw hct 0 [] [] (by simp;omega)
     rw [tv,<-hN]at this
     unfold oJ
     rw [this]
     simp only [bg]
     cases kd kinds t with
     |none=>rfl
     |some k=>rfl
def qH(e:aR)(kinds:List Int):si e kinds=some (fM e kinds):=by
 unfold si fM
 rw [CP e]
 cases hr:mY e.Nodes with
 |false=>rfl
 |true=>
  simp only [jl,bg,rk,nj,kQ]
  have CZ: ∀ns:List ap,oG e kinds ns=if qz kinds.length ns then dz kinds e.Nodes []else some (0,2):=by
   intro ns
   induction ns with
   |nil=>rfl
   |cons n ns ih=>
    unfold oG
    rw [ih,I7]
    cases ((n.Tag==2)&&decide ((kinds.length:Int)<=n.Col))<;>simp
  have key: ∀ks:List Int,qF e kinds ks=if PH ks then oG e kinds e.Nodes else some (0,2):=by
   intro ks
   induction ks with
   |nil=>rfl
   |cons k ks ih=>
    unfold qF
    rw [ih]
    by_cases h:k<0\/3<k
    ·rw [bo (by simpa using h),aV (by simp [PH];omega)]
    ·rw [aV (by simpa using h)]
     have Y:(decide (0<=k)&&decide (k<=3))=true:=by simp;omega
     rw [Iz,Y,ni]
  rw [key,CZ]
  cases hk:PH kinds with
  |false=>rfl
  |true=>
   cases hc:qz kinds.length e.Nodes with
   |false=>rfl
   |true=>
    simp only [jl]
    cases D:qg e.Nodes with
    |none=>unfold mY at hr;rw [D]at hr;cases hr
    |some t=>
     obtain⟨hw,hN,hs⟩:=nl D
     have hct:=Bl kinds.length t hw 0 (by rw [<-hN];exact hc)
     have:=Pb kinds (fun k=>Gu hk) t hw hct [] [] (by simp;omega)
     rw [tv,vx,<-hN]at this
     simp only [bg]
     rcases this with⟨Y,H⟩|⟨k,w,Y,H,s⟩
     ·rw [Y,H]
     ·rw [Y,s]
      unfold dz
      have hls:t.size<=1000:=hs
      rw [mo,lU w.length (by rw [ew (by simp<;>omega) (by simp<;>omega)];simp),vz (dY _),vn]
      rfl

def oQ{α:Type}{xs tl:List α}{i:Nat}{y:α}(h:xs.drop i=y::tl):gG xs (i:Int)=some y/\i<xs.length/\xs.drop (i+1)=tl:=by
 have hi:i<xs.length:=by
  rcases nf i xs.length with Y|Y
  ·exact Y
  ·rw [D0 Y]at h;cases h
 rw [Ae hi]at h
 injection h with Y H
 exact⟨by rw [eK,sG hi,Y],hi,H⟩
def Dk{α:Type}{xs:List α}{i:Nat}(h:xs.drop i=[]):xs.length<=i:=Hh.1 h
def ux{f:Int->Option Bool}{g:Int->Bool}(hf: ∀v,f v=some (g v)): ∀(l:List Int) (i:Nat),∃j:Int,fx f l i=some j/\decide (0<=j)=l.any g
 |[],i=>⟨-1,rfl,rfl⟩
 |e::l,i=>by
  unfold fx
  rw [hf,bg]
  cases h:g e with
  |true=>exact⟨(i:Int),by simp,by simp [h]⟩
  |false=>
   obtain⟨j,Y,H⟩:=ux hf l (i+1)
   exact⟨j,by simpa using Y,by rw [H];simp [h]⟩
def jR{f:Int->Option Bool}{g:Int->Bool}(hf: ∀v,f v=some (g v))(l:List Int):eo l f=some (l.any g):=by
 unfold eo lh
 obtain⟨j,Y,H⟩:=ux hf l 0
 rw [Y,bg,H]
def uw{f:kF->Option Bool}{g:kF->Bool}(hf: ∀v,f v=some (g v)): ∀(l:List kF) (i:Nat),∃j:Int,dG f l i=some j/\decide (0<=j)=l.any g
 |[],i=>⟨-1,rfl,rfl⟩
 |e::l,i=>by
  unfold dG
  rw [hf,bg]
  cases h:g e with
  |true=>exact⟨(i:Int),by simp,by simp [h]⟩
  |false=>
   obtain⟨j,Y,H⟩:=uw hf l (i+1)
   exact⟨j,by simpa using Y,by rw [H];simp [h]⟩
def ri{f:kF->Option Bool}{g:kF->Bool}(hf: ∀v,f v=some (g v))(l:List kF):eI l f=some (l.any g):=by
 unfold eI hY
 obtain⟨j,Y,H⟩:=uw hf l 0
 rw [Y,bg,H]
def vk(l:List Int)(h:l.length<=68719476736):dH l=some l:=by
 unfold dH
 rw [cE (by simpa using h)];rfl
def Tb(n:Int)(h0:0<=n)(h:n<=68719476736):lA n=some []:=by
 unfold lA mu
 rw [aV (by simp;omega)]
 have e:IntKind.i64.wrap (n-IntKind.i64.wrap ((0:Int)-0))=n:=by
  rw [ew (n:=(0:Int)-0) (by omega) (by omega),ew (by omega) (by omega)];omega
 rw [e]
 by_cases hp:0<n
 ·rw [bo (by simpa using hp)]
  unfold Zc uD
  rw [bo hp]
  simp only [bg]
  rw [bo ⟨h0,h⟩]
  simp only [bg]
  rw [show dK (List.replicate n.toNat (0:Int)) 0 0=some []from by unfold dK;rw [bo (by simp;omega)];simp]
  rfl
 ·rw [aV (by simpa using hp)];rfl
def DO(a b:List Int)(ha:a.length<=8000)(W:b.length<=8000):iK [a,b]=some (a++b):=by
 unfold iK
 simp only [ja]
 rw [ew (n:=(0:Int)+(a.length:Int)) (by omega) (by omega),aV (by simp),ew (by omega) (by omega),aV (by simp;omega),Tb _ (by omega) (by omega)]
 simp only [bg,i0]
 rw [cE (by simp;omega)]
 simp only [bg,mo]
 rw [cE (by omega)]
 rfl
structure ju(n:aa):Prop where
 cond:n.Cond.Nodes.length<=5000
 kinds:n.Kinds.length<=5000
 keys:n.Keys.length<=5000
 aggs:n.Aggs.length<=5000
 items:n.Items.length<=5000
 order:n.Order.length<=5000
 args: ∀g∈n.Aggs,g.Arg.Nodes.length<=5000
 exprs: ∀e∈n.Items,e.Nodes.length<=5000
def JL(e:aR)(kinds:List Int):Bool:=(fM e kinds).2==0&&((fM e kinds).1==1||(fM e kinds).1==0)
def v7(e:aR)(kinds:List Int):sV e kinds=some (JL e kinds):=by
 unfold sV JL
 rw [qH e kinds]
 simp only [bg,Bool.or_comm]
def Li(a:fI)(kinds:List Int):Int×Bool:=(mD a kinds).getD (0,false)
def yi(a:fI)(kinds:List Int):mD a kinds=some (Li a kinds):=by
 unfold Li mD
 rw [qH]
 simp only [bg]
 repeat' split
 all_goals rfl
def Ou(a:List Int)(e:Int):Int:=(a[e.toNat]?).getD 0
def wh(a:List Int)(e:Int):Bool:=decide (e<0)||decide ((a.length:Int)<=e)
def KB{a:List Int}{e:Int}(h:wh a e=false):gG a e=some (Ou a e):=by
 simp [wh]at h
 rw [lU e.toNat (by omega),sG (by omega)]
 unfold Ou
 rw [sG (by omega)];rfl
def FX(x y:Int):Int:=if x=0 then y else x
def Bz(p:Int×Int):Bool:=(p.2==FX p.1 p.2)||p.2==0
end Go.Proofs.YtdohlidddcgfjaaGreat

