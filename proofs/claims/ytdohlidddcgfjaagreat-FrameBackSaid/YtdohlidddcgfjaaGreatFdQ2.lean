/- bT of this claim: L3, L4. -/
import Derived.Test.YtdohlidddcgfjaaGreatFdQ1
set_option linter.all false
namespace Go.Proofs.YtdohlidddcgfjaaGreat
open Go

def M0(p:List Int)(hp:p.length<=8000)(i:Nat)(y:List Int)(hy:i+y.length=p.length): ∀(k i1:Nat) (x:List Int) (x1:Nat),i1+k=y.length->0<i1->x.length=p.length->x1+1<=i+i1->x.drop (i+i1-1)=p.drop (i+i1-1)->
  ej i y k i1 x (x1:Int)=some (x.take x1++yb ((p[i+i1-1]?).getD 0) (p.drop (i+i1))):=by
 intro k
 induction k with
 |zero=>
  intro i1 x x1 Y h0 V X d
  simp only [ej]
  have hx1:x1<=x.length:=by omega
  rw [sQ hx1 (eg _)]
  simp only [bg,DB,u0]
  rw [show((0:Int))=((0:Nat):Int)from rfl,sQ (pq _) (by simp;omega)]
  simp only [bg,BB]
  have hn:p.drop (i+i1)=[]:=Fz (by omega)
  rw [hn,KP,pM,CZ (by simp;omega),Ae,Nat.min_self]
 |succ k ih=>
  intro i1 x x1 Y h0 V X d
  have e1:x[i+i1]? =p[i+i1]? :=by
   have:=congrArg (fun l:List Int=>l[1]?) d
   simp only [vH]at this
   rwa [show i+i1-1+1=i+i1 from by omega]at this
  have e0:x[i+i1-1]? =p[i+i1-1]? :=by
   have:=congrArg (fun l:List Int=>l[0]?) d
   simpa only [vH,Cn] using this
  have hlt:i+i1<p.length:=by omega
  have g1:FT x (i:Int) y.length (i1:Int)=some p[i+i1]:=by
   unfold FT
   rw [bh (by omega),show(i:Int)+(i1:Int)=((i+i1:Nat):Int)from by omega,eU,e1,tM hlt]
  have g0:FT x (i:Int) y.length (IntKind.i64.wrap ((i1:Int)-1))=some p[i+i1-1]:=by
   rw [eP (by omega) (by omega)]
   unfold FT
   rw [bh (by omega),show(i:Int)+((i1:Int)-1)=((i+i1-1:Nat):Int)from by omega,eU,e0,tM (by omega)]
  have hd:p.drop (i+i1)=p[i+i1]::p.drop (i+i1+1):=BE hlt
  have hp1:(p[i+i1-1]?).getD 0=p[i+i1-1]:=by rw [tM (by omega)];rfl
  simp only [ej,g1,g0,bg]
  rw [hd,hp1]
  by_cases hx2:p[i+i1]=p[i+i1-1]
  ·rw [aR (by simp [hx2])]
   have h3' :x.drop (i+(i1+1)-1)=p.drop (i+(i1+1)-1):=by
    have:=congrArg (List.drop 1) d
    rwa [sn,sn,show i+i1-1+1=i+(i1+1)-1 from by omega]at this
   rw [ih (i1+1) x x1 (by omega) (by omega) V (by omega) h3']
   rw [G8 hx2,show i+(i1+1)-1=i+i1 from by omega,tM hlt,show i+(i1+1)=i+i1+1 from by omega]
   rfl
  ·rw [bh (by simp [hx2]),eU,tM (by omega)]
   simp only [bg,u0]
   rw [eP (by omega) (by omega),show((x1:Int)+1)=((x1+1:Nat):Int)from by omega]
   have h3' :(x.set x1 p[i+i1]).drop (i+(i1+1)-1)=p.drop (i+(i1+1)-1):=by
    rw [List.drop_set_of_lt (by omega)]
    have:=congrArg (List.drop 1) d
    rwa [sn,sn,show i+i1-1+1=i+(i1+1)-1 from by omega]at this
   rw [ih (i1+1) _ (x1+1) (by omega) (by omega) (by simpa using V) (by omega) h3']
   rw [OA hx2,show i+(i1+1)-1=i+i1 from by omega,tM hlt,show i+(i1+1)=i+i1+1 from by omega]
   have D:(x.set x1 p[i+i1]).take (x1+1)=x.take x1++[p[i+i1]]:=by
    rw [QO (by simp;omega),List.take_set_of_le (by omega)]
    simp
   rw [D]
   simp
def M1(p:List Int)(hp:p.length<=8000):ky p=some (Oz p):=by
 unfold ky
 by_cases X:p.length<2
 ·rw [bh (by simp;omega)]
  match p,X with
  |[],_=>rfl
  |[x],_=>rfl
 ·rw [aR (by simp;omega)]
  have key: ∀(l:List Int) (i:Nat),p.drop i=l->0<i->i<=p.length->Oz p=p.take i++yb ((p[i-1]?).getD 0) (p.drop i)->fy p l i=some (Oz p):=by
   intro l
   induction l with
   |nil=>
    intro i Y h0 hle d
    have:=Jd.1 Y
    simp only [fy]
    rw [d,Y,tS (by omega),KP,pM]
   |cons x t ih=>
    intro i Y h0 hle d
    have hi:i<p.length:=by
     rcases nS i p.length with h|h
     ·exact h
     ·rw [Fz h]at Y;cases Y
    have V:x=p[i]:=by rw [BE hi]at Y;exact(xe Y).1.symm
    have D:p.drop (i+1)=t:=by rw [<-sn,Y];rfl
    have hp1:(p[i-1]?).getD 0=p[i-1]:=by rw [tM (by omega)];rfl
    simp only [fy]
    rw [eP (by omega) (by omega),show(i:Int)-1=((i-1:Nat):Int)from by omega,eU,tM (by omega)]
    simp only [bg]
    by_cases he:x=p[i-1]
    ·rw [bh (by simp [he])]
     rw [sQ hle (eg _)]
     simp only [bg,DB]
     rw [M0 p hp i (p.drop i) (by simp;omega) _ 1 p i (by simp;omega) (by omega) rfl (by omega) (by simp)]
     rw [d,Y,hp1,G8 he,<-D,V]
     rw [show i+1-1=i from by omega,tM hi];rfl
    ·rw [aR (by simp [he])]
     refine ih (i+1) D (by omega) (by omega) ?_
     rw [d,Y,hp1,OA he,QO hi,<-D,V,show i+1-1=i from by omega,tM hi]
     rw [pD];rfl
  have hpc:p=p[0]::p.drop 1:=by
   have:=BE (l:=p) (i:=0) (by omega)
   simpa using this
  refine key (p.drop 1) 1 rfl (by omega) (by omega) ?_
  have e:(p[1-1]?).getD 0=p[0]:=by simp [tM (show 0<p.length by omega)]
  rw [e]
  conv=>lhs;rw [hpc]
  have e2:p.take 1=[p[0]]:=by
   conv=>lhs;rw [hpc]
   rfl
  rw [e2];rfl

def PO(l:List Int)(z:Int):z∈sortI l↔z∈l:=by unfold sortI;simp
def Ac: ∀(ns:List ap) (out:List Int),out.length+ns.length<=8000-> ∃cs,m5 ns out=some cs/\ ∀c,c∈cs↔c∈out\/ ∃n∈ns,n.Tag=2/\n.Col=c
 |[],out,h=>by
  unfold m5 D1
  rw [bh (by simp at h;omega)]
  simp only [bg]
  rw [M1 _ (by rw [BL];simpa using h)]
  exact⟨_,rfl,fun c=>by rw [PP,PO];simp⟩
 |n::ns,out,h=>by
  simp only [iB]at h
  unfold m5
  by_cases D:n.Tag=2
  ·rw [bh (by simp [D]),cK (by simp;omega)]
   simp only [bg]
   obtain⟨cs,Y,X⟩:=Ac ns (out++[n.Col]) (by simp;omega)
   exact⟨cs,Y,fun c=>by rw [X];simp [D,or_assoc,eq_comm]⟩
  ·rw [aR (by simp [D])]
   obtain⟨cs,Y,X⟩:=Ac ns out (by omega)
   exact⟨cs,Y,fun c=>by rw [X];simp [D]⟩
def IJ(e:aP)(h:my e.Nodes=true): ∃cs,vt e=some cs/\ ∀c,c∈cs↔ ∃n∈e.Nodes,n.Tag=2/\n.Col=c:=by
 have hl:=LW h
 unfold vt
 rw [zi e (by omega),h]
 obtain⟨cs,Y,X⟩:=Ac e.Nodes [] (by simp;omega)
 exact⟨cs,by simpa using Y,fun c=>by rw [X];simp⟩
def kn(tag l r:Int):Int×Bool:=(tn tag l r).getD (0,false)
def y7(tag l r:Int):tn tag l r=some (kn tag l r):=by
 unfold kn tn re
 simp only [bg]
 repeat' split
 all_goals simp
def k4(k:Int):Prop:=k=0\/k=1\/k=2\/k=3
def Wa(tag l r:Int):k4 (kn tag l r).1:=by
 unfold kn tn re
 simp only [bg]
 repeat' split
 all_goals simp [k4]
def Nf(kinds:List Int)(n:ap)(x:Int)(V:k4 x)(hk:pk n.Tag=some 1):jV kinds n [x]=some (if(kn n.Tag x 0).2 then((kn n.Tag x 0).1,0)else(0,201)):=by
 obtain⟨tag,L,R,col,v⟩:=n
 have D:tag=4\/tag=5\/tag=6\/tag=7:=by
  unfold pk at hk
  repeat' split at hk
  all_goals simp at hk
  rename_i h
  have h:4<=tag/\tag<=7:=h
  omega
 rcases D with rfl|rfl|rfl|rfl<;>rcases V with rfl|rfl|rfl|rfl<;>rfl
def Nc(kinds:List Int)(n:ap)(x y:Int)(V:k4 x)(hy:k4 y)(hk:pk n.Tag=some 2):jV kinds n [x,y]=some (if(kn n.Tag x y).2 then((kn n.Tag x y).1,0)else(0,201)):=by
 obtain⟨tag,L,R,col,v⟩:=n
 have D:tag=12\/tag=13\/tag=14\/tag=15\/tag=16\/tag=17\/tag=18\/tag=19\/tag=20\/tag=21\/tag=22\/tag=23:=by
  unfold pk at hk
  repeat' split at hk
  all_goals simp at hk
  rename_i h
  have h:12<=tag/\tag<=23:=h
  omega
 rcases D with rfl|rfl|rfl|rfl|rfl|rfl|rfl|rfl|rfl|rfl|rfl|rfl<;>rcases V with rfl|rfl|rfl|rfl<;>rcases hy with rfl|rfl|rfl|rfl<;>rfl
def kd(kinds:List Int):Tr->Option Int
 | .lf n=>if n.Tag=1 then some n.Value.Kind else some ((kinds[n.Col.toNat]?).getD 0)
 | .un n a=>(kd kinds a).bind fun x=>if(kn n.Tag x 0).2 then some (kn n.Tag x 0).1 else none
 | .bi n a b=>(kd kinds a).bind fun x=>(kd kinds b).bind fun y=>if(kn n.Tag x y).2 then some (kn n.Tag x y).1 else none
def Sh(kinds:List Int)(n:ap)(a:Tr):kd kinds (.un n a)=(kd kinds a).bind fun x=>if(kn n.Tag x 0).2 then some (kn n.Tag x 0).1 else none:=rfl
def N7(kinds:List Int)(n:ap)(a b:Tr):kd kinds (.bi n a b)=(kd kinds a).bind fun x=>(kd kinds b).bind fun y=>if(kn n.Tag x y).2 then some (kn n.Tag x y).1 else none:=rfl
def Hb(m:Nat):Tr->Prop
 | .lf n=>n.Tag=2->n.Col<m
 | .un _ a=>Hb m a
 | .bi _ a b=>Hb m a/\Hb m b
def pk0{tag:Int}(h:pk tag=some 0):tag=1\/tag=2:=by
 unfold pk at h
 repeat' split at h
 all_goals simp at h
 assumption
def acm{n:ap}(h:CQ n=true)(D:n.Tag=1):uO n.Value=true:=by
 have X:=ke n
 rw [h]at X
 unfold kz at X
 rw [bh (by simp [D]),oe]at X
 simp at X
 exact X.1
def aav{n:ap}(h:CQ n=true)(D:n.Tag=2):0<=n.Col/\n.Col<16:=by
 have X:=ke n
 rw [h]at X
 unfold kz at X
 rw [aR (by simp [D]),bh (by simp [D])]at X
 simp at X
 exact⟨X.1.2,X.2⟩
def N6{kinds:List Int}(hk: ∀k∈kinds,k4 k): ∀(t:Tr),t.wf-> ∀{k},kd kinds t=some k->k4 k
 | .lf n,⟨Y,X,_,_⟩,k,h=>by
  unfold kd at h
  split at h
  ·rename_i D
   have:=JT (acm X D)
   cases h;unfold k4;omega
  ·injection h with h
   subst h
   cases hc:kinds[n.Col.toNat]? with
   |none=>exact .inl rfl
   |some z=>exact hk z (s5 hc)
 | .un n a,_,k,h=>by
  unfold kd at h
  cases ha:kd kinds a with
  |none=>rw [ha]at h;cases h
  |some x=>
   rw [ha,bg]at h
   split at h
   ·cases h;exact Wa ..
   ·cases h
 | .bi n a b,_,k,h=>by
  unfold kd at h
  cases ha:kd kinds a with
  |none=>rw [ha]at h;cases h
  |some x=>
   cases K:kd kinds b with
   |none=>rw [ha,K]at h;cases h
   |some y=>
    rw [ha,K]at h
    simp only [bg]at h
    split at h
    ·cases h;exact Wa ..
    ·cases h
def Ma(stack l:List Int)(h:stack.length+l.length<=100000):pI (stack++l) (l.length:Int)=some (l,stack):=by
 unfold pI dO
 have e:IntKind.i64.wrap (((stack++l).length:Int)-(l.length:Int))=(stack.length:Int):=by
  rw [kw,eP (by omega) (by omega)];omega
 rw [e,jZ stack.length (stack++l).length rfl rfl (by simp) (eg _)]
 simp only [bg,DB,Ns (eg _),List.drop_length,m7]
 rw [cK (by simp;omega)]
 simp only [bg,m7]
 rw [jZ (i:=0) 0 stack.length rfl rfl (pq _) (by simp)]
 simp
def JX(stack:List Int){b:Int}(h:b≠0):mK b stack=some (0,b):=by
 unfold mK;rw [bh (by simpa using h)]
def uU{tag:Int}{k:Nat}(h:pk tag=some k):rr tag=some (k:Int):=by
 rw [zh];unfold Ie;rw [h]
def PJ(kinds:List Int)(hk: ∀k∈kinds,k4 k)(t:Tr):t.wf->Hb kinds.length t-> ∀(ae:Nat) (rest:List ap) (stack:List Int),stack.length+t.size<=50000->
  ir (jV kinds) (t.flat ae++rest) 0 stack=match kd kinds t with
   |some k=>ir (jV kinds) rest 0 (stack++[k])
   |none=>some (0,201):=by
 induction t with
 |lf n=>
  intro⟨Y,X,d,h4⟩ hc ae rest stack hl
  simp only [Tr.flat,Tr.size,Fw,m7]at hl ⊢
  rw [ir]
  have e1:(jq n (-1) (-1)).Tag=n.Tag:=rfl
  rw [e1,uU Y]
  have h0:=Ma stack [] (by simp;omega)
  simp only [pM,uY]at h0
  simp only [bg]
  rw [h0]
  simp only [bg]
  have hv:jV kinds (jq n (-1) (-1)) []=(kd kinds (.lf n)).map (fun k=>(k,(0:Int))):=by
   unfold jV mM kd
   simp only [e1]
   rcases pk0 Y with D|D
   ·rw [bh (by simp [D]),bh D];rfl
   ·rw [aR (by simp [D]),bh (by simp [D]),aR (by simp [D])]
    have K:=aav X D
    have hm:n.Col<kinds.length:=hc D
    have e2:(jq n (-1) (-1)).Col=n.Col:=rfl
    rw [e2,lV n.Col.toNat (by omega),tM (by omega)]
    rfl
  rw [hv]
  have: ∃k,kd kinds (.lf n)=some k:=by unfold kd;split<;>exact⟨_,rfl⟩
  obtain⟨k,hk1⟩:=this
  rw [hk1]
  simp only [pr,bg]
  rw [aR (by simp),cK (by simp;omega)]
  rfl
 |un n a ih=>
  intro⟨⟨Y,X,d,h4⟩,ha⟩ hc ae rest stack hl
  simp only [Tr.flat,Tr.size,pD]at hl ⊢
  rw [Sh,ih ha hc ae _ stack (by omega)]
  cases V:kd kinds a with
  |none=>rfl
  |some x=>
   have hx4:=N6 hk a ha V
   simp only [bg,Fw,m7]
   rw [ir]
   have e1:(jq n (((ae+a.size:Nat):Int)-1) (-1)).Tag=n.Tag:=rfl
   rw [e1,uU Y]
   have h0:=Ma stack [x] (by simp;omega)
   simp only [bg]
   have e0:(([x]:List Int).length:Int)=((1:Nat):Int):=rfl
   rw [<-e0,h0]
   simp only [bg]
   rw [Nf kinds _ x hx4 (by rw [e1];exact Y),e1]
   cases K:(kn n.Tag x 0).2 with
   |true=>
    simp only [jL,bg]
    rw [aR (by simp),cK (by simp;omega)]
    rfl
   |false=>
    simp only [nV,lD,bg]
    rw [bh (by decide),JX _ (by decide)]
 |bi n a b iha ihb=>
  intro⟨⟨Y,X,d,h4⟩,ha,K⟩ ⟨hca,hcb⟩ ae rest stack hl
  simp only [Tr.flat,Tr.size,pD]at hl ⊢
  rw [N7,iha ha hca ae _ stack (by omega)]
  cases V:kd kinds a with
  |none=>rfl
  |some x=>
   have hx4:=N6 hk a ha V
   simp only [bg]
   rw [ihb K hcb (ae+a.size) _ (stack++[x]) (by have:=a.size_pos;simp;omega)]
   cases hy:kd kinds b with
   |none=>rfl
   |some y=>
    have hy4:=N6 hk b K hy
    have hap:=a.size_pos
    simp only [bg,Fw,m7]
    rw [ir]
    have e1:(jq n (((ae+a.size:Nat):Int)-1) (((ae+a.size+b.size:Nat):Int)-1)).Tag=n.Tag:=rfl
    rw [e1,uU Y]
    have h0:=Ma stack [x,y] (by simp;omega)
    simp only [bg]
    have e0:(([x,y]:List Int).length:Int)=((2:Nat):Int):=rfl
    have e9:stack++[x]++[y]=stack++[x,y]:=by simp
    rw [<-e0,e9,h0]
    simp only [bg]
    rw [Nc kinds _ x y hx4 hy4 (by rw [e1];exact Y),e1]
    cases K:(kn n.Tag x y).2 with
    |true=>
     simp only [jL,bg]
     rw [aR (by simp),cK (by simp;omega)]
     rfl
    |false=>
     simp only [nV,lD,bg]
     rw [bh (by decide),JX _ (by decide)]
def Ry(kinds:List Int)(hk: ∀k∈kinds,k4 k)(t:Tr):t.wf->Hb kinds.length t-> ∀(rest:List ap) (own:List Int),own.length+t.size<=50000->
  (kd kinds t=none/\dH kinds (t.flat own.length++rest) own=some (0,201))\/
  (∃k w,kd kinds t=some k/\w.length+1=t.size/\dH kinds (t.flat own.length++rest) own=dH kinds rest (own++w++[k])):=by
 induction t with
 |lf n=>
  intro⟨Y,X,d,h4⟩ hc rest own hl
  simp only [Tr.flat,Tr.size,Fw,m7]at hl ⊢
  refine .inr ?_
  have e1:(jq n (-1) (-1)).Tag=n.Tag:=rfl
  unfold kd
  rcases pk0 Y with D|D
  ·refine⟨_,[],bh D,rfl,?_⟩
   rw [dH]
   rw [e1,bh (by simp [D]),cK (by simp;omega)]
   simp only [bg,pM]
   rfl
  ·refine⟨_,[],aR (by simp [D]),rfl,?_⟩
   have K:=aav X D
   have hm:n.Col<kinds.length:=hc D
   have e2:(jq n (-1) (-1)).Col=n.Col:=rfl
   rw [dH]
   rw [e1,aR (by simp [D]),bh (by simp [D]),e2,lV n.Col.toNat (by omega),tM (by omega)]
   simp only [bg,pM,Option.getD_some]
   rw [cK (by simp;omega)]
   rfl
 |un n a ih=>
  intro⟨⟨Y,X,d,h4⟩,ha⟩ hc rest own hl
  have hap:=a.size_pos
  simp only [Tr.flat,Tr.size,pD]at hl ⊢
  rcases ih ha hc ([jq n (((own.length+a.size:Nat):Int)-1) (-1)]++rest) own (by omega)with⟨V,he⟩|⟨x,w,V,hw,he⟩
  ·exact .inl ⟨by rw [Sh,V];rfl,by rw [he]⟩
  ·rw [he]
   rw [Sh,V]
   simp only [bg,Fw,m7]
   have e1:(jq n (((own.length+a.size:Nat):Int)-1) (-1)).Tag=n.Tag:=rfl
   have n1:n.Tag≠1:=fun h=>by rw [h]at Y;simp [pk]at Y
   have n2:n.Tag≠2:=fun h=>by rw [h]at Y;simp [pk]at Y
   have hstep:dH kinds (jq n (((own.length+a.size:Nat):Int)-1) (-1)::rest) (own++w++[x])=if(kn n.Tag x 0).2 then dH kinds rest (own++w++[x]++[(kn n.Tag x 0).1])else some (0,201):=by
    rw [dH]
    rw [e1,aR (by simpa using n1),aR (by simpa using n2)]
    have eL:(jq n (((own.length+a.size:Nat):Int)-1) (-1)).L=((own.length+a.size:Nat):Int)-1:=rfl
    have eR:(jq n (((own.length+a.size:Nat):Int)-1) (-1)).R= -1:=rfl
    rw [eL,eR,lV (own++w).length (by simp;omega),wW (eg _),wH]
    simp only [Gb,bg]
    rw [aR (by decide)]
    unfold rA
    rw [e1,y7]
    simp only [bg]
    cases K:(kn n.Tag x 0).2 with
    |true=>
     simp only [sm,nV,lD,jL]
     rw [cK (by simp;omega)];rfl
    |false=>rfl
   rw [hstep]
   cases K:(kn n.Tag x 0).2 with
   |true=>exact .inr ⟨(kn n.Tag x 0).1,w++[x],by simp,by simp;omega,by simp⟩
   |false=>exact .inl ⟨by simp,by simp⟩
 |bi n a b iha ihb=>
  intro⟨⟨Y,X,d,h4⟩,ha,K⟩ ⟨hca,hcb⟩ rest own hl
  have hap:=a.size_pos
  have hbp:=b.size_pos
  simp only [Tr.flat,Tr.size,pD]at hl ⊢
  obtain⟨m,hm⟩: ∃m,m=jq n (((own.length+a.size:Nat):Int)-1) (((own.length+a.size+b.size:Nat):Int)-1):=⟨_,rfl⟩
  rw [<-hm]
  rcases iha ha hca (b.flat (own.length+a.size)++([m]++rest)) own (by omega)with⟨V,he⟩|⟨x,w,V,hw,he⟩
  ·exact .inl ⟨by rw [N7,V];rfl,by rw [he]⟩
  ·rw [he]
   have hl2:(own++w++[x]).length=own.length+a.size:=by simp;omega
   rw [<-hl2]
   rcases ihb K hcb ([m]++rest) (own++w++[x]) (by rw [hl2];omega)with⟨hy,he2⟩|⟨y,w2,hy,hw2,he2⟩
   ·exact .inl ⟨by rw [N7,V,hy];rfl,by rw [he2]⟩
   ·rw [he2]
    rw [N7,V,hy]
    simp only [bg,Fw,m7]
    have e1:m.Tag=n.Tag:=by rw [hm];rfl
    have eL:m.L=((own.length+a.size:Nat):Int)-1:=by rw [hm];rfl
    have eR:m.R=((own.length+a.size+b.size:Nat):Int)-1:=by rw [hm];rfl
    have n1:n.Tag≠1:=fun h=>by rw [h]at Y;simp [pk]at Y
    have n2:n.Tag≠2:=fun h=>by rw [h]at Y;simp [pk]at Y
    have hstep:dH kinds (m::rest) (own++w++[x]++w2++[y])=if(kn n.Tag x y).2 then dH kinds rest (own++w++[x]++w2++[y]++[(kn n.Tag x y).1])else some (0,201):=by
     rw [dH]
     rw [e1,aR (by simpa using n1),aR (by simpa using n2)]
     rw [eL,eR,lV (own++w).length (by simp;omega)]
     have g1:(own++w++[x]++w2++[y])[(own++w).length]? =some x:=by
      rw [pD,pD,wW (eg _),wH];rfl
     rw [g1]
     simp only [bg]
     rw [bh (by rw [hX];omega),lV (own++w++[x]++w2).length (by simp;omega)]
     have g2:(own++w++[x]++w2++[y])[(own++w++[x]++w2).length]? =some y:=by
      rw [wW (eg _),wH];rfl
     rw [g2]
     simp only [bg]
     unfold rA
     rw [e1,y7]
     simp only [bg]
     cases K:(kn n.Tag x y).2 with
     |true=>
      simp only [sm,nV,lD,jL]
      rw [cK (by simp;omega)];rfl
     |false=>rfl
    rw [hstep]
    cases K:(kn n.Tag x y).2 with
    |true=>exact .inr ⟨(kn n.Tag x y).1,w++[x]++w2++[y],by simp,by simp;omega,by simp⟩
    |false=>exact .inl ⟨by simp,by simp⟩
def rt(m:Nat)(ns:List ap):Bool:=ns.all fun n=> !((n.Tag==2)&&decide ((m:Int)<=n.Col))
def KQ(m:Nat)(n:ap)(ns:List ap):rt m (n::ns)=(!((n.Tag==2)&&decide ((m:Int)<=n.Col))&&rt m ns):=rfl
def CO(m:Nat)(t:Tr):t.wf-> ∀ae,rt m (t.flat ae)=true->Hb m t:=by
 induction t with
 |lf n=>
  intro _ ae h D
  simp only [rt,Tr.flat,Aq,List.all_nil,Bool.and_true]at h
  have e1:(jq n (-1) (-1)).Tag=n.Tag:=rfl
  have e2:(jq n (-1) (-1)).Col=n.Col:=rfl
  simp [e1,e2,D]at h
  exact h
 |un n a ih=>
  intro⟨_,ha⟩ ae h
  simp only [rt,Tr.flat,List.all_append,lq]at h
  exact ih ha ae h.1
 |bi n a b iha ihb=>
  intro⟨_,ha,K⟩ ae h
  simp only [rt,Tr.flat,List.all_append,lq]at h
  exact⟨iha ha ae h.1.1,ihb K _ h.1.2⟩
def Si(kinds:List Int):Bool:=kinds.all fun k=>decide (0<=k)&&decide (k<=3)
def Kl(k:Int)(ks:List Int):Si (k::ks)=((decide (0<=k)&&decide (k<=3))&&Si ks):=rfl
def Iq{kinds:List Int}(h:Si kinds=true){k:Int}(hk:k∈kinds):k4 k:=by
 have:=kQ.1 h k hk
 simp at this
 unfold k4;omega
def gh(e:aP)(kinds:List Int):Int×Int:=
 if my e.Nodes then if Si kinds then if rt kinds.length e.Nodes then match (ra e.Nodes).bind (kd kinds)with
  |some k=>(k,0)
  |none=>(0,201)else(0,2)else(0,2)else(0,200)
def Fo(e:aP)(kinds:List Int): ∀cs:List Int,m3 e kinds cs=if cs.all (fun c=>decide (c<(kinds.length:Int)))then pA e (jV kinds)else some (0,2)
 |[]=>by
  unfold m3
  cases pA e (jV kinds)<;>rfl
 |c::cs=>by
  unfold m3
  rw [Fo e kinds cs]
  by_cases h:(kinds.length:Int)<=c
  ·rw [bh (by simpa using h),aR (by simp;omega)]
  ·rw [aR (by simpa using h)]
   have:c<(kinds.length:Int):=by omega
   simp [this]
def m4(e:aP)(kinds:List Int)(hl:e.Nodes.length<=50000):nv e kinds=some (gh e kinds):=by
 unfold nv gh
 rw [zi e (by omega)]
 cases hr:my e.Nodes with
 |false=>rfl
 |true=>
  simp only [jL,bg]
  rw [aR (by decide)]
  have key: ∀ks:List Int,qQ e kinds ks=if Si ks then(vt e).bind (m3 e kinds)else some (0,2):=by
   intro ks
   induction ks with
   |nil=>rfl
   |cons k ks ih=>
    unfold qQ
    rw [ih]
    by_cases h:k<0\/3<k
    ·rw [bh (by simpa using h),aR (by simp [Si];omega)]
    ·rw [aR (by simpa using h)]
     have Y:(decide (0<=k)&&decide (k<=3))=true:=by simp;omega
     rw [Kl,Y,nC]
  rw [key]
  cases hk:Si kinds with
  |false=>rfl
  |true=>
   simp only [jL]
   obtain⟨cs,Y,X⟩:=IJ e hr
   rw [Y,bg,Fo]
   have hci:cs.all (fun c=>decide (c<(kinds.length:Int)))=rt kinds.length e.Nodes:=by
    rw [w9]
    simp only [kQ,hX,rt,CW,Bool.and_eq_false_iff,beq_eq_false_iff_ne,Nn]
    constructor
    ·intro h n hn
     by_cases D:n.Tag=2
     ·exact .inr (by have:=h _ ((X n.Col).2 ⟨n,hn,D,rfl⟩);omega)
     ·exact .inl D
    ·intro h c hc
     obtain⟨n,hn,D,rfl⟩:=(X c).1 hc
     rcases h n hn with h|h
     ·exact absurd D h
     ·omega
   rw [hci]
   cases hc:rt kinds.length e.Nodes with
   |false=>rfl
   |true=>
    simp only [jL]
    cases D:ra e.Nodes with
    |none=>unfold my at hr;rw [D]at hr;cases hr
    |some t=>
     obtain⟨hw,hN,hs⟩:=mR D
     have hct:=CO kinds.length t hw 0 (by rw [<-hN];exact hc)
     have:=PJ kinds (fun k=>Iq hk) t hw hct 0 [] [] (by simp;omega)
     rw [pM,<-hN]at this
     unfold pA
     rw [this]
     simp only [bg]
     cases kd kinds t with
     |none=>rfl
     |some k=>rfl
def rC(e:aP)(kinds:List Int):tp e kinds=some (gh e kinds):=by
 unfold tp gh
 rw [Er e]
 cases hr:my e.Nodes with
 |false=>rfl
 |true=>
  simp only [jL,bg,sm,nV,lD]
  have EH: ∀ns:List ap,px e kinds ns=if rt kinds.length ns then dH kinds e.Nodes []else some (0,2):=by
   intro ns
   induction ns with
   |nil=>rfl
   |cons n ns ih=>
    unfold px
    rw [ih,KQ]
    cases ((n.Tag==2)&&decide ((kinds.length:Int)<=n.Col))<;>simp
  have key: ∀ks:List Int,rz e kinds ks=if Si ks then px e kinds e.Nodes else some (0,2):=by
   intro ks
   induction ks with
   |nil=>rfl
   |cons k ks ih=>
    unfold rz
    rw [ih]
    by_cases h:k<0\/3<k
    ·rw [bh (by simpa using h),aR (by simp [Si];omega)]
    ·rw [aR (by simpa using h)]
     have Y:(decide (0<=k)&&decide (k<=3))=true:=by simp;omega
     rw [Kl,Y,nC]
  rw [key,EH]
  cases hk:Si kinds with
  |false=>rfl
  |true=>
   cases hc:rt kinds.length e.Nodes with
   |false=>rfl
   |true=>
    simp only [jL]
    cases D:ra e.Nodes with
    |none=>unfold my at hr;rw [D]at hr;cases hr
    |some t=>
     obtain⟨hw,hN,hs⟩:=mR D
     have hct:=CO kinds.length t hw 0 (by rw [<-hN];exact hc)
     have:=Ry kinds (fun k=>Iq hk) t hw hct [] [] (by simp;omega)
     rw [pM,uY,<-hN]at this
     simp only [bg]
     rcases this with⟨Y,X⟩|⟨k,w,Y,X,d⟩
     ·rw [Y,X]
     ·rw [Y,d]
      unfold dH
      have hls:t.size<=1000:=hs
      rw [m7,lV w.length (by rw [eP (by simp<;>omega) (by simp<;>omega)];simp),wW (eg _),wH]
      rfl

def pe{α:Type}{xs tl:List α}{i:Nat}{y:α}(h:xs.drop i=y::tl):gR xs (i:Int)=some y/\i<xs.length/\xs.drop (i+1)=tl:=by
 have hi:i<xs.length:=by
  rcases nS i xs.length with Y|Y
  ·exact Y
  ·rw [Fz Y]at h;cases h
 rw [BE hi]at h
 injection h with Y X
 exact⟨by rw [eU,tM hi,Y],hi,X⟩
def E3{α:Type}{xs:List α}{i:Nat}(h:xs.drop i=[]):xs.length<=i:=Jd.1 h
def vD{f:Int->Option Bool}{g:Int->Bool}(hf: ∀v,f v=some (g v)): ∀(l:List Int) (i:Nat),∃j:Int,fU f l i=some j/\decide (0<=j)=l.any g
 |[],i=>⟨-1,rfl,rfl⟩
 |e::l,i=>by
  unfold fU
  rw [hf,bg]
  cases h:g e with
  |true=>exact⟨(i:Int),by simp,by simp [h]⟩
  |false=>
   obtain⟨j,Y,X⟩:=vD hf l (i+1)
   exact⟨j,by simpa using Y,by rw [X];simp [h]⟩
def ku{f:Int->Option Bool}{g:Int->Bool}(hf: ∀v,f v=some (g v))(l:List Int):eM l f=some (l.any g):=by
 unfold eM lT
 obtain⟨j,Y,X⟩:=vD hf l 0
 rw [Y,bg,X]
def vC{f:kg->Option Bool}{g:kg->Bool}(hf: ∀v,f v=some (g v)): ∀(l:List kg) (i:Nat),∃j:Int,dM f l i=some j/\decide (0<=j)=l.any g
 |[],i=>⟨-1,rfl,rfl⟩
 |e::l,i=>by
  unfold dM
  rw [hf,bg]
  cases h:g e with
  |true=>exact⟨(i:Int),by simp,by simp [h]⟩
  |false=>
   obtain⟨j,Y,X⟩:=vC hf l (i+1)
   exact⟨j,by simpa using Y,by rw [X];simp [h]⟩
def sk{f:kg->Option Bool}{g:kg->Bool}(hf: ∀v,f v=some (g v))(l:List kg):fc l f=some (l.any g):=by
 unfold fc iE
 obtain⟨j,Y,X⟩:=vC hf l 0
 rw [Y,bg,X]
def sP(l:List Int)(h:l.length<=68719476736):dO l=some l:=by
 unfold dO
 rw [cK (by simpa using h)];rfl
def VU(n:Int)(h0:0<=n)(h:n<=68719476736):mg n=some []:=by
 unfold mg mX
 rw [aR (by simp;omega)]
 have e:IntKind.i64.wrap (n-IntKind.i64.wrap ((0:Int)-0))=n:=by
  rw [eP (n:=(0:Int)-0) (by omega) (by omega),eP (by omega) (by omega)];omega
 rw [e]
 by_cases hp:0<n
 ·rw [bh (by simpa using hp)]
  unfold gt0 vI
  rw [bh hp]
  simp only [bg]
  rw [bh ⟨h0,h⟩]
  simp only [bg]
  rw [show dV (List.replicate n.toNat (0:Int)) 0 0=some []from by unfold dV;rw [bh (by simp;omega)];simp]
  rfl
 ·rw [aR (by simpa using hp)];rfl
def Fs(a b:List Int)(ha:a.length<=8000)(K:b.length<=8000):ji [a,b]=some (a++b):=by
 unfold ji
 simp only [jB]
 rw [eP (n:=(0:Int)+(a.length:Int)) (by omega) (by omega),aR (by simp),eP (by omega) (by omega),aR (by simp;omega),VU _ (by omega) (by omega)]
 simp only [bg,jA]
 rw [cK (by simp;omega)]
 simp only [bg,m7]
 rw [cK (by omega)]
 rfl
structure i0(n:aa):Prop where
 cond:n.Cond.Nodes.length<=5000
 kinds:n.Kinds.length<=5000
 keys:n.Keys.length<=5000
 aggs:n.Aggs.length<=5000
 items:n.Items.length<=5000
 order:n.Order.length<=5000
 args: ∀g∈n.Aggs,g.Arg.Nodes.length<=5000
 exprs: ∀e∈n.Items,e.Nodes.length<=5000
def HG(e:aP)(kinds:List Int):Bool:=(gh e kinds).2==0&&((gh e kinds).1==1||(gh e kinds).1==0)
def xr(e:aP)(kinds:List Int):ug e kinds=some (HG e kinds):=by
 unfold ug HG
 rw [rC e kinds]
 simp only [bg,Bool.or_comm]
def M8(a:eS)(kinds:List Int):Int×Bool:=(m9 a kinds).getD (0,false)
def zG(a:eS)(kinds:List Int):m9 a kinds=some (M8 a kinds):=by
 unfold M8 m9
 rw [rC]
 simp only [bg]
 repeat' split
 all_goals rfl
def QK(a:List Int)(e:Int):Int:=(a[e.toNat]?).getD 0
def vj(a:List Int)(e:Int):Bool:=decide (e<0)||decide ((a.length:Int)<=e)
def Mu{a:List Int}{e:Int}(h:vj a e=false):gR a e=some (QK a e):=by
 simp [vj]at h
 rw [lV e.toNat (by omega),tM (by omega)]
 unfold QK
 rw [tM (by omega)];rfl
def HD(x y:Int):Int:=if x=0 then y else x
def C2(p:Int×Int):Bool:=(p.2==HD p.1 p.2)||p.2==0
end Go.Proofs.YtdohlidddcgfjaaGreat

