/- cT of this claim: L3, L4. -/
import Derived.Test.YtdohlidddcgfjaaGreatFaQ1
set_option linter.all false
namespace Go.Proofs.YtdohlidddcgfjaaGreat
open Go

theorem H4(p:List Int)(hp:p.length≤8000)(i:Nat)(y:List Int)(hy:i+y.length=p.length): ∀(k i1:Nat) (x:List Int) (x1:Nat),i1+k=y.length→0<i1→x.length=p.length→x1+1≤i+i1→x.drop (i+i1-1)=p.drop (i+i1-1)→
  em i y k i1 x (x1:Int)=some (x.take x1++v7 ((p[i+i1-1]?).getD 0) (p.drop (i+i1))):=by
 intro k
 induction k with
 |zero=>
  intro i1 x x1 h1 h0 hx h2 h3
  simp only [em]
  have hx1:x1≤x.length:=by omega
  rw [wi hx1 (eE _)]
  simp only [bj,xN,AJ]
  rw [show((0:Int))=((0:Nat):Int)from rfl,wi (nU _) (by simp;omega)]
  simp only [bj,xd]
  have hn:p.drop (i+i1)=[]:=yU (by omega)
  rw [hn,GD,t8,Ag (by simp;omega),z8,Nat.min_self]
 |succ k ih=>
  intro i1 x x1 h1 h0 hx h2 h3
  have e1:x[i+i1]? =p[i+i1]? :=by
   have:=congrArg (fun l:List Int=>l[1]?) h3
   simp only [wR]at this
   rwa [show i+i1-1+1=i+i1 from by omega]at this
  have e0:x[i+i1-1]? =p[i+i1-1]? :=by
   have:=congrArg (fun l:List Int=>l[0]?) h3
   simpa only [wR,zD] using this
  have hlt:i+i1<p.length:=by omega
  have g1:CE x (i:Int) y.length (i1:Int)=some p[i+i1]:=by
   unfold CE
   rw [bq (by omega),show(i:Int)+(i1:Int)=((i+i1:Nat):Int)from by omega,dJ,e1,kW hlt]
  have g0:CE x (i:Int) y.length (IntKind.i64.wrap ((i1:Int)-1))=some p[i+i1-1]:=by
   rw [eC (by omega) (by omega)]
   unfold CE
   rw [bq (by omega),show(i:Int)+((i1:Int)-1)=((i+i1-1:Nat):Int)from by omega,dJ,e0,kW (by omega)]
  have hd:p.drop (i+i1)=p[i+i1]::p.drop (i+i1+1):=xf hlt
  have hp1:(p[i+i1-1]?).getD 0=p[i+i1-1]:=by rw [kW (by omega)];rfl
  simp only [em,g1,g0,bj]
  rw [hd,hp1]
  by_cases hx2:p[i+i1]=p[i+i1-1]
  ·rw [aW (by simp [hx2])]
   have h3' :x.drop (i+(i1+1)-1)=p.drop (i+(i1+1)-1):=by
    have:=congrArg (List.drop 1) h3
    rwa [t6,t6,show i+i1-1+1=i+(i1+1)-1 from by omega]at this
   rw [ih (i1+1) x x1 (by omega) (by omega) hx (by omega) h3']
   rw [Du hx2,show i+(i1+1)-1=i+i1 from by omega,kW hlt,show i+(i1+1)=i+i1+1 from by omega]
   rfl
  ·rw [bq (by simp [hx2]),dJ,kW (by omega)]
   simp only [bj,AJ]
   rw [eC (by omega) (by omega),show((x1:Int)+1)=((x1+1:Nat):Int)from by omega]
   have h3' :(x.set x1 p[i+i1]).drop (i+(i1+1)-1)=p.drop (i+(i1+1)-1):=by
    rw [List.drop_set_of_lt (by omega)]
    have:=congrArg (List.drop 1) h3
    rwa [t6,t6,show i+i1-1+1=i+(i1+1)-1 from by omega]at this
   rw [ih (i1+1) _ (x1+1) (by omega) (by omega) (by simpa using hx) (by omega) h3']
   rw [Jb hx2,show i+(i1+1)-1=i+i1 from by omega,kW hlt,show i+(i1+1)=i+i1+1 from by omega]
   have ht:(x.set x1 p[i+i1]).take (x1+1)=x.take x1++[p[i+i1]]:=by
    rw [List.take_succ_eq_append_getElem (by simp;omega),List.take_set_of_le (by omega)]
    simp
   rw [ht]
   simp
theorem H5(p:List Int)(hp:p.length≤8000):jI p=some (Ja p):=by
 unfold jI
 by_cases h2:p.length<2
 ·rw [bq (by simp;omega)]
  match p,h2 with
  |[],_=>rfl
  |[x],_=>rfl
 ·rw [aW (by simp;omega)]
  have key: ∀(l:List Int) (i:Nat),p.drop i=l→0<i→i≤p.length→Ja p=p.take i++v7 ((p[i-1]?).getD 0) (p.drop i)→fg p l i=some (Ja p):=by
   intro l
   induction l with
   |nil=>
    intro i h1 h0 hle h3
    have:=ub.1 h1
    simp only [fg]
    rw [h3,h1,tu (by omega),GD,t8]
   |cons x t ih=>
    intro i h1 h0 hle h3
    have hi:i<p.length:=by
     rcases oZ i p.length with h|h
     ·exact h
     ·rw [yU h]at h1;cases h1
    have hx:x=p[i]:=by rw [xf hi]at h1;exact(z7 h1).1.symm
    have ht:p.drop (i+1)=t:=by rw [←t6,h1];rfl
    have hp1:(p[i-1]?).getD 0=p[i-1]:=by rw [kW (by omega)];rfl
    simp only [fg]
    rw [eC (by omega) (by omega),show(i:Int)-1=((i-1:Nat):Int)from by omega,dJ,kW (by omega)]
    simp only [bj]
    by_cases he:x=p[i-1]
    ·rw [bq (by simp [he])]
     rw [wi hle (eE _)]
     simp only [bj,xN]
     rw [H4 p hp i (p.drop i) (by simp;omega) _ 1 p i (by simp;omega) (by omega) rfl (by omega) (by simp)]
     rw [h3,h1,hp1,Du he,←ht,hx]
     rw [show i+1-1=i from by omega,kW hi];rfl
    ·rw [aW (by simp [he])]
     refine ih (i+1) ht (by omega) (by omega) ?_
     rw [h3,h1,hp1,Jb he,List.take_succ_eq_append_getElem hi,←ht,hx,show i+1-1=i from by omega,kW hi]
     rw [nh];rfl
  have hpc:p=p[0]::p.drop 1:=by
   have:=xf (l:=p) (i:=0) (by omega)
   simpa using this
  refine key (p.drop 1) 1 rfl (by omega) (by omega) ?_
  have e:(p[1-1]?).getD 0=p[0]:=by simp [kW (show 0<p.length by omega)]
  rw [e]
  conv=>lhs;rw [hpc]
  have e2:p.take 1=[p[0]]:=by
   conv=>lhs;rw [hpc]
   rfl
  rw [e2];rfl

theorem J6(l:List Int)(z:Int):z∈sortI l↔z∈l:=by unfold sortI;simp
theorem xH: ∀(ns:List bC) (out:List Int),out.length+ns.length≤8000→ ∃cs,mg ns out=some cs∧ ∀c,c∈cs↔c∈out∨ ∃n∈ns,n.Tag=2∧n.Col=c
 |[],out,h=>by
  unfold mg AZ
  rw [bq (by simp at h;omega)]
  simp only [bj]
  rw [H5 _ (by rw [y6];simpa using h)]
  exact⟨_,rfl,fun c=>by rw [J7,J6];simp⟩
 |n::ns,out,h=>by
  simp only [nT]at h
  unfold mg
  by_cases ht:n.Tag=2
  ·rw [bq (by simp [ht]),bH (by simp;omega)]
   simp only [bj]
   obtain⟨cs,h1,h2⟩:=xH ns (out++[n.Col]) (by simp;omega)
   exact⟨cs,h1,fun c=>by rw [h2];simp [ht,or_assoc,eq_comm]⟩
  ·rw [aW (by simp [ht])]
   obtain⟨cs,h1,h2⟩:=xH ns out (by omega)
   exact⟨cs,h1,fun c=>by rw [h2];simp [ht]⟩
theorem Ez(e:bv)(h:np e.Nodes=true): ∃cs,tR e=some cs∧ ∀c,c∈cs↔ ∃n∈e.Nodes,n.Tag=2∧n.Col=c:=by
 have hl:=Hr h
 unfold tR
 rw [w9 e (by omega),h]
 obtain⟨cs,h1,h2⟩:=xH e.Nodes [] (by simp;omega)
 exact⟨cs,by simpa using h1,fun c=>by rw [h2];simp⟩
def kn(tag l r:Int):Int×Bool:=(qa tag l r).getD (0,false)
theorem w3(tag l r:Int):qa tag l r=some (kn tag l r):=by
 unfold kn qa o6
 simp only [bj]
 repeat' split
 all_goals simp
def k4(k:Int):Prop:=k=0∨k=1∨k=2∨k=3
theorem Pv(tag l r:Int):k4 (kn tag l r).1:=by
 unfold kn qa o6
 simp only [bj]
 repeat' split
 all_goals simp [k4]
theorem Ii(kinds:List Int)(n:bC)(x:Int)(hx:k4 x)(hk:pk n.Tag=some 1):je kinds n [x]=some (if(kn n.Tag x 0).2 then((kn n.Tag x 0).1,0)else(0,201)):=by
 obtain⟨tag,L,R,col,v⟩:=n
 have ht:tag=4∨tag=5∨tag=6∨tag=7:=by
  unfold pk at hk
  repeat' split at hk
  all_goals simp at hk
  rename_i h
  have h:4≤tag∧tag≤7:=h
  omega
 rcases ht with rfl|rfl|rfl|rfl<;>rcases hx with rfl|rfl|rfl|rfl<;>rfl
theorem Ih(kinds:List Int)(n:bC)(x y:Int)(hx:k4 x)(hy:k4 y)(hk:pk n.Tag=some 2):je kinds n [x,y]=some (if(kn n.Tag x y).2 then((kn n.Tag x y).1,0)else(0,201)):=by
 obtain⟨tag,L,R,col,v⟩:=n
 have ht:tag=12∨tag=13∨tag=14∨tag=15∨tag=16∨tag=17∨tag=18∨tag=19∨tag=20∨tag=21∨tag=22∨tag=23:=by
  unfold pk at hk
  repeat' split at hk
  all_goals simp at hk
  rename_i h
  have h:12≤tag∧tag≤23:=h
  omega
 rcases ht with rfl|rfl|rfl|rfl|rfl|rfl|rfl|rfl|rfl|rfl|rfl|rfl<;>rcases hx with rfl|rfl|rfl|rfl<;>rcases hy with rfl|rfl|rfl|rfl<;>rfl
def kd(kinds:List Int):Tr→Option Int
 | .lf n=>if n.Tag=1 then some n.Value.Kind else some ((kinds[n.Col.toNat]?).getD 0)
 | .un n a=>(kd kinds a).bind fun x=>if(kn n.Tag x 0).2 then some (kn n.Tag x 0).1 else none
 | .bi n a b=>(kd kinds a).bind fun x=>(kd kinds b).bind fun y=>if(kn n.Tag x y).2 then some (kn n.Tag x y).1 else none
theorem LT(kinds:List Int)(n:bC)(a:Tr):kd kinds (.un n a)=(kd kinds a).bind fun x=>if(kn n.Tag x 0).2 then some (kn n.Tag x 0).1 else none:=rfl
theorem IT(kinds:List Int)(n:bC)(a b:Tr):kd kinds (.bi n a b)=(kd kinds a).bind fun x=>(kd kinds b).bind fun y=>if(kn n.Tag x y).2 then some (kn n.Tag x y).1 else none:=rfl
def Dv(m:Nat):Tr→Prop
 | .lf n=>n.Tag=2→n.Col<m
 | .un _ a=>Dv m a
 | .bi _ a b=>Dv m a∧Dv m b
theorem pk0{tag:Int}(h:pk tag=some 0):tag=1∨tag=2:=by
 unfold pk at h
 repeat' split at h
 all_goals simp at h
 assumption
theorem U0{n:bC}(h:BT n=true)(ht:n.Tag=1):vF n.Value=true:=by
 have h2:=jx n
 rw [h]at h2
 unfold jK at h2
 rw [bq (by simp [ht]),pD]at h2
 simp at h2
 exact h2.1
theorem S5{n:bC}(h:BT n=true)(ht:n.Tag=2):0≤n.Col∧n.Col<16:=by
 have h2:=jx n
 rw [h]at h2
 unfold jK at h2
 rw [aW (by simp [ht]),bq (by simp [ht])]at h2
 simp at h2
 exact⟨h2.1.2,h2.2⟩
theorem IS{kinds:List Int}(hk: ∀k∈kinds,k4 k): ∀(t:Tr),t.wf→ ∀{k},kd kinds t=some k→k4 k
 | .lf n,⟨h1,h2,_,_⟩,k,h=>by
  unfold kd at h
  split at h
  ·rename_i ht
   have:=FQ (U0 h2 ht)
   cases h;unfold k4;omega
  ·injection h with h
   subst h
   cases hc:kinds[n.Col.toNat]? with
   |none=>exact .inl rfl
   |some z=>exact hk z (qM hc)
 | .un n a,_,k,h=>by
  unfold kd at h
  cases ha:kd kinds a with
  |none=>rw [ha]at h;cases h
  |some x=>
   rw [ha,bj]at h
   split at h
   ·cases h;exact Pv ..
   ·cases h
 | .bi n a b,_,k,h=>by
  unfold kd at h
  cases ha:kd kinds a with
  |none=>rw [ha]at h;cases h
  |some x=>
   cases hb:kd kinds b with
   |none=>rw [ha,hb]at h;cases h
   |some y=>
    rw [ha,hb]at h
    simp only [bj]at h
    split at h
    ·cases h;exact Pv ..
    ·cases h
theorem Hw(stack l:List Int)(h:stack.length+l.length≤100000):oU (stack++l) (l.length:Int)=some (l,stack):=by
 unfold oU dY
 have e:IntKind.i64.wrap (((stack++l).length:Int)-(l.length:Int))=(stack.length:Int):=by
  rw [lM,eC (by omega) (by omega)];omega
 rw [e,jS stack.length (stack++l).length rfl rfl (by simp) (eE _)]
 simp only [bj,xN,KX (eE _),List.drop_length,lL]
 rw [bH (by simp;omega)]
 simp only [bj,lL]
 rw [jS (i:=0) 0 stack.length rfl rfl (nU _) (by simp)]
 simp
theorem FS(stack:List Int){b:Int}(h:b≠0):lF b stack=some (0,b):=by
 unfold lF;rw [bq (by simpa using h)]
theorem tn{tag:Int}{k:Nat}(h:pk tag=some k):qr tag=some (k:Int):=by
 rw [w8];unfold Ec;rw [h]
theorem J0(kinds:List Int)(hk: ∀k∈kinds,k4 k)(t:Tr):t.wf→Dv kinds.length t→ ∀(s:Nat) (rest:List bC) (stack:List Int),stack.length+t.size≤50000→
  gS (je kinds) (t.flat s++rest) 0 stack=match kd kinds t with
   |some k=>gS (je kinds) rest 0 (stack++[k])
   |none=>some (0,201):=by
 induction t with
 |lf n=>
  intro⟨h1,h2,h3,h4⟩ hc s rest stack hl
  simp only [Tr.flat,Tr.size,DC,lL]at hl ⊢
  rw [gS]
  have e1:(kc n (-1) (-1)).Tag=n.Tag:=rfl
  rw [e1,tn h1]
  have h0:=Hw stack [] (by simp;omega)
  simp only [t8,ua]at h0
  simp only [bj]
  rw [h0]
  simp only [bj]
  have hv:je kinds (kc n (-1) (-1)) []=(kd kinds (.lf n)).map (fun k=>(k,(0:Int))):=by
   unfold je lH kd
   simp only [e1]
   rcases pk0 h1 with ht|ht
   ·rw [bq (by simp [ht]),bq ht];rfl
   ·rw [aW (by simp [ht]),bq (by simp [ht]),aW (by simp [ht])]
    have hb:=S5 h2 ht
    have hm:n.Col<kinds.length:=hc ht
    have e2:(kc n (-1) (-1)).Col=n.Col:=rfl
    rw [e2,lC n.Col.toNat (by omega),kW (by omega)]
    rfl
  rw [hv]
  have: ∃k,kd kinds (.lf n)=some k:=by unfold kd;split<;>exact⟨_,rfl⟩
  obtain⟨k,hk1⟩:=this
  rw [hk1]
  simp only [Option.map_some,bj]
  rw [aW (by simp),bH (by simp;omega)]
  rfl
 |un n a ih=>
  intro⟨⟨h1,h2,h3,h4⟩,ha⟩ hc s rest stack hl
  simp only [Tr.flat,Tr.size,nh]at hl ⊢
  rw [LT,ih ha hc s _ stack (by omega)]
  cases hx:kd kinds a with
  |none=>rfl
  |some x=>
   have hx4:=IS hk a ha hx
   simp only [bj,DC,lL]
   rw [gS]
   have e1:(kc n (((s+a.size:Nat):Int)-1) (-1)).Tag=n.Tag:=rfl
   rw [e1,tn h1]
   have h0:=Hw stack [x] (by simp;omega)
   simp only [bj]
   have e0:(([x]:List Int).length:Int)=((1:Nat):Int):=rfl
   rw [←e0,h0]
   simp only [bj]
   rw [Ii kinds _ x hx4 (by rw [e1];exact h1),e1]
   cases hb:(kn n.Tag x 0).2 with
   |true=>
    simp only [ow,bj]
    rw [aW (by simp),bH (by simp;omega)]
    rfl
   |false=>
    simp only [vb,qK,bj]
    rw [bq (by decide),FS _ (by decide)]
 |bi n a b iha ihb=>
  intro⟨⟨h1,h2,h3,h4⟩,ha,hb⟩ ⟨hca,hcb⟩ s rest stack hl
  simp only [Tr.flat,Tr.size,nh]at hl ⊢
  rw [IT,iha ha hca s _ stack (by omega)]
  cases hx:kd kinds a with
  |none=>rfl
  |some x=>
   have hx4:=IS hk a ha hx
   simp only [bj]
   rw [ihb hb hcb (s+a.size) _ (stack++[x]) (by have:=a.size_pos;simp;omega)]
   cases hy:kd kinds b with
   |none=>rfl
   |some y=>
    have hy4:=IS hk b hb hy
    have hap:=a.size_pos
    simp only [bj,DC,lL]
    rw [gS]
    have e1:(kc n (((s+a.size:Nat):Int)-1) (((s+a.size+b.size:Nat):Int)-1)).Tag=n.Tag:=rfl
    rw [e1,tn h1]
    have h0:=Hw stack [x,y] (by simp;omega)
    simp only [bj]
    have e0:(([x,y]:List Int).length:Int)=((2:Nat):Int):=rfl
    have e9:stack++[x]++[y]=stack++[x,y]:=by simp
    rw [←e0,e9,h0]
    simp only [bj]
    rw [Ih kinds _ x y hx4 hy4 (by rw [e1];exact h1),e1]
    cases hb:(kn n.Tag x y).2 with
    |true=>
     simp only [ow,bj]
     rw [aW (by simp),bH (by simp;omega)]
     rfl
    |false=>
     simp only [vb,qK,bj]
     rw [bq (by decide),FS _ (by decide)]
theorem Lt(kinds:List Int)(hk: ∀k∈kinds,k4 k)(t:Tr):t.wf→Dv kinds.length t→ ∀(rest:List bC) (own:List Int),own.length+t.size≤50000→
  (kd kinds t=none∧dm kinds (t.flat own.length++rest) own=some (0,201))∨
  (∃k w,kd kinds t=some k∧w.length+1=t.size∧dm kinds (t.flat own.length++rest) own=dm kinds rest (own++w++[k])):=by
 induction t with
 |lf n=>
  intro⟨h1,h2,h3,h4⟩ hc rest own hl
  simp only [Tr.flat,Tr.size,DC,lL]at hl ⊢
  refine .inr ?_
  have e1:(kc n (-1) (-1)).Tag=n.Tag:=rfl
  unfold kd
  rcases pk0 h1 with ht|ht
  ·refine⟨_,[],bq ht,rfl,?_⟩
   rw [dm]
   rw [e1,bq (by simp [ht]),bH (by simp;omega)]
   simp only [bj,t8]
   rfl
  ·refine⟨_,[],aW (by simp [ht]),rfl,?_⟩
   have hb:=S5 h2 ht
   have hm:n.Col<kinds.length:=hc ht
   have e2:(kc n (-1) (-1)).Col=n.Col:=rfl
   rw [dm]
   rw [e1,aW (by simp [ht]),bq (by simp [ht]),e2,lC n.Col.toNat (by omega),kW (by omega)]
   simp only [bj,t8,Option.getD_some]
   rw [bH (by simp;omega)]
   rfl
 |un n a ih=>
  intro⟨⟨h1,h2,h3,h4⟩,ha⟩ hc rest own hl
  have hap:=a.size_pos
  simp only [Tr.flat,Tr.size,nh]at hl ⊢
  rcases ih ha hc ([kc n (((own.length+a.size:Nat):Int)-1) (-1)]++rest) own (by omega)with⟨hx,he⟩|⟨x,w,hx,hw,he⟩
  ·exact .inl ⟨by rw [LT,hx];rfl,by rw [he]⟩
  ·rw [he]
   rw [LT,hx]
   simp only [bj,DC,lL]
   have e1:(kc n (((own.length+a.size:Nat):Int)-1) (-1)).Tag=n.Tag:=rfl
   have n1:n.Tag≠1:=fun h=>by rw [h]at h1;simp [pk]at h1
   have n2:n.Tag≠2:=fun h=>by rw [h]at h1;simp [pk]at h1
   have hstep:dm kinds (kc n (((own.length+a.size:Nat):Int)-1) (-1)::rest) (own++w++[x])=if(kn n.Tag x 0).2 then dm kinds rest (own++w++[x]++[(kn n.Tag x 0).1])else some (0,201):=by
    rw [dm]
    rw [e1,aW (by simpa using n1),aW (by simpa using n2)]
    have eL:(kc n (((own.length+a.size:Nat):Int)-1) (-1)).L=((own.length+a.size:Nat):Int)-1:=rfl
    have eR:(kc n (((own.length+a.size:Nat):Int)-1) (-1)).R= -1:=rfl
    rw [eL,eR,lC (own++w).length (by simp;omega),ve (eE _),vg]
    simp only [E4,bj]
    rw [aW (by decide)]
    unfold oF
    rw [e1,w3]
    simp only [bj]
    cases hb:(kn n.Tag x 0).2 with
    |true=>
     simp only [uY,vb,qK,ow]
     rw [bH (by simp;omega)];rfl
    |false=>rfl
   rw [hstep]
   cases hb:(kn n.Tag x 0).2 with
   |true=>exact .inr ⟨(kn n.Tag x 0).1,w++[x],by simp,by simp;omega,by simp⟩
   |false=>exact .inl ⟨by simp,by simp⟩
 |bi n a b iha ihb=>
  intro⟨⟨h1,h2,h3,h4⟩,ha,hb⟩ ⟨hca,hcb⟩ rest own hl
  have hap:=a.size_pos
  have hbp:=b.size_pos
  simp only [Tr.flat,Tr.size,nh]at hl ⊢
  obtain⟨m,hm⟩: ∃m,m=kc n (((own.length+a.size:Nat):Int)-1) (((own.length+a.size+b.size:Nat):Int)-1):=⟨_,rfl⟩
  rw [←hm]
  rcases iha ha hca (b.flat (own.length+a.size)++([m]++rest)) own (by omega)with⟨hx,he⟩|⟨x,w,hx,hw,he⟩
  ·exact .inl ⟨by rw [IT,hx];rfl,by rw [he]⟩
  ·rw [he]
   have hl2:(own++w++[x]).length=own.length+a.size:=by simp;omega
   rw [←hl2]
   rcases ihb hb hcb ([m]++rest) (own++w++[x]) (by rw [hl2];omega)with⟨hy,he2⟩|⟨y,w2,hy,hw2,he2⟩
   ·exact .inl ⟨by rw [IT,hx,hy];rfl,by rw [he2]⟩
   ·rw [he2]
    rw [IT,hx,hy]
    simp only [bj,DC,lL]
    have e1:m.Tag=n.Tag:=by rw [hm];rfl
    have eL:m.L=((own.length+a.size:Nat):Int)-1:=by rw [hm];rfl
    have eR:m.R=((own.length+a.size+b.size:Nat):Int)-1:=by rw [hm];rfl
    have n1:n.Tag≠1:=fun h=>by rw [h]at h1;simp [pk]at h1
    have n2:n.Tag≠2:=fun h=>by rw [h]at h1;simp [pk]at h1
    have hstep:dm kinds (m::rest) (own++w++[x]++w2++[y])=if(kn n.Tag x y).2 then dm kinds rest (own++w++[x]++w2++[y]++[(kn n.Tag x y).1])else some (0,201):=by
     rw [dm]
     rw [e1,aW (by simpa using n1),aW (by simpa using n2)]
     rw [eL,eR,lC (own++w).length (by simp;omega)]
     have g1:(own++w++[x]++w2++[y])[(own++w).length]? =some x:=by
      rw [nh,nh,ve (eE _),vg];rfl
     rw [g1]
     simp only [bj]
     rw [bq (by rw [rl];omega),lC (own++w++[x]++w2).length (by simp;omega)]
     have g2:(own++w++[x]++w2++[y])[(own++w++[x]++w2).length]? =some y:=by
      rw [ve (eE _),vg];rfl
     rw [g2]
     simp only [bj]
     unfold oF
     rw [e1,w3]
     simp only [bj]
     cases hb:(kn n.Tag x y).2 with
     |true=>
      simp only [uY,vb,qK,ow]
      rw [bH (by simp;omega)];rfl
     |false=>rfl
    rw [hstep]
    cases hb:(kn n.Tag x y).2 with
    |true=>exact .inr ⟨(kn n.Tag x y).1,w++[x]++w2++[y],by simp,by simp;omega,by simp⟩
    |false=>exact .inl ⟨by simp,by simp⟩
def qt(m:Nat)(ns:List bC):Bool:=ns.all fun n=> !((n.Tag==2)&&decide ((m:Int)≤n.Col))
theorem GG(m:Nat)(n:bC)(ns:List bC):qt m (n::ns)=(!((n.Tag==2)&&decide ((m:Int)≤n.Col))&&qt m ns):=rfl
theorem zX(m:Nat)(t:Tr):t.wf→ ∀s,qt m (t.flat s)=true→Dv m t:=by
 induction t with
 |lf n=>
  intro _ s h ht
  simp only [qt,Tr.flat,vi,List.all_nil,Bool.and_true]at h
  have e1:(kc n (-1) (-1)).Tag=n.Tag:=rfl
  have e2:(kc n (-1) (-1)).Col=n.Col:=rfl
  simp [e1,e2,ht]at h
  exact h
 |un n a ih=>
  intro⟨_,ha⟩ s h
  simp only [qt,Tr.flat,List.all_append,gX]at h
  exact ih ha s h.1
 |bi n a b iha ihb=>
  intro⟨_,ha,hb⟩ s h
  simp only [qt,Tr.flat,List.all_append,gX]at h
  exact⟨iha ha s h.1.1,ihb hb _ h.1.2⟩
def LU(kinds:List Int):Bool:=kinds.all fun k=>decide (0≤k)&&decide (k≤3)
theorem Gd(k:Int)(ks:List Int):LU (k::ks)=((decide (0≤k)&&decide (k≤3))&&LU ks):=rfl
theorem Ei{kinds:List Int}(h:LU kinds=true){k:Int}(hk:k∈kinds):k4 k:=by
 have:=pq.1 h k hk
 simp at this
 unfold k4;omega
def fO(e:bv)(kinds:List Int):Int×Int:=
 if np e.Nodes then if LU kinds then if qt kinds.length e.Nodes then match (p7 e.Nodes).bind (kd kinds)with
  |some k=>(k,0)
  |none=>(0,201)else(0,2)else(0,2)else(0,200)
theorem B5(e:bv)(kinds:List Int): ∀cs:List Int,me e kinds cs=if cs.all (fun c=>decide (c<(kinds.length:Int)))then oL e (je kinds)else some (0,2)
 |[]=>by
  unfold me
  cases oL e (je kinds)<;>rfl
 |c::cs=>by
  unfold me
  rw [B5 e kinds cs]
  by_cases h:(kinds.length:Int)≤c
  ·rw [bq (by simpa using h),aW (by simp;omega)]
  ·rw [aW (by simpa using h)]
   have:c<(kinds.length:Int):=by omega
   simp [this]
theorem mf(e:bv)(kinds:List Int)(hl:e.Nodes.length≤50000):mV e kinds=some (fO e kinds):=by
 unfold mV fO
 rw [w9 e (by omega)]
 cases hr:np e.Nodes with
 |false=>rfl
 |true=>
  simp only [ow,bj]
  rw [aW (by decide)]
  have key: ∀ks:List Int,pO e kinds ks=if LU ks then(tR e).bind (me e kinds)else some (0,2):=by
   intro ks
   induction ks with
   |nil=>rfl
   |cons k ks ih=>
    unfold pO
    rw [ih]
    by_cases h:k<0∨3<k
    ·rw [bq (by simpa using h),aW (by simp [LU];omega)]
    ·rw [aW (by simpa using h)]
     have h1:(decide (0≤k)&&decide (k≤3))=true:=by simp;omega
     rw [Gd,h1,mZ]
  rw [key]
  cases hk:LU kinds with
  |false=>rfl
  |true=>
   simp only [ow]
   obtain⟨cs,h1,h2⟩:=Ez e hr
   rw [h1,bj,B5]
   have hci:cs.all (fun c=>decide (c<(kinds.length:Int)))=qt kinds.length e.Nodes:=by
    rw [pX]
    simp only [pq,rl,qt,DD,Bool.and_eq_false_iff,beq_eq_false_iff_ne,Ip]
    constructor
    ·intro h n hn
     by_cases ht:n.Tag=2
     ·exact .inr (by have:=h _ ((h2 n.Col).2 ⟨n,hn,ht,rfl⟩);omega)
     ·exact .inl ht
    ·intro h c hc
     obtain⟨n,hn,ht,rfl⟩:=(h2 c).1 hc
     rcases h n hn with h|h
     ·exact absurd ht h
     ·omega
   rw [hci]
   cases hc:qt kinds.length e.Nodes with
   |false=>rfl
   |true=>
    simp only [ow]
    cases ht:p7 e.Nodes with
    |none=>unfold np at hr;rw [ht]at hr;cases hr
    |some t=>
     obtain⟨hw,hN,hs⟩:=nl ht
     have hct:=zX kinds.length t hw 0 (by rw [←hN];exact hc)
     have:=J0 kinds (fun k=>Ei hk) t hw hct 0 [] [] (by simp;omega)
     rw [t8,←hN]at this
     unfold oL
     rw [this]
     simp only [bj]
     cases kd kinds t with
     |none=>rfl
     |some k=>rfl
theorem qC(e:bv)(kinds:List Int):qc e kinds=some (fO e kinds):=by
 unfold qc fO
 rw [Bk e]
 cases hr:np e.Nodes with
 |false=>rfl
 |true=>
  simp only [ow,bj,uY,vb,qK]
  have By: ∀ns:List bC,mK e kinds ns=if qt kinds.length ns then dm kinds e.Nodes []else some (0,2):=by
   intro ns
   induction ns with
   |nil=>rfl
   |cons n ns ih=>
    unfold mK
    rw [ih,GG]
    cases ((n.Tag==2)&&decide ((kinds.length:Int)≤n.Col))<;>simp
  have key: ∀ks:List Int,oE e kinds ks=if LU ks then mK e kinds e.Nodes else some (0,2):=by
   intro ks
   induction ks with
   |nil=>rfl
   |cons k ks ih=>
    unfold oE
    rw [ih]
    by_cases h:k<0∨3<k
    ·rw [bq (by simpa using h),aW (by simp [LU];omega)]
    ·rw [aW (by simpa using h)]
     have h1:(decide (0≤k)&&decide (k≤3))=true:=by simp;omega
     rw [Gd,h1,mZ]
  rw [key,By]
  cases hk:LU kinds with
  |false=>rfl
  |true=>
   cases hc:qt kinds.length e.Nodes with
   |false=>rfl
   |true=>
    simp only [ow]
    cases ht:p7 e.Nodes with
    |none=>unfold np at hr;rw [ht]at hr;cases hr
    |some t=>
     obtain⟨hw,hN,hs⟩:=nl ht
     have hct:=zX kinds.length t hw 0 (by rw [←hN];exact hc)
     have:=Lt kinds (fun k=>Ei hk) t hw hct [] [] (by simp;omega)
     rw [t8,ua,←hN]at this
     simp only [bj]
     rcases this with⟨h1,h2⟩|⟨k,w,h1,h2,h3⟩
     ·rw [h1,h2]
     ·rw [h1,h3]
      unfold dm
      have hls:t.size≤1000:=hs
      rw [lL,lC w.length (by rw [eC (by simp<;>omega) (by simp<;>omega)];simp),ve (eE _),vg]
      rfl

theorem ij{α:Type}{xs tl:List α}{i:Nat}{y:α}(h:xs.drop i=y::tl):gj xs (i:Int)=some y∧i<xs.length∧xs.drop (i+1)=tl:=by
 have hi:i<xs.length:=by
  rcases oZ i xs.length with h1|h1
  ·exact h1
  ·rw [yU h1]at h;cases h
 rw [xf hi]at h
 injection h with h1 h2
 exact⟨by rw [dJ,kW hi,h1],hi,h2⟩
theorem BM{α:Type}{xs:List α}{i:Nat}(h:xs.drop i=[]):xs.length≤i:=ub.1 h
theorem tY{f:Int→Option Bool}{g:Int→Bool}(hf: ∀v,f v=some (g v)): ∀(l:List Int) (i:Nat),∃j:Int,fH f l i=some j∧decide (0≤j)=l.any g
 |[],i=>⟨-1,rfl,rfl⟩
 |e::l,i=>by
  unfold fH
  rw [hf,bj]
  cases h:g e with
  |true=>exact⟨(i:Int),by simp,by simp [h]⟩
  |false=>
   obtain⟨j,h1,h2⟩:=tY hf l (i+1)
   exact⟨j,by simpa using h1,by rw [h2];simp [h]⟩
theorem jH{f:Int→Option Bool}{g:Int→Bool}(hf: ∀v,f v=some (g v))(l:List Int):eK l f=some (l.any g):=by
 unfold eK kX
 obtain⟨j,h1,h2⟩:=tY hf l 0
 rw [h1,bj,h2]
theorem tX{f:kq→Option Bool}{g:kq→Bool}(hf: ∀v,f v=some (g v)): ∀(l:List kq) (i:Nat),∃j:Int,dX f l i=some j∧decide (0≤j)=l.any g
 |[],i=>⟨-1,rfl,rfl⟩
 |e::l,i=>by
  unfold dX
  rw [hf,bj]
  cases h:g e with
  |true=>exact⟨(i:Int),by simp,by simp [h]⟩
  |false=>
   obtain⟨j,h1,h2⟩:=tX hf l (i+1)
   exact⟨j,by simpa using h1,by rw [h2];simp [h]⟩
theorem rk{f:kq→Option Bool}{g:kq→Bool}(hf: ∀v,f v=some (g v))(l:List kq):eZ l f=some (l.any g):=by
 unfold eZ g9
 obtain⟨j,h1,h2⟩:=tX hf l 0
 rw [h1,bj,h2]
theorem uL(l:List Int)(h:l.length≤68719476736):dY l=some l:=by
 unfold dY
 rw [bH (by simpa using h)];rfl
theorem Pn(n:Int)(h0:0≤n)(h:n≤68719476736):ll n=some []:=by
 unfold ll lV
 rw [aW (by simp;omega)]
 have e:IntKind.i64.wrap (n-IntKind.i64.wrap ((0:Int)-0))=n:=by
  rw [eC (n:=(0:Int)-0) (by omega) (by omega),eC (by omega) (by omega)];omega
 rw [e]
 by_cases hp:0<n
 ·rw [bq (by simpa using hp)]
  unfold UK AR
  rw [bq hp]
  simp only [bj]
  rw [bq ⟨h0,h⟩]
  simp only [bj]
  rw [show eP (List.replicate n.toNat (0:Int)) 0 0=some []from by unfold eP;rw [bq (by simp;omega)];simp]
  rfl
 ·rw [aW (by simpa using hp)];rfl
theorem B8(a b:List Int)(ha:a.length≤8000)(hb:b.length≤8000):iC [a,b]=some (a++b):=by
 unfold iC
 simp only [iN]
 rw [eC (n:=(0:Int)+(a.length:Int)) (by omega) (by omega),aW (by simp),eC (by omega) (by omega),aW (by simp;omega),Pn _ (by omega) (by omega)]
 simp only [bj,iM]
 rw [bH (by simp;omega)]
 simp only [bj,lL]
 rw [bH (by omega)]
 rfl
structure jg(n:ap):Prop where
 cond:n.Cond.Nodes.length≤5000
 kinds:n.Kinds.length≤5000
 keys:n.Keys.length≤5000
 aggs:n.Aggs.length≤5000
 items:n.Items.length≤5000
 order:n.Order.length≤5000
 args: ∀g∈n.Aggs,g.Arg.Nodes.length≤5000
 exprs: ∀e∈n.Items,e.Nodes.length≤5000
def Hg(e:bv)(kinds:List Int):Bool:=(fO e kinds).2==0&&((fO e kinds).1==1||(fO e kinds).1==0)
theorem vz(e:bv)(kinds:List Int):qQ e kinds=some (Hg e kinds):=by
 unfold qQ Hg
 rw [qC e kinds]
 simp only [bj,Bool.or_comm]
def Ic(a:fy)(kinds:List Int):Int×Bool:=(kw a kinds).getD (0,false)
theorem xn(a:fy)(kinds:List Int):kw a kinds=some (Ic a kinds):=by
 unfold Ic kw
 rw [qC]
 simp only [bj]
 repeat' split
 all_goals rfl
def KR(a:List Int)(e:Int):Int:=(a[e.toNat]?).getD 0
def vK(a:List Int)(e:Int):Bool:=decide (e<0)||decide ((a.length:Int)≤e)
theorem HN{a:List Int}{e:Int}(h:vK a e=false):gj a e=some (KR a e):=by
 simp [vK]at h
 rw [lC e.toNat (by omega),kW (by omega)]
 unfold KR
 rw [kW (by omega)];rfl
def DO(x y:Int):Int:=if x=0 then y else x
def Ai(p:Int×Int):Bool:=(p.2==DO p.1 p.2)||p.2==0
end Go.Proofs.YtdohlidddcgfjaaGreat

