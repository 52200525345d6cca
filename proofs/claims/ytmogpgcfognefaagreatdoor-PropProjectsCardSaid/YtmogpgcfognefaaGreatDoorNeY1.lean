/- co of this claim: Y1. -/
import Derived.Test.YtmogpgcfognefaaGreatDoorNeQ1
set_option linter.all false
namespace Go.Proofs.YtmogpgcfognefaaGreatDoor
open Go

def wy(op:Int):Int:=if op=1∨op=9 then 0 else if op=2∨op=7 then 2 else if op=3∨op=4∨op=5∨op=6∨op=8∨op=10∨op=11 then 1 else -1
theorem wA(op:Int):tq op=some (wy op):=by
 by_cases h1:op=1
 ·subst h1;rfl
 by_cases h2:op=2
 ·subst h2;rfl
 by_cases h3:op=3
 ·subst h3;rfl
 by_cases h4:op=4
 ·subst h4;rfl
 by_cases h5:op=5
 ·subst h5;rfl
 by_cases h6:op=6
 ·subst h6;rfl
 by_cases h7:op=7
 ·subst h7;rfl
 by_cases h8:op=8
 ·subst h8;rfl
 by_cases h9:op=9
 ·subst h9;rfl
 by_cases h10:op=10
 ·subst h10;rfl
 by_cases h11:op=11
 ·subst h11;rfl
 simp [tq,o8,o7,ie,wy,h1,h2,h3,h4,h5,h6,h7,h8,h9,h10,h11]
theorem yF(v:Int): ∀(l:List Int) (i:Nat),∃j:Int,f8 v l i=some j∧((0≤j)↔v∈l)∧(0≤j→ ∃k:Nat,j=((i+k:Nat):Int)∧k<l.length∧l[k]? =some v)∧ -1≤j
 |[],i=>⟨-1,rfl,by simp,by simp,by simp⟩
 |e::tl,i=>by
  unfold f8
  by_cases h:v=e
  ·subst h
   exact⟨i,by simp,by simp,fun _=>⟨0,by simp,by simp,rfl⟩,by omega⟩
  ·obtain⟨j,h1,h2,h3,h4⟩:=yF v tl (i+1)
   refine⟨j,by rw [dd (by simpa using h)];exact h1,by rw [h2];simp [h],fun hj=>?_,h4⟩
   obtain⟨k,g1,g2,g3⟩:=h3 hj
   exact⟨k+1,by rw [g1];congr 1;omega,by simp;omega,by simpa using g3⟩
theorem tU(l:List Int)(v:Int): ∃j:Int,f9 l v=some j∧((0≤j)↔v∈l)∧(0≤j→ ∃k:Nat,j=(k:Int)∧k<l.length∧l[k]? =some v)∧ -1≤j:=by
 obtain⟨j,h1,h2,h3,h4⟩:=yF v l 0
 exact⟨j,h1,h2,fun hj=>by obtain⟨k,g1,g2,g3⟩:=h3 hj;exact⟨k,by simpa using g1,g2,g3⟩,h4⟩
theorem pP(l:List Int)(v:Int):df l v=some (decide (v∈l)):=by
 unfold df
 obtain⟨j,h1,h2,_⟩:=tU l v
 rw [h1,cq,Bg.2 h2]
theorem yH(s2:List Int): ∀(l:List Int) (i:Nat),i+l.length=s2.length→fb s2 l i=some (decide (l=s2.drop i))
 |[],i,h=>by
  unfold fb
  rw [FT (by simp at h;omega)];rfl
 |e::tl,i,h=>by
  have hi:i<s2.length:=by simp at h;omega
  unfold fb
  rw [ii,pR hi,cq,CM hi]
  by_cases he:e=s2[i]
  ·rw [dd (by simp [he]),yH s2 tl (i+1) (by simp at h;omega)]
   congr 1
   rw [Bg]
   exact⟨fun h=>by rw [he,h],fun h=>by injection h⟩
  ·rw [dy (by simpa using he),wJ]
   intro h
   injection h with h1 _
   exact he h1
theorem FE(a b:List Int):ga a b=some (decide (a=b)):=by
 unfold ga
 by_cases h:a.length=b.length
 ·rw [dd (by simp [h]),yH b a 0 (by omega),uc]
 ·rw [dy (by simp;omega),wJ (fun e=>h (by rw [e]))]
def HU(n:aK)(a b R:List Int):Prop:=
 (n.Op=1→R=n.Kinds∧0≤n.Table∧n.Table<4∧0<n.Kinds.length∧ ∀k∈n.Kinds,1≤k∧k≤3)∧(n.Op=9→R=n.Kinds∧0≤n.Table∧n.Table<30∧0<n.Kinds.length)∧(n.Op=2→a.length≤R.length)∧(n.Op=3∨n.Op=6∨n.Op=8→R=a)∧
  (n.Op=4∨n.Op=10∨n.Op=11→n.Keys.length≤R.length)∧(n.Op=5→R.length=n.Items.length)∧(n.Op=7→R.length=a.length)
structure Lb(l:al):Prop where
 n:pO l.n
 a:l.a_.length≤16
 b:l.b.length≤16
def rr(m:al→Option (Bool×al))(l:al)(P:List Int→Prop):Prop:= ∃ok R,m l=some (ok,{l with result:=R})∧(ok=true→P R)
theorem KO{l:al}:rr km l (fun R=>R=l.n.Kinds∧0≤l.n.Table∧l.n.Table<4∧0<l.n.Kinds.length∧ ∀k∈l.n.Kinds,1≤k∧k≤3):=by
 unfold rr km
 rw [iO (f:=oF) (g:=fun k=>(decide (k<(1:Int)))||(decide ((3:Int)<k))) (fun _=>rfl),cq]
 refine⟨_,_,rfl,fun h=>⟨rfl,?_⟩⟩
 simp only [iP,ui]at h
 obtain⟨⟨⟨⟨h1,h2⟩,h3⟩,h4⟩,h5⟩:=h
 refine⟨by omega,by omega,by omega,fun k hk=>?_⟩
 have h6:(l.n.Kinds.any fun k=>(decide (k<(1:Int)))||(decide ((3:Int)<k)))=false:=by simpa using h1
 have:=List.any_eq_false.1 h6 k hk
 simp at this
 omega
theorem Io{l:al}(h:Lb l):rr fU l (fun R=>R=l.n.Kinds∧0≤l.n.Table∧l.n.Table<30∧0<l.n.Kinds.length):=by
 unfold rr fU
 rw [iO (f:=lR) (fun _=>rfl),cq]
 refine⟨_,_,rfl,fun h=>⟨rfl,?_⟩⟩
 simp only [iP,ui]at h
 omega
theorem wz(e:bf)(kinds:List Int)(h:e.Nodes.length≤5000): ∃b,nd e kinds=some b:=by
 unfold nd
 rw [qj e kinds (by omega)]
 exact⟨_,rfl⟩
theorem Lk{l:al}(h:Lb l):rr ko l (fun R=>l.a_.length≤R.length):=by
 unfold rr ko
 have ha:=h.a
 have hb:=h.b
 rw [IP _ _ (by omega) (by omega),cq]
 obtain⟨b,hb2⟩:=wz l.n.Cond (l.a_++l.b) h.n.cond
 refine⟨b,l.a_++l.b,?_,fun _=>by simp⟩
 show(nd l.n.Cond (l.a_++l.b)).bind _=_
 rw [hb2];rfl
theorem GT{l:al}(h:Lb l):rr jd l (fun R=>R=l.a_):=by
 unfold rr jd
 obtain⟨b,hb2⟩:=wz l.n.Cond l.a_ h.n.cond
 refine⟨b,l.a_,?_,fun _=>rfl⟩
 show(nd l.n.Cond l.a_).bind _=_
 rw [hb2];rfl
theorem Ik{l:al}:rr li l (fun R=>R=l.a_):=⟨true,l.a_,rfl,fun _=>rfl⟩
theorem KD{l:al}:rr kj l (fun R=>R=l.a_):=by
 unfold rr kj
 rw [wj (f:=my _) (fun _=>rfl),cq]
 exact⟨_,l.a_,rfl,fun _=>rfl⟩
theorem GK(nx:Bool→al→Option (Bool×al))(l:al)(R:List Int)(ok:Bool)(k:Int)(h:R.length≤100000):eu nx {l with result:=R} ok k=nx ok {l with result:=R++[k]}:=by
 unfold eu
 show(kE R [k]).bind _=_
 rw [dM (by simp;omega)];rfl
theorem GH{l:al}(gs:List jx): ∀(ok:Bool) (R:List Int),(∀g∈gs,g.Arg.Nodes.length≤5000)→R.length+gs.length≤20000→
  ∃ok' R',cw gs ok {l with result:=R}=some (ok',{l with result:=R' })∧R'.length=R.length+gs.length:=by
 induction gs with
 |nil=>intro ok R _ _;exact⟨ok,R,rfl,rfl⟩
 |cons g tl ih=>
  intro ok R hg hR
  have key: ∀(ok2:Bool) (k:Int),∃ok' R',eu (cw tl) {l with result:=R} ok2 k=some (ok',{l with result:=R' })∧R'.length=R.length+(g::tl).length:=by
   intro ok2 k
   rw [GK _ _ _ _ _ (by simp at hR;omega)]
   obtain⟨ok',R',h1,h2⟩:=ih ok2 (R++[k]) (fun x hx=>hg x (kG _ hx)) (by simp at hR ⊢;omega)
   exact⟨ok',R',h1,by rw [h2];simp;omega⟩
  unfold cw
  split
  ·exact key _ _
  ·show∃ok' R',(mE g.Arg l.a_).bind _=_∧_
   rw [qj g.Arg l.a_ (by have:=hg g (lV ..);omega),cq]
   split
   ·exact key _ _
   ·split
    ·unfold gU
     split
     ·exact key _ _
     ·exact key _ _
    ·unfold gU
     split
     ·exact key _ _
     ·exact key _ _
theorem GI{l:al}(h:Lb l)(ks:List Int): ∀R:List Int,R.length+ks.length≤5000→ ∃ok R',dl l ks {l with result:=R}=some (ok,{l with result:=R' })∧R'.length≤R.length+ks.length+l.n.Aggs.length∧(ok=true→R'.length=R.length+ks.length+l.n.Aggs.length):=by
 induction ks with
 |nil=>
  intro R hR
  unfold dl
  obtain⟨ok,R',h1,h2⟩:=GH (l:=l) l.n.Aggs (((decide ((l.n.Keys.length:Int)≤(3:Int)))&&(decide ((l.n.Aggs.length:Int)≤(12:Int))))&&(decide ((0:Int)<(IntKind.i64.wrap ((l.n.Keys.length:Int)+(l.n.Aggs.length:Int)))))) R h.n.args (by have:=h.n.aggs;simp at hR;omega)
  exact⟨ok,R',h1,by rw [h2];simp,fun _=>by rw [h2];simp⟩
 |cons k tl ih=>
  intro R hR
  unfold dl
  split
  ·exact⟨false,R,rfl,by omega,fun h=>by cases h⟩
  ·rename_i hk
   show∃ok R',(dR l.a_ k).bind _=_∧_
   have hk' :EW l.a_ k=false:=by
    unfold EW
    simpa using hk
   rw [MU hk',cq]
   show∃ok R',(kE R [SZ l.a_ k]).bind _=_∧_
   rw [dM (by simp at hR ⊢;omega),cq]
   obtain⟨ok,R',h1,h2,h3⟩:=ih (R++[SZ l.a_ k]) (by simp at hR ⊢;omega)
   refine⟨ok,R',h1,?_,fun ho=>?_⟩
   ·simp at h2 ⊢;omega
   ·have:=h3 ho;simp at this ⊢;omega
theorem GL{l:al}(h:Lb l): ∃ok R',eD l=some (ok,{l with result:=R' })∧R'.length≤l.n.Keys.length+l.n.Aggs.length∧(ok=true→R'.length=l.n.Keys.length+l.n.Aggs.length):=by
 unfold eD
 obtain⟨ok,R',h1,h2,h3⟩:=GI h l.n.Keys [] (by have:=h.n.keys;simpa using this)
 exact⟨ok,R',h1,by simpa using h2,by simpa using h3⟩
theorem Ip{l:al}(h:Lb l):rr eD l (fun R=>l.n.Keys.length≤R.length):=by
 obtain⟨ok,R',h1,h2,h3⟩:=GL h
 exact⟨ok,R',h1,fun ho=>by have:=h3 ho;omega⟩
theorem Fu{k i:Nat}(h:k+i≤100000):IntKind.i64.wrap ((k:Int)+(i:Int))=((k+i:Nat):Int):=by
 rw [lW (by omega) (by omega)];omega
theorem C0{l:al}(hk:l.n.Keys.length≤5000)(gs:List jx): ∀(i:Nat) (R:List Int),R.length=l.n.Keys.length+(i+gs.length)→R.length≤20000→ ∃R',gc gs i {l with result:=R}=some (true,{l with result:=R' })∧R'.length=R.length:=by
 induction gs with
 |nil=>intro i R _ _;exact⟨R,rfl,rfl⟩
 |cons g tl ih=>
  intro i R hR hb
  unfold gc
  simp only [nG]at hR
  split
  ·show∃R',(dR R (IntKind.i64.wrap ((l.n.Keys.length:Int)+(i:Int)))).bind _=_∧_
   rw [Fu (by omega),ii,pR (by omega),cq]
   simp only [cq]
   obtain⟨R',h1,h2⟩:=ih (i+1) (R.set ((l.n.Keys.length+i:Nat):Int).toNat 4) (by rw [xp];omega) (by rw [xp];omega)
   exact⟨R',h1,by rw [h2,xp]⟩
  ·exact ih (i+1) R (by omega) hb
theorem ET{l:al}(h:Lb l):rr iy l (fun R=>l.n.Keys.length≤R.length):=by
 unfold rr iy
 obtain⟨ok,R',h1,h2,h3⟩:=GL h
 have hk:=h.n.keys
 have hg:=h.n.aggs
 rw [h1,cq]
 cases ok with
 |false=>exact⟨false,R',rfl,fun h=>by cases h⟩
 |true=>
  have h4:=h3 rfl
  obtain⟨R2,g1,g2⟩:=C0 (l:=l) hk l.n.Aggs 0 R' (by omega) (by omega)
  exact⟨true,R2,g1,fun _=>by omega⟩
theorem GQ{l:al}(hk:l.n.Keys.length≤5000)(gs:List jx): ∀(i:Nat) (ok:Bool) (R:List Int),l.a_.length=l.n.Keys.length+(i+gs.length)→R.length=l.a_.length→R.length≤20000→ ∃ok' R',dW l gs i ok {l with result:=R}=some (ok',{l with result:=R' })∧R'.length=R.length:=by
 induction gs with
 |nil=>intro i ok R _ _ _;exact⟨ok,R,rfl,rfl⟩
 |cons g tl ih=>
  intro i ok R ha hR hb
  simp only [nG]at ha
  have key: ∀(ok2:Bool) (R2:List Int),R2.length=R.length→ ∃ok' R',dW l tl (i+1) ok2 {l with result:=R2}=some (ok',{l with result:=R' })∧R'.length=R.length:=by
   intro ok2 R2 h2
   obtain⟨ok',R',g1,g2⟩:=ih (i+1) ok2 R2 (by omega) (by omega) (by omega)
   exact⟨ok',R',g1,by omega⟩
  have Lj: ∀(e3:Int) (x:Bool),∃ok' R',jn l (dW l tl) i g ok {l with result:=R} e3 x=some (ok',{l with result:=R' })∧R'.length=R.length:=by
   intro e3 x
   unfold jn
   split
   ·exact key _ R rfl
   ·split
    ·show∃ok' R',(dR R (IntKind.i64.wrap ((l.n.Keys.length:Int)+(i:Int)))).bind _=_∧_
     rw [Fu (by omega),ii,pR (by omega),cq]
     simp only [cq]
     exact key _ _ (by rw [xp])
    ·split<;>(unfold kL;split)<;>exact key _ R rfl
  unfold dW
  show∃ok' R',(dR l.a_ (IntKind.i64.wrap ((l.n.Keys.length:Int)+(i:Int)))).bind _=_∧_
  rw [Fu (by omega),ii,pR (by omega),cq]
  split<;>exact Lj _ _
theorem GR{l:al}(hk:l.n.Keys.length≤5000)(hg:l.n.Aggs.length≤5000)(ha:l.a_.length=l.n.Keys.length+l.n.Aggs.length)(r:List Int)(hr:r.length=l.a_.length)(ks:List Int): ∀(i:Nat) (ok:Bool),i+ks.length=l.n.Keys.length→ ∃ok' R',jm l r ks i ok=some (ok',{l with result:=R' })∧R'.length=r.length:=by
 induction ks with
 |nil=>
  intro i ok _
  exact GQ hk l.n.Aggs 0 ok r (by omega) hr (by omega)
 |cons k tl ih=>
  intro i ok hi
  simp only [nG]at hi
  unfold jm
  have: ∃t,(if(ok&&(k==(i:Int)))then((dR l.a_ (i:Int)).bind fun e5=>some (e5 !=(4:Int)))else some false)=some t:=by
   split
   ·rw [ii,pR (by omega)];exact⟨_,rfl⟩
   ·exact⟨_,rfl⟩
  obtain⟨t,ht⟩:=this
  rw [ht,cq]
  exact ih (i+1) t (by omega)
theorem Is{l:al}(h:Lb l)(hA: ∃e,dR l.nodes l.n.A=some e):rr jE l (fun R=>l.n.Keys.length≤R.length):=by
 obtain⟨e,he⟩:=hA
 unfold rr jE
 have hk:=h.n.keys
 have hg:=h.n.aggs
 have ha:=h.a
 rw [he,cq]
 by_cases hc:((((e.Op==(9:Int))&&(decide ((l.n.Keys.length:Int)≤(3:Int))))&&(decide ((l.n.Aggs.length:Int)≤(12:Int))))&&((IntKind.i64.wrap ((l.n.Keys.length:Int)+(l.n.Aggs.length:Int)))==(l.a_.length:Int)))=true
 ·rw [dd (by rw [hc];decide),tX _ (by omega),cq]
  have hl:l.a_.length=l.n.Keys.length+l.n.Aggs.length:=by
   simp only [iP,xn]at hc
   have:=hc.2
   rw [Fu (by omega)]at this
   omega
  obtain⟨ok',R',g1,g2⟩:=GR hk hg hl l.a_ rfl l.n.Keys 0 _ (qx _)
  exact⟨ok',R',g1,fun _=>by omega⟩
 ·rw [dy (by rw [yM]at hc;rw [hc];rfl)]
  exact⟨false,l.result,by cases l;rfl,fun h=>by cases h⟩
theorem CZ{l:al}(es:List bf): ∀R:List Int,(∀e∈es,e.Nodes.length≤5000)→R.length+es.length≤20000→ ∃ok R',fh es {l with result:=R}=some (ok,{l with result:=R' })∧(ok=true→R'.length=R.length+es.length):=by
 induction es with
 |nil=>intro R _ _;exact⟨_,R,rfl,fun _=>rfl⟩
 |cons e tl ih=>
  intro R he hR
  unfold fh
  show∃ok R',(mE e l.a_).bind _=_∧_
  rw [qj e l.a_ (by have:=he e (lV ..);omega),cq]
  split
  ·exact⟨false,R,rfl,fun h=>by cases h⟩
  ·show∃ok R',(kE R [(rD e l.a_).1]).bind _=_∧_
   rw [dM (by simp at hR ⊢;omega),cq]
   obtain⟨ok,R',h1,h2⟩:=ih (R++[(rD e l.a_).1]) (fun x hx=>he x (kG _ hx)) (by simp at hR ⊢;omega)
   exact⟨ok,R',h1,fun ho=>by have:=h2 ho;simp at this ⊢;omega⟩
theorem ES{l:al}(h:Lb l):rr gv l (fun R=>R.length=l.n.Items.length):=by
 have hi:=h.n.items
 obtain⟨ok,R',h1,h2⟩:=CZ (l:=l) l.n.Items [] h.n.exprs (by simp;omega)
 exact⟨ok,R',h1,by simpa using h2⟩
theorem F0(nx:Nat→al→Option (Bool×al))(l:al)(R:List Int)(i:Nat)(e k:Int)(h:R.length≤100000):gT nx i {l with result:=R} e k=if((e !=(0:Int))&&(e !=k))then some (false,{l with result:=R})else nx (i+1) {l with result:=R++[k]}:=by
 unfold gT
 split
 ·rfl
 ·show(kE R [k]).bind _=_
  rw [dM (by simp;omega)];rfl
theorem FZ{l:al}(xs:List Int): ∀(i:Nat) (R:List Int),i+xs.length=l.b.length→R.length+xs.length≤20000→ ∃ok R',fg xs i {l with result:=R}=some (ok,{l with result:=R' })∧(ok=true→R'.length=R.length+xs.length):=by
 induction xs with
 |nil=>intro i R _ _;exact⟨true,R,rfl,fun _=>rfl⟩
 |cons a tl ih=>
  intro i R hi hR
  simp only [nG]at hi hR
  have key: ∀e k:Int,∃ok R',gT (fg tl) i {l with result:=R} e k=some (ok,{l with result:=R' })∧(ok=true→R'.length=R.length+(a::tl).length):=by
   intro e k
   rw [F0 _ _ _ _ _ _ (by omega)]
   split
   ·exact⟨false,R,rfl,fun h=>by cases h⟩
   ·obtain⟨ok,R',h1,h2⟩:=ih (i+1) (R++[k]) (by omega) (by simp;omega)
    exact⟨ok,R',h1,fun ho=>by have:=h2 ho;simp at this ⊢;omega⟩
  unfold fg
  show∃ok R',(dR l.b (i:Int)).bind _=_∧_
  rw [ii,pR (by omega),cq]
  split<;>exact key _ _
theorem Hz{l:al}(h:Lb l):rr jD l (fun R=>R.length=l.a_.length):=by
 unfold rr jD
 have ha:=h.a
 by_cases hl:l.a_.length=l.b.length
 ·rw [dd (by simp [hl])]
  obtain⟨ok,R',h1,h2⟩:=FZ (l:=l) l.a_ 0 [] (by omega) (by simp;omega)
  exact⟨ok,R',h1,by simpa using h2⟩
 ·rw [dy (by simp;omega)]
  exact⟨false,l.result,by cases l;rfl,fun h=>by cases h⟩
def rk(op:Int):al→Unit→Option (Bool×al):=(nV ((mz).getD []) op).getD (fun _ _=>none)
theorem NC{l:al}(h:Lb l)(hA:wy l.n.Op≠0→ ∃e,dR l.nodes l.n.A=some e)(hp:0≤wy l.n.Op):rr (fun l=>rk l.n.Op l ()) l (HU l.n l.a_ l.b):=by
 have imp: ∀{m:al→Option (Bool×al)} {P:List Int→Prop},rr m l P→(rk l.n.Op l ()=m l)→(∀R,P R→HU l.n l.a_ l.b R)→rr (fun l=>rk l.n.Op l ()) l (HU l.n l.a_ l.b):=
  fun⟨ok,R,h1,h2⟩ he hr=>⟨ok,R,by show rk l.n.Op l ()=_;rw [he];exact h1,fun ho=>hr R (h2 ho)⟩
 by_cases h1:l.n.Op=1
 ·exact imp KO (by rw [h1];rfl) (fun R hR=>by
   unfold HU
   rw [h1]
   exact⟨fun _=>hR,fun h=>absurd h (by decide),fun h=>absurd h (by decide),fun h=>absurd h (by decide),fun h=>absurd h (by decide),fun h=>absurd h (by decide),fun h=>absurd h (by decide)⟩)
 by_cases h2:l.n.Op=2
 ·exact imp (Lk h) (by rw [h2];rfl) (fun R hR=>by simp [HU,h2];exact hR)
 by_cases h3:l.n.Op=3
 ·exact imp (GT h) (by rw [h3];rfl) (fun R hR=>by simp [HU,h3];exact hR)
 by_cases h4:l.n.Op=4
 ·exact imp (Ip h) (by rw [h4];rfl) (fun R hR=>by simp [HU,h4];exact hR)
 by_cases h5:l.n.Op=5
 ·exact imp (ES h) (by rw [h5];rfl) (fun R hR=>by simp [HU,h5];exact hR)
 by_cases h6:l.n.Op=6
 ·exact imp Ik (by rw [h6];rfl) (fun R hR=>by simp [HU,h6];exact hR)
 by_cases h7:l.n.Op=7
 ·exact imp (Hz h) (by rw [h7];rfl) (fun R hR=>by simp [HU,h7];exact hR)
 by_cases h8:l.n.Op=8
 ·exact imp KD (by rw [h8];rfl) (fun R hR=>by simp [HU,h8];exact hR)
 by_cases h9:l.n.Op=9
 ·exact imp (Io h) (by rw [h9];rfl) (fun R hR=>by simp [HU,h9];exact⟨hR.1,hR.2⟩)
 by_cases h10:l.n.Op=10
 ·exact imp (ET h) (by rw [h10];rfl) (fun R hR=>by simp [HU,h10];exact hR)
 by_cases h11:l.n.Op=11
 ·exact imp (Is h (hA (by rw [h11];decide))) (by rw [h11];rfl) (fun R hR=>by simp [HU,h11];exact hR)
 exfalso
 simp [wy,h1,h2,h3,h4,h5,h6,h7,h8,h9,h10,h11]at hp
end Go.Proofs.YtmogpgcfognefaaGreatDoor

