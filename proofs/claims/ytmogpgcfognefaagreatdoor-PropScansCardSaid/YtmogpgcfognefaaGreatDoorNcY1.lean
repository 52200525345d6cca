/- cd of this claim: Y1. -/
import Derived.Test.YtmogpgcfognefaaGreatDoorNcQ1
set_option linter.all false
namespace Go.Proofs.YtmogpgcfognefaaGreatDoor
open Go

def yb(op:Int):Int:=if op=1∨op=9 then 0 else if op=2∨op=7 then 2 else if op=3∨op=4∨op=5∨op=6∨op=8∨op=10∨op=11 then 1 else -1
theorem zy(op:Int):qv op=some (yb op):=by
 by_cases h1:op=1
 ·subst h1;rfl
 by_cases h2:op=2
 ·subst h2;rfl
 by_cases h3:op=3
 ·subst h3;rfl
 by_cases h4:op=4
 ·subst h4;rfl
 by_cases h5:op=5
 ·subst h5;rfl
 by_cases h6:op=6
 ·subst h6;rfl
 by_cases h7:op=7
 ·subst h7;rfl
 by_cases h8:op=8
 ·subst h8;rfl
 by_cases h9:op=9
 ·subst h9;rfl
 by_cases h10:op=10
 ·subst h10;rfl
 by_cases h11:op=11
 ·subst h11;rfl
 simp [qv,m7,m6,f8,yb,h1,h2,h3,h4,h5,h6,h7,h8,h9,h10,h11]
theorem va(v:Int): ∀(l:List Int) (i:Nat),∃j:Int,eZ v l i=some j∧((0≤j)↔v∈l)∧(0≤j→ ∃k:Nat,j=((i+k:Nat):Int)∧k<l.length∧l[k]? =some v)∧ -1≤j
 |[],i=>⟨-1,rfl,by simp,by simp,by simp⟩
 |e::tl,i=>by
  unfold eZ
  by_cases h:v=e
  ·subst h
   exact⟨i,by simp,by simp,fun _=>⟨0,by simp,by simp,rfl⟩,by omega⟩
  ·obtain⟨j,h1,h2,h3,h4⟩:=va v tl (i+1)
   refine⟨j,by rw [dg (by simpa using h)];exact h1,by rw [h2];simp [h],fun hj=>?_,h4⟩
   obtain⟨k,g1,g2,g3⟩:=h3 hj
   exact⟨k+1,by rw [g1];congr 1;omega,by simp;omega,by simpa using g3⟩
theorem B5(l:List Int)(v:Int): ∃j:Int,iy l v=some j∧((0≤j)↔v∈l)∧(0≤j→ ∃k:Nat,j=(k:Int)∧k<l.length∧l[k]? =some v)∧ -1≤j:=by
 obtain⟨j,h1,h2,h3,h4⟩:=va v l 0
 exact⟨j,h1,h2,fun hj=>by obtain⟨k,g1,g2,g3⟩:=h3 hj;exact⟨k,by simpa using g1,g2,g3⟩,h4⟩
theorem nG(l:List Int)(v:Int):cN l v=some (decide (v∈l)):=by
 unfold cN
 obtain⟨j,h1,h2,_⟩:=B5 l v
 rw [h1,ce,zS.2 h2]
theorem vc(s2:List Int): ∀(l:List Int) (i:Nat),i+l.length=s2.length→d9 s2 l i=some (decide (l=s2.drop i))
 |[],i,h=>by
  unfold d9
  rw [Gn (by simp at h;omega)];rfl
 |e::tl,i,h=>by
  have hi:i<s2.length:=by simp at h;omega
  unfold d9
  rw [dy,nK hi,ce,tk hi]
  by_cases he:e=s2[i]
  ·rw [dg (by simp [he]),vc s2 tl (i+1) (by simp at h;omega)]
   congr 1
   rw [zS]
   exact⟨fun h=>by rw [he,h],fun h=>by injection h⟩
  ·rw [c8 (by simpa using he),qg]
   intro h
   injection h with h1 _
   exact he h1
theorem vd(a b:List Int):ee a b=some (decide (a=b)):=by
 unfold ee
 by_cases h:a.length=b.length
 ·rw [dg (by simp [h]),vc b a 0 (by omega),pu]
 ·rw [c8 (by simp;omega),qg (fun e=>h (by rw [e]))]
def DI(n:aZ)(a b R:List Int):Prop:=
 (n.Op=1→R=n.Kinds∧0≤n.Table∧n.Table<4∧0<n.Kinds.length∧ ∀k∈n.Kinds,1≤k∧k≤3)∧(n.Op=9→R=n.Kinds∧0≤n.Table∧n.Table<30∧0<n.Kinds.length)∧(n.Op=2→a.length≤R.length)∧(n.Op=3∨n.Op=6∨n.Op=8→R=a)∧
  (n.Op=4∨n.Op=10∨n.Op=11→n.Keys.length≤R.length)∧(n.Op=5→R.length=n.Items.length)∧(n.Op=7→R.length=a.length)
structure Lb(l:af):Prop where
 n:y0 l.n
 a:l.a_.length≤16
 b:l.b.length≤16
def oY(m:af→Option (Bool×af))(l:af)(P:List Int→Prop):Prop:= ∃ok R,m l=some (ok,{l with result:=R})∧(ok=true→P R)
theorem GT{l:af}:oY iX l (fun R=>R=l.n.Kinds∧0≤l.n.Table∧l.n.Table<4∧0<l.n.Kinds.length∧ ∀k∈l.n.Kinds,1≤k∧k≤3):=by
 unfold oY iX
 rw [gI (f:=mK) (g:=fun k=>(decide (k<(1:Int)))||(decide ((3:Int)<k))) (fun _=>rfl),ce]
 refine⟨_,_,rfl,fun h=>⟨rfl,?_⟩⟩
 simp only [mA,ny]at h
 obtain⟨⟨⟨⟨h1,h2⟩,h3⟩,h4⟩,h5⟩:=h
 refine⟨by omega,by omega,by omega,fun k hk=>?_⟩
 have h6:(l.n.Kinds.any fun k=>(decide (k<(1:Int)))||(decide ((3:Int)<k)))=false:=by simpa using h1
 have:=List.any_eq_false.1 h6 k hk
 simp at this
 omega
theorem Ex{l:af}(h:Lb l):oY iq l (fun R=>R=l.n.Kinds∧0≤l.n.Table∧l.n.Table<30∧0<l.n.Kinds.length):=by
 unfold oY iq
 rw [gI (f:=mb) (fun _=>rfl),ce]
 refine⟨_,_,rfl,fun h=>⟨rfl,?_⟩⟩
 simp only [mA,ny]at h
 omega
theorem sZ(e:bT)(kinds:List Int)(h:e.Nodes.length≤5000): ∃b,lu e kinds=some b:=by
 unfold lu
 rw [qM e kinds (by omega)]
 exact⟨_,rfl⟩
theorem Hd{l:af}(h:Lb l):oY iY l (fun R=>l.a_.length≤R.length):=by
 unfold oY iY
 have ha:=h.a
 have hb:=h.b
 rw [E2 _ _ (by omega) (by omega),ce]
 obtain⟨b,hb2⟩:=sZ l.n.Cond (l.a_++l.b) h.n.cond
 refine⟨b,l.a_++l.b,?_,fun _=>by simp⟩
 show(lu l.n.Cond (l.a_++l.b)).bind _=_
 rw [hb2];rfl
theorem Dc{l:af}(h:Lb l):oY gS l (fun R=>R=l.a_):=by
 unfold oY gS
 obtain⟨b,hb2⟩:=sZ l.n.Cond l.a_ h.n.cond
 refine⟨b,l.a_,?_,fun _=>rfl⟩
 show(lu l.n.Cond l.a_).bind _=_
 rw [hb2];rfl
theorem Ew{l:af}:oY jL l (fun R=>R=l.a_):=⟨true,l.a_,rfl,fun _=>rfl⟩
theorem GF{l:af}:oY iW l (fun R=>R=l.a_):=by
 unfold oY iW
 rw [sQ (f:=kK _) (fun _=>rfl),ce]
 exact⟨_,l.a_,rfl,fun _=>rfl⟩
theorem C4(nx:Bool→af→Option (Bool×af))(l:af)(R:List Int)(ok:Bool)(k:Int)(h:R.length≤100000):dF nx {l with result:=R} ok k=nx ok {l with result:=R++[k]}:=by
 unfold dF
 show(mC R [k]).bind _=_
 rw [fh (by simp;omega)];rfl
theorem C2{l:af}(gs:List jn): ∀(ok:Bool) (R:List Int),(∀g∈gs,g.Arg.Nodes.length≤5000)→R.length+gs.length≤20000→
  ∃ok' R',cn gs ok {l with result:=R}=some (ok',{l with result:=R' })∧R'.length=R.length+gs.length:=by
 induction gs with
 |nil=>intro ok R _ _;exact⟨ok,R,rfl,rfl⟩
 |cons g tl ih=>
  intro ok R hg hR
  have key: ∀(ok2:Bool) (k:Int),∃ok' R',dF (cn tl) {l with result:=R} ok2 k=some (ok',{l with result:=R' })∧R'.length=R.length+(g::tl).length:=by
   intro ok2 k
   rw [C4 _ _ _ _ _ (by simp at hR;omega)]
   obtain⟨ok',R',h1,h2⟩:=ih ok2 (R++[k]) (fun x hx=>hg x (kR _ hx)) (by simp at hR ⊢;omega)
   exact⟨ok',R',h1,by rw [h2];simp;omega⟩
  unfold cn
  split
  ·exact key _ _
  ·show∃ok' R',(lO g.Arg l.a_).bind _=_∧_
   rw [qM g.Arg l.a_ (by have:=hg g (kU ..);omega),ce]
   split
   ·exact key _ _
   ·split
    ·unfold fQ
     split
     ·exact key _ _
     ·exact key _ _
    ·unfold fQ
     split
     ·exact key _ _
     ·exact key _ _
theorem C3{l:af}(h:Lb l)(ks:List Int): ∀R:List Int,R.length+ks.length≤5000→ ∃ok R',eX l ks {l with result:=R}=some (ok,{l with result:=R' })∧R'.length≤R.length+ks.length+l.n.Aggs.length∧(ok=true→R'.length=R.length+ks.length+l.n.Aggs.length):=by
 induction ks with
 |nil=>
  intro R hR
  unfold eX
  obtain⟨ok,R',h1,h2⟩:=C2 (l:=l) l.n.Aggs (((decide ((l.n.Keys.length:Int)≤(3:Int)))&&(decide ((l.n.Aggs.length:Int)≤(12:Int))))&&(decide ((0:Int)<(IntKind.i64.wrap ((l.n.Keys.length:Int)+(l.n.Aggs.length:Int)))))) R h.n.args (by have:=h.n.aggs;simp at hR;omega)
  exact⟨ok,R',h1,by rw [h2];simp,fun _=>by rw [h2];simp⟩
 |cons k tl ih=>
  intro R hR
  unfold eX
  split
  ·exact⟨false,R,rfl,by omega,fun h=>by cases h⟩
  ·rename_i hk
   show∃ok R',(ea l.a_ k).bind _=_∧_
   have hk' :J0 l.a_ k=false:=by
    unfold J0
    simpa using hk
   rw [Ni hk',ce]
   show∃ok R',(mC R [Rd l.a_ k]).bind _=_∧_
   rw [fh (by simp at hR ⊢;omega),ce]
   obtain⟨ok,R',h1,h2,h3⟩:=ih (R++[Rd l.a_ k]) (by simp at hR ⊢;omega)
   refine⟨ok,R',h1,?_,fun ho=>?_⟩
   ·simp at h2 ⊢;omega
   ·have:=h3 ho;simp at this ⊢;omega
theorem C5{l:af}(h:Lb l): ∃ok R',eS l=some (ok,{l with result:=R' })∧R'.length≤l.n.Keys.length+l.n.Aggs.length∧(ok=true→R'.length=l.n.Keys.length+l.n.Aggs.length):=by
 unfold eS
 obtain⟨ok,R',h1,h2,h3⟩:=C3 h l.n.Keys [] (by have:=h.n.keys;simpa using this)
 exact⟨ok,R',h1,by simpa using h2,by simpa using h3⟩
theorem Ez{l:af}(h:Lb l):oY eS l (fun R=>l.n.Keys.length≤R.length):=by
 obtain⟨ok,R',h1,h2,h3⟩:=C5 h
 exact⟨ok,R',h1,fun ho=>by have:=h3 ho;omega⟩
theorem BU{k i:Nat}(h:k+i≤100000):IntKind.i64.wrap ((k:Int)+(i:Int))=((k+i:Nat):Int):=by
 rw [j8 (by omega) (by omega)];omega
theorem zC{l:af}(hk:l.n.Keys.length≤5000)(gs:List jn): ∀(i:Nat) (R:List Int),R.length=l.n.Keys.length+(i+gs.length)→R.length≤20000→ ∃R',e8 gs i {l with result:=R}=some (true,{l with result:=R' })∧R'.length=R.length:=by
 induction gs with
 |nil=>intro i R _ _;exact⟨R,rfl,rfl⟩
 |cons g tl ih=>
  intro i R hR hb
  unfold e8
  simp only [lm]at hR
  split
  ·show∃R',(ea R (IntKind.i64.wrap ((l.n.Keys.length:Int)+(i:Int)))).bind _=_∧_
   rw [BU (by omega),dy,nK (by omega),ce]
   simp only [ce]
   obtain⟨R',h1,h2⟩:=ih (i+1) (R.set ((l.n.Keys.length+i:Nat):Int).toNat 4) (by rw [xk];omega) (by rw [xk];omega)
   exact⟨R',h1,by rw [h2,xk]⟩
  ·exact ih (i+1) R (by omega) hb
theorem Bm{l:af}(h:Lb l):oY gv l (fun R=>l.n.Keys.length≤R.length):=by
 unfold oY gv
 obtain⟨ok,R',h1,h2,h3⟩:=C5 h
 have hk:=h.n.keys
 have hg:=h.n.aggs
 rw [h1,ce]
 cases ok with
 |false=>exact⟨false,R',rfl,fun h=>by cases h⟩
 |true=>
  have h4:=h3 rfl
  obtain⟨R2,g1,g2⟩:=zC (l:=l) hk l.n.Aggs 0 R' (by omega) (by omega)
  exact⟨true,R2,g1,fun _=>by omega⟩
theorem Da{l:af}(hk:l.n.Keys.length≤5000)(gs:List jn): ∀(i:Nat) (ok:Bool) (R:List Int),l.a_.length=l.n.Keys.length+(i+gs.length)→R.length=l.a_.length→R.length≤20000→ ∃ok' R',dm l gs i ok {l with result:=R}=some (ok',{l with result:=R' })∧R'.length=R.length:=by
 induction gs with
 |nil=>intro i ok R _ _ _;exact⟨ok,R,rfl,rfl⟩
 |cons g tl ih=>
  intro i ok R ha hR hb
  simp only [lm]at ha
  have key: ∀(ok2:Bool) (R2:List Int),R2.length=R.length→ ∃ok' R',dm l tl (i+1) ok2 {l with result:=R2}=some (ok',{l with result:=R' })∧R'.length=R.length:=by
   intro ok2 R2 h2
   obtain⟨ok',R',g1,g2⟩:=ih (i+1) ok2 R2 (by omega) (by omega) (by omega)
   exact⟨ok',R',g1,by omega⟩
  have Hc: ∀(e3:Int) (x:Bool),∃ok' R',hJ l (dm l tl) i g ok {l with result:=R} e3 x=some (ok',{l with result:=R' })∧R'.length=R.length:=by
   intro e3 x
   unfold hJ
   split
   ·exact key _ R rfl
   ·split
    ·show∃ok' R',(ea R (IntKind.i64.wrap ((l.n.Keys.length:Int)+(i:Int)))).bind _=_∧_
     rw [BU (by omega),dy,nK (by omega),ce]
     simp only [ce]
     exact key _ _ (by rw [xk])
    ·split<;>(unfold jx;split)<;>exact key _ R rfl
  unfold dm
  show∃ok' R',(ea l.a_ (IntKind.i64.wrap ((l.n.Keys.length:Int)+(i:Int)))).bind _=_∧_
  rw [BU (by omega),dy,nK (by omega),ce]
  split<;>exact Hc _ _
theorem Db{l:af}(hk:l.n.Keys.length≤5000)(hg:l.n.Aggs.length≤5000)(ha:l.a_.length=l.n.Keys.length+l.n.Aggs.length)(r:List Int)(hr:r.length=l.a_.length)(ks:List Int): ∀(i:Nat) (ok:Bool),i+ks.length=l.n.Keys.length→ ∃ok' R',hG l r ks i ok=some (ok',{l with result:=R' })∧R'.length=r.length:=by
 induction ks with
 |nil=>
  intro i ok _
  exact Da hk l.n.Aggs 0 ok r (by omega) hr (by omega)
 |cons k tl ih=>
  intro i ok hi
  simp only [lm]at hi
  unfold hG
  have: ∃t,(if(ok&&(k==(i:Int)))then((ea l.a_ (i:Int)).bind fun e5=>some (e5 !=(4:Int)))else some false)=some t:=by
   split
   ·rw [dy,nK (by omega)];exact⟨_,rfl⟩
   ·exact⟨_,rfl⟩
  obtain⟨t,ht⟩:=this
  rw [ht,ce]
  exact ih (i+1) t (by omega)
theorem EE{l:af}(h:Lb l)(hA: ∃e,ea l.nodes l.n.A=some e):oY ir l (fun R=>l.n.Keys.length≤R.length):=by
 obtain⟨e,he⟩:=hA
 unfold oY ir
 have hk:=h.n.keys
 have hg:=h.n.aggs
 have ha:=h.a
 rw [he,ce]
 by_cases hc:((((e.Op==(9:Int))&&(decide ((l.n.Keys.length:Int)≤(3:Int))))&&(decide ((l.n.Aggs.length:Int)≤(12:Int))))&&((IntKind.i64.wrap ((l.n.Keys.length:Int)+(l.n.Aggs.length:Int)))==(l.a_.length:Int)))=true
 ·rw [dg (by rw [hc];decide),qY _ (by omega),ce]
  have hl:l.a_.length=l.n.Keys.length+l.n.Aggs.length:=by
   simp only [mA,vP]at hc
   have:=hc.2
   rw [BU (by omega)]at this
   omega
  obtain⟨ok',R',g1,g2⟩:=Db hk hg hl l.a_ rfl l.n.Keys 0 _ (pt _)
  exact⟨ok',R',g1,fun _=>by omega⟩
 ·rw [c8 (by rw [tY]at hc;rw [hc];rfl)]
  exact⟨false,l.result,by cases l;rfl,fun h=>by cases h⟩
theorem zA{l:af}(es:List bT): ∀R:List Int,(∀e∈es,e.Nodes.length≤5000)→R.length+es.length≤20000→ ∃ok R',gi es {l with result:=R}=some (ok,{l with result:=R' })∧(ok=true→R'.length=R.length+es.length):=by
 induction es with
 |nil=>intro R _ _;exact⟨_,R,rfl,fun _=>rfl⟩
 |cons e tl ih=>
  intro R he hR
  unfold gi
  show∃ok R',(lO e l.a_).bind _=_∧_
  rw [qM e l.a_ (by have:=he e (kU ..);omega),ce]
  split
  ·exact⟨false,R,rfl,fun h=>by cases h⟩
  ·show∃ok R',(mC R [(FB e l.a_).1]).bind _=_∧_
   rw [fh (by simp at hR ⊢;omega),ce]
   obtain⟨ok,R',h1,h2⟩:=ih (R++[(FB e l.a_).1]) (fun x hx=>he x (kR _ hx)) (by simp at hR ⊢;omega)
   exact⟨ok,R',h1,fun ho=>by have:=h2 ho;simp at this ⊢;omega⟩
theorem Bl{l:af}(h:Lb l):oY iB l (fun R=>R.length=l.n.Items.length):=by
 have hi:=h.n.items
 obtain⟨ok,R',h1,h2⟩:=zA (l:=l) l.n.Items [] h.n.exprs (by simp;omega)
 exact⟨ok,R',h1,by simpa using h2⟩
theorem Cq(nx:Nat→af→Option (Bool×af))(l:af)(R:List Int)(i:Nat)(e k:Int)(h:R.length≤100000):fP nx i {l with result:=R} e k=if((e !=(0:Int))&&(e !=k))then some (false,{l with result:=R})else nx (i+1) {l with result:=R++[k]}:=by
 unfold fP
 split
 ·rfl
 ·show(mC R [k]).bind _=_
  rw [fh (by simp;omega)];rfl
theorem Cp{l:af}(xs:List Int): ∀(i:Nat) (R:List Int),i+xs.length=l.b.length→R.length+xs.length≤20000→ ∃ok R',ef xs i {l with result:=R}=some (ok,{l with result:=R' })∧(ok=true→R'.length=R.length+xs.length):=by
 induction xs with
 |nil=>intro i R _ _;exact⟨true,R,rfl,fun _=>rfl⟩
 |cons a tl ih=>
  intro i R hi hR
  simp only [lm]at hi hR
  have key: ∀e k:Int,∃ok R',fP (ef tl) i {l with result:=R} e k=some (ok,{l with result:=R' })∧(ok=true→R'.length=R.length+(a::tl).length):=by
   intro e k
   rw [Cq _ _ _ _ _ _ (by omega)]
   split
   ·exact⟨false,R,rfl,fun h=>by cases h⟩
   ·obtain⟨ok,R',h1,h2⟩:=ih (i+1) (R++[k]) (by omega) (by simp;omega)
    exact⟨ok,R',h1,fun ho=>by have:=h2 ho;simp at this ⊢;omega⟩
  unfold ef
  show∃ok R',(ea l.b (i:Int)).bind _=_∧_
  rw [dy,nK (by omega),ce]
  split<;>exact key _ _
theorem DY{l:af}(h:Lb l):oY ip l (fun R=>R.length=l.a_.length):=by
 unfold oY ip
 have ha:=h.a
 by_cases hl:l.a_.length=l.b.length
 ·rw [dg (by simp [hl])]
  obtain⟨ok,R',h1,h2⟩:=Cp (l:=l) l.a_ 0 [] (by omega) (by simp;omega)
  exact⟨ok,R',h1,by simpa using h2⟩
 ·rw [c8 (by simp;omega)]
  exact⟨false,l.result,by cases l;rfl,fun h=>by cases h⟩
def uY(op:Int):af→Unit→Option (Bool×af):=(oW ((pT).getD []) op).getD (fun _ _=>none)
theorem Jg{l:af}(h:Lb l)(hA:yb l.n.Op≠0→ ∃e,ea l.nodes l.n.A=some e)(hp:0≤yb l.n.Op):oY (fun l=>uY l.n.Op l ()) l (DI l.n l.a_ l.b):=by
 have imp: ∀{m:af→Option (Bool×af)} {P:List Int→Prop},oY m l P→(uY l.n.Op l ()=m l)→(∀R,P R→DI l.n l.a_ l.b R)→oY (fun l=>uY l.n.Op l ()) l (DI l.n l.a_ l.b):=
  fun⟨ok,R,h1,h2⟩ he hr=>⟨ok,R,by show uY l.n.Op l ()=_;rw [he];exact h1,fun ho=>hr R (h2 ho)⟩
 by_cases h1:l.n.Op=1
 ·exact imp GT (by rw [h1];rfl) (fun R hR=>by
   unfold DI
   rw [h1]
   exact⟨fun _=>hR,fun h=>absurd h (by decide),fun h=>absurd h (by decide),fun h=>absurd h (by decide),fun h=>absurd h (by decide),fun h=>absurd h (by decide),fun h=>absurd h (by decide)⟩)
 by_cases h2:l.n.Op=2
 ·exact imp (Hd h) (by rw [h2];rfl) (fun R hR=>by simp [DI,h2];exact hR)
 by_cases h3:l.n.Op=3
 ·exact imp (Dc h) (by rw [h3];rfl) (fun R hR=>by simp [DI,h3];exact hR)
 by_cases h4:l.n.Op=4
 ·exact imp (Ez h) (by rw [h4];rfl) (fun R hR=>by simp [DI,h4];exact hR)
 by_cases h5:l.n.Op=5
 ·exact imp (Bl h) (by rw [h5];rfl) (fun R hR=>by simp [DI,h5];exact hR)
 by_cases h6:l.n.Op=6
 ·exact imp Ew (by rw [h6];rfl) (fun R hR=>by simp [DI,h6];exact hR)
 by_cases h7:l.n.Op=7
 ·exact imp (DY h) (by rw [h7];rfl) (fun R hR=>by simp [DI,h7];exact hR)
 by_cases h8:l.n.Op=8
 ·exact imp GF (by rw [h8];rfl) (fun R hR=>by simp [DI,h8];exact hR)
 by_cases h9:l.n.Op=9
 ·exact imp (Ex h) (by rw [h9];rfl) (fun R hR=>by simp [DI,h9];exact⟨hR.1,hR.2⟩)
 by_cases h10:l.n.Op=10
 ·exact imp (Bm h) (by rw [h10];rfl) (fun R hR=>by simp [DI,h10];exact hR)
 by_cases h11:l.n.Op=11
 ·exact imp (EE h (hA (by rw [h11];decide))) (by rw [h11];rfl) (fun R hR=>by simp [DI,h11];exact hR)
 exfalso
 simp [yb,h1,h2,h3,h4,h5,h6,h7,h8,h9,h10,h11]at hp
end Go.Proofs.YtmogpgcfognefaaGreatDoor

