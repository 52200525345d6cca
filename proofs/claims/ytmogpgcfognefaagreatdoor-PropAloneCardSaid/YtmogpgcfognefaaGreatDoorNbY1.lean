/- cF of this claim: Y1. -/
import Derived.Test.YtmogpgcfognefaaGreatDoorNbQ1
set_option linter.all false
namespace Go.Proofs.YtmogpgcfognefaaGreatDoor
open Go

def s4(op:Int):Int:=if op=1∨op=9 then 0 else if op=2∨op=7 then 2 else if op=3∨op=4∨op=5∨op=6∨op=8∨op=10∨op=11 then 1 else -1
theorem yu(op:Int):p5 op=some (s4 op):=by
 by_cases h1:op=1
 ·subst h1;rfl
 by_cases h2:op=2
 ·subst h2;rfl
 by_cases h3:op=3
 ·subst h3;rfl
 by_cases h4:op=4
 ·subst h4;rfl
 by_cases h5:op=5
 ·subst h5;rfl
 by_cases h6:op=6
 ·subst h6;rfl
 by_cases h7:op=7
 ·subst h7;rfl
 by_cases h8:op=8
 ·subst h8;rfl
 by_cases h9:op=9
 ·subst h9;rfl
 by_cases h10:op=10
 ·subst h10;rfl
 by_cases h11:op=11
 ·subst h11;rfl
 simp [p5,ne,nd,gn,s4,h1,h2,h3,h4,h5,h6,h7,h8,h9,h10,h11]
theorem ul(v:Int): ∀(l:List Int) (i:Nat),∃j:Int,fi v l i=some j∧((0≤j)↔v∈l)∧(0≤j→ ∃k:Nat,j=((i+k:Nat):Int)∧k<l.length∧l[k]? =some v)∧ -1≤j
 |[],i=>⟨-1,rfl,by simp,by simp,by simp⟩
 |e::tl,i=>by
  unfold fi
  by_cases h:v=e
  ·subst h
   exact⟨i,by simp,by simp,fun _=>⟨0,by simp,by simp,rfl⟩,by omega⟩
  ·obtain⟨j,h1,h2,h3,h4⟩:=ul v tl (i+1)
   refine⟨j,by rw [dh (by simpa using h)];exact h1,by rw [h2];simp [h],fun hj=>?_,h4⟩
   obtain⟨k,g1,g2,g3⟩:=h3 hj
   exact⟨k+1,by rw [g1];congr 1;omega,by simp;omega,by simpa using g3⟩
theorem um(l:List Int)(v:Int): ∃j:Int,gv l v=some j∧((0≤j)↔v∈l)∧(0≤j→ ∃k:Nat,j=(k:Int)∧k<l.length∧l[k]? =some v)∧ -1≤j:=by
 obtain⟨j,h1,h2,h3,h4⟩:=ul v l 0
 exact⟨j,h1,h2,fun hj=>by obtain⟨k,g1,g2,g3⟩:=h3 hj;exact⟨k,by simpa using g1,g2,g3⟩,h4⟩
theorem qC(l:List Int)(v:Int):c8 l v=some (decide (v∈l)):=by
 unfold c8
 obtain⟨j,h1,h2,_⟩:=um l v
 rw [h1,ce,yL.2 h2]
theorem ur(s2:List Int): ∀(l:List Int) (i:Nat),i+l.length=s2.length→ei s2 l i=some (decide (l=s2.drop i))
 |[],i,h=>by
  unfold ei
  rw [E1 (by simp at h;omega)];rfl
 |e::tl,i,h=>by
  have hi:i<s2.length:=by simp at h;omega
  unfold ei
  rw [de,mM hi,ce,wv hi]
  by_cases he:e=s2[i]
  ·rw [dh (by simp [he]),ur s2 tl (i+1) (by simp at h;omega)]
   congr 1
   rw [yL]
   exact⟨fun h=>by rw [he,h],fun h=>by injection h⟩
  ·rw [df (by simpa using he),vG]
   intro h
   injection h with h1 _
   exact he h1
theorem ut(a b:List Int):ep a b=some (decide (a=b)):=by
 unfold ep
 by_cases h:a.length=b.length
 ·rw [dh (by simp [h]),ur b a 0 (by omega),qJ]
 ·rw [df (by simp;omega),vG (fun e=>h (by rw [e]))]
def Cv(n:aB)(a b R:List Int):Prop:=
 (n.Op=1→R=n.Kinds∧0≤n.Table∧n.Table<4∧0<n.Kinds.length)∧(n.Op=9→R=n.Kinds∧0≤n.Table∧n.Table<30∧0<n.Kinds.length)∧(n.Op=2→a.length≤R.length)∧(n.Op=3∨n.Op=6∨n.Op=8→R=a)∧
  (n.Op=4∨n.Op=10∨n.Op=11→n.Keys.length≤R.length)∧(n.Op=5→R.length=n.Items.length)∧(n.Op=7→R.length=a.length)
structure Lb(l:af):Prop where
 n:xN l.n
 a:l.a_.length≤16
 b:l.b.length≤16
def oK(m:af→Option (Bool×af))(l:af)(P:List Int→Prop):Prop:= ∃ok R,m l=some (ok,{l with result:=R})∧(ok=true→P R)
theorem Ft{l:af}(h:Lb l):oK jz l (fun R=>R=l.n.Kinds∧0≤l.n.Table∧l.n.Table<4∧0<l.n.Kinds.length):=by
 unfold oK jz
 rw [lr (f:=mY) (fun _=>rfl),ce]
 refine⟨_,_,rfl,fun h=>⟨rfl,?_⟩⟩
 simp only [iN,Cx]at h
 omega
theorem Dc{l:af}(h:Lb l):oK iH l (fun R=>R=l.n.Kinds∧0≤l.n.Table∧l.n.Table<30∧0<l.n.Kinds.length):=by
 unfold oK iH
 rw [lr (f:=mv) (fun _=>rfl),ce]
 refine⟨_,_,rfl,fun h=>⟨rfl,?_⟩⟩
 simp only [iN,Cx]at h
 omega
theorem sk(e:bk)(kinds:List Int)(h:e.Nodes.length≤5000): ∃b,lO e kinds=some b:=by
 unfold lO
 rw [ql e kinds (by omega)]
 exact⟨_,rfl⟩
theorem FO{l:af}(h:Lb l):oK jA l (fun R=>l.a_.length≤R.length):=by
 unfold oK jA
 have ha:=h.a
 have hb:=h.b
 rw [DL _ _ (by omega) (by omega),ce]
 obtain⟨b,hb2⟩:=sk l.n.Cond (l.a_++l.b) h.n.cond
 refine⟨b,l.a_++l.b,?_,fun _=>by simp⟩
 show(lO l.n.Cond (l.a_++l.b)).bind _=_
 rw [hb2];rfl
theorem BR{l:af}(h:Lb l):oK ib l (fun R=>R=l.a_):=by
 unfold oK ib
 obtain⟨b,hb2⟩:=sk l.n.Cond l.a_ h.n.cond
 refine⟨b,l.a_,?_,fun _=>rfl⟩
 show(lO l.n.Cond l.a_).bind _=_
 rw [hb2];rfl
theorem Da{l:af}:oK kg l (fun R=>R=l.a_):=⟨true,l.a_,rfl,fun _=>rfl⟩
theorem Fg{l:af}:oK jy l (fun R=>R=l.a_):=by
 unfold oK jy
 rw [r0 (f:=ld _) (fun _=>rfl),ce]
 exact⟨_,l.a_,rfl,fun _=>rfl⟩
theorem BI(nx:Bool→af→Option (Bool×af))(l:af)(R:List Int)(ok:Bool)(k:Int)(h:R.length≤100000):dM nx {l with result:=R} ok k=nx ok {l with result:=R++[k]}:=by
 unfold dM
 show(nK R [k]).bind _=_
 rw [gF (by simp;omega)];rfl
theorem BG{l:af}(gs:List fU): ∀(ok:Bool) (R:List Int),(∀g∈gs,g.Arg.Nodes.length≤5000)→R.length+gs.length≤20000→
  ∃ok' R',cu gs ok {l with result:=R}=some (ok',{l with result:=R' })∧R'.length=R.length+gs.length:=by
 induction gs with
 |nil=>intro ok R _ _;exact⟨ok,R,rfl,rfl⟩
 |cons g tl ih=>
  intro ok R hg hR
  have key: ∀(ok2:Bool) (k:Int),∃ok' R',dM (cu tl) {l with result:=R} ok2 k=some (ok',{l with result:=R' })∧R'.length=R.length+(g::tl).length:=by
   intro ok2 k
   rw [BI _ _ _ _ _ (by simp at hR;omega)]
   obtain⟨ok',R',h1,h2⟩:=ih ok2 (R++[k]) (fun x hx=>hg x (lC _ hx)) (by simp at hR ⊢;omega)
   exact⟨ok',R',h1,by rw [h2];simp;omega⟩
  unfold cu
  split
  ·exact key _ _
  ·show∃ok' R',(mh g.Arg l.a_).bind _=_∧_
   rw [ql g.Arg l.a_ (by have:=hg g (lI ..);omega),ce]
   split
   ·exact key _ _
   ·split
    ·unfold ga
     split
     ·exact key _ _
     ·exact key _ _
    ·unfold ga
     split
     ·exact key _ _
     ·exact key _ _
theorem BH{l:af}(h:Lb l)(ks:List Int): ∀R:List Int,R.length+ks.length≤5000→ ∃ok R',eZ l ks {l with result:=R}=some (ok,{l with result:=R' })∧R'.length≤R.length+ks.length+l.n.Aggs.length∧(ok=true→R'.length=R.length+ks.length+l.n.Aggs.length):=by
 induction ks with
 |nil=>
  intro R hR
  unfold eZ
  obtain⟨ok,R',h1,h2⟩:=BG (l:=l) l.n.Aggs (((decide ((l.n.Keys.length:Int)≤(3:Int)))&&(decide ((l.n.Aggs.length:Int)≤(12:Int))))&&(decide ((0:Int)<(IntKind.i64.wrap ((l.n.Keys.length:Int)+(l.n.Aggs.length:Int)))))) R h.n.args (by have:=h.n.aggs;simp at hR;omega)
  exact⟨ok,R',h1,by rw [h2];simp,fun _=>by rw [h2];simp⟩
 |cons k tl ih=>
  intro R hR
  unfold eZ
  split
  ·exact⟨false,R,rfl,by omega,fun h=>by cases h⟩
  ·rename_i hk
   show∃ok R',(fe l.a_ k).bind _=_∧_
   have hk' :Im l.a_ k=false:=by
    unfold Im
    simpa using hk
   rw [Lj hk',ce]
   show∃ok R',(nK R [OG l.a_ k]).bind _=_∧_
   rw [gF (by simp at hR ⊢;omega),ce]
   obtain⟨ok,R',h1,h2,h3⟩:=ih (R++[OG l.a_ k]) (by simp at hR ⊢;omega)
   refine⟨ok,R',h1,?_,fun ho=>?_⟩
   ·simp at h2 ⊢;omega
   ·have:=h3 ho;simp at this ⊢;omega
theorem BJ{l:af}(h:Lb l): ∃ok R',eW l=some (ok,{l with result:=R' })∧R'.length≤l.n.Keys.length+l.n.Aggs.length∧(ok=true→R'.length=l.n.Keys.length+l.n.Aggs.length):=by
 unfold eW
 obtain⟨ok,R',h1,h2,h3⟩:=BH h l.n.Keys [] (by have:=h.n.keys;simpa using this)
 exact⟨ok,R',h1,by simpa using h2,by simpa using h3⟩
theorem Dd{l:af}(h:Lb l):oK eW l (fun R=>l.n.Keys.length≤R.length):=by
 obtain⟨ok,R',h1,h2,h3⟩:=BJ h
 exact⟨ok,R',h1,fun ho=>by have:=h3 ho;omega⟩
theorem AL{k i:Nat}(h:k+i≤100000):IntKind.i64.wrap ((k:Int)+(i:Int))=((k+i:Nat):Int):=by
 rw [j9 (by omega) (by omega)];omega
theorem yy{l:af}(hk:l.n.Keys.length≤5000)(gs:List fU): ∀(i:Nat) (R:List Int),R.length=l.n.Keys.length+(i+gs.length)→R.length≤20000→ ∃R',fk gs i {l with result:=R}=some (true,{l with result:=R' })∧R'.length=R.length:=by
 induction gs with
 |nil=>intro i R _ _;exact⟨R,rfl,rfl⟩
 |cons g tl ih=>
  intro i R hR hb
  unfold fk
  simp only [mN]at hR
  split
  ·show∃R',(fe R (IntKind.i64.wrap ((l.n.Keys.length:Int)+(i:Int)))).bind _=_∧_
   rw [AL (by omega),de,mM (by omega),ce]
   simp only [ce]
   obtain⟨R',h1,h2⟩:=ih (i+1) (R.set ((l.n.Keys.length+i:Nat):Int).toNat 4) (by rw [ye];omega) (by rw [ye];omega)
   exact⟨R',h1,by rw [h2,ye]⟩
  ·exact ih (i+1) R (by omega) hb
theorem Af{l:af}(h:Lb l):oK gL l (fun R=>l.n.Keys.length≤R.length):=by
 unfold oK gL
 obtain⟨ok,R',h1,h2,h3⟩:=BJ h
 have hk:=h.n.keys
 have hg:=h.n.aggs
 rw [h1,ce]
 cases ok with
 |false=>exact⟨false,R',rfl,fun h=>by cases h⟩
 |true=>
  have h4:=h3 rfl
  obtain⟨R2,g1,g2⟩:=yy (l:=l) hk l.n.Aggs 0 R' (by omega) (by omega)
  exact⟨true,R2,g1,fun _=>by omega⟩
theorem BO{l:af}(hk:l.n.Keys.length≤5000)(gs:List fU): ∀(i:Nat) (ok:Bool) (R:List Int),l.a_.length=l.n.Keys.length+(i+gs.length)→R.length=l.a_.length→R.length≤20000→ ∃ok' R',dq l gs i ok {l with result:=R}=some (ok',{l with result:=R' })∧R'.length=R.length:=by
 induction gs with
 |nil=>intro i ok R _ _ _;exact⟨ok,R,rfl,rfl⟩
 |cons g tl ih=>
  intro i ok R ha hR hb
  simp only [mN]at ha
  have key: ∀(ok2:Bool) (R2:List Int),R2.length=R.length→ ∃ok' R',dq l tl (i+1) ok2 {l with result:=R2}=some (ok',{l with result:=R' })∧R'.length=R.length:=by
   intro ok2 R2 h2
   obtain⟨ok',R',g1,g2⟩:=ih (i+1) ok2 R2 (by omega) (by omega) (by omega)
   exact⟨ok',R',g1,by omega⟩
  have Iz: ∀(e3:Int) (x:Bool),∃ok' R',ir l (dq l tl) i g ok {l with result:=R} e3 x=some (ok',{l with result:=R' })∧R'.length=R.length:=by
   intro e3 x
   unfold ir
   split
   ·exact key _ R rfl
   ·split
    ·show∃ok' R',(fe R (IntKind.i64.wrap ((l.n.Keys.length:Int)+(i:Int)))).bind _=_∧_
     rw [AL (by omega),de,mM (by omega),ce]
     simp only [ce]
     exact key _ _ (by rw [ye])
    ·split<;>(unfold jU;split)<;>exact key _ R rfl
  unfold dq
  show∃ok' R',(fe l.a_ (IntKind.i64.wrap ((l.n.Keys.length:Int)+(i:Int)))).bind _=_∧_
  rw [AL (by omega),de,mM (by omega),ce]
  split<;>exact Iz _ _
theorem BQ{l:af}(hk:l.n.Keys.length≤5000)(hg:l.n.Aggs.length≤5000)(ha:l.a_.length=l.n.Keys.length+l.n.Aggs.length)(r:List Int)(hr:r.length=l.a_.length)(ks:List Int): ∀(i:Nat) (ok:Bool),i+ks.length=l.n.Keys.length→ ∃ok' R',iq l r ks i ok=some (ok',{l with result:=R' })∧R'.length=r.length:=by
 induction ks with
 |nil=>
  intro i ok _
  exact BO hk l.n.Aggs 0 ok r (by omega) hr (by omega)
 |cons k tl ih=>
  intro i ok hi
  simp only [mN]at hi
  unfold iq
  have: ∃t,(if(ok&&(k==(i:Int)))then((fe l.a_ (i:Int)).bind fun e5=>some (e5 !=(4:Int)))else some false)=some t:=by
   split
   ·rw [de,mM (by omega)];exact⟨_,rfl⟩
   ·exact⟨_,rfl⟩
  obtain⟨t,ht⟩:=this
  rw [ht,ce]
  exact ih (i+1) t (by omega)
theorem Dh{l:af}(h:Lb l)(hA: ∃e,fe l.nodes l.n.A=some e):oK iI l (fun R=>l.n.Keys.length≤R.length):=by
 obtain⟨e,he⟩:=hA
 unfold oK iI
 have hk:=h.n.keys
 have hg:=h.n.aggs
 have ha:=h.a
 rw [he,ce]
 by_cases hc:((((e.Op==(9:Int))&&(decide ((l.n.Keys.length:Int)≤(3:Int))))&&(decide ((l.n.Aggs.length:Int)≤(12:Int))))&&((IntKind.i64.wrap ((l.n.Keys.length:Int)+(l.n.Aggs.length:Int)))==(l.a_.length:Int)))=true
 ·rw [dh (by rw [hc];decide),n5 _ (by omega),ce]
  have hl:l.a_.length=l.n.Keys.length+l.n.Aggs.length:=by
   simp only [iN,u4]at hc
   have:=hc.2
   rw [AL (by omega)]at this
   omega
  obtain⟨ok',R',g1,g2⟩:=BQ hk hg hl l.a_ rfl l.n.Keys 0 _ (nm _)
  exact⟨ok',R',g1,fun _=>by omega⟩
 ·rw [df (by rw [s6]at hc;rw [hc];rfl)]
  exact⟨false,l.result,by cases l;rfl,fun h=>by cases h⟩
theorem yx{l:af}(es:List bk): ∀R:List Int,(∀e∈es,e.Nodes.length≤5000)→R.length+es.length≤20000→ ∃ok R',gx es {l with result:=R}=some (ok,{l with result:=R' })∧(ok=true→R'.length=R.length+es.length):=by
 induction es with
 |nil=>intro R _ _;exact⟨_,R,rfl,fun _=>rfl⟩
 |cons e tl ih=>
  intro R he hR
  unfold gx
  show∃ok R',(mh e l.a_).bind _=_∧_
  rw [ql e l.a_ (by have:=he e (lI ..);omega),ce]
  split
  ·exact⟨false,R,rfl,fun h=>by cases h⟩
  ·show∃ok R',(nK R [(Ek e l.a_).1]).bind _=_∧_
   rw [gF (by simp at hR ⊢;omega),ce]
   obtain⟨ok,R',h1,h2⟩:=ih (R++[(Ek e l.a_).1]) (fun x hx=>he x (lC _ hx)) (by simp at hR ⊢;omega)
   exact⟨ok,R',h1,fun ho=>by have:=h2 ho;simp at this ⊢;omega⟩
theorem Ae{l:af}(h:Lb l):oK iR l (fun R=>R.length=l.n.Items.length):=by
 have hi:=h.n.items
 obtain⟨ok,R',h1,h2⟩:=yx (l:=l) l.n.Items [] h.n.exprs (by simp;omega)
 exact⟨ok,R',h1,by simpa using h2⟩
theorem Bb(nx:Nat→af→Option (Bool×af))(l:af)(R:List Int)(i:Nat)(e k:Int)(h:R.length≤100000):f9 nx i {l with result:=R} e k=if((e !=(0:Int))&&(e !=k))then some (false,{l with result:=R})else nx (i+1) {l with result:=R++[k]}:=by
 unfold f9
 split
 ·rfl
 ·show(nK R [k]).bind _=_
  rw [gF (by simp;omega)];rfl
theorem Ba{l:af}(xs:List Int): ∀(i:Nat) (R:List Int),i+xs.length=l.b.length→R.length+xs.length≤20000→ ∃ok R',eu xs i {l with result:=R}=some (ok,{l with result:=R' })∧(ok=true→R'.length=R.length+xs.length):=by
 induction xs with
 |nil=>intro i R _ _;exact⟨true,R,rfl,fun _=>rfl⟩
 |cons a tl ih=>
  intro i R hi hR
  simp only [mN]at hi hR
  have key: ∀e k:Int,∃ok R',f9 (eu tl) i {l with result:=R} e k=some (ok,{l with result:=R' })∧(ok=true→R'.length=R.length+(a::tl).length):=by
   intro e k
   rw [Bb _ _ _ _ _ _ (by omega)]
   split
   ·exact⟨false,R,rfl,fun h=>by cases h⟩
   ·obtain⟨ok,R',h1,h2⟩:=ih (i+1) (R++[k]) (by omega) (by simp;omega)
    exact⟨ok,R',h1,fun ho=>by have:=h2 ho;simp at this ⊢;omega⟩
  unfold eu
  show∃ok R',(fe l.b (i:Int)).bind _=_∧_
  rw [de,mM (by omega),ce]
  split<;>exact key _ _
theorem CH{l:af}(h:Lb l):oK iG l (fun R=>R.length=l.a_.length):=by
 unfold oK iG
 have ha:=h.a
 by_cases hl:l.a_.length=l.b.length
 ·rw [dh (by simp [hl])]
  obtain⟨ok,R',h1,h2⟩:=Ba (l:=l) l.a_ 0 [] (by omega) (by simp;omega)
  exact⟨ok,R',h1,by simpa using h2⟩
 ·rw [df (by simp;omega)]
  exact⟨false,l.result,by cases l;rfl,fun h=>by cases h⟩
def ud(op:Int):af→Unit→Option (Bool×af):=(nW ((pw).getD []) op).getD (fun _ _=>none)
theorem HB{l:af}(h:Lb l)(hA:s4 l.n.Op≠0→ ∃e,fe l.nodes l.n.A=some e)(hp:0≤s4 l.n.Op):oK (fun l=>ud l.n.Op l ()) l (Cv l.n l.a_ l.b):=by
 have imp: ∀{m:af→Option (Bool×af)} {P:List Int→Prop},oK m l P→(ud l.n.Op l ()=m l)→(∀R,P R→Cv l.n l.a_ l.b R)→oK (fun l=>ud l.n.Op l ()) l (Cv l.n l.a_ l.b):=
  fun⟨ok,R,h1,h2⟩ he hr=>⟨ok,R,by show ud l.n.Op l ()=_;rw [he];exact h1,fun ho=>hr R (h2 ho)⟩
 by_cases h1:l.n.Op=1
 ·exact imp (Ft h) (by rw [h1];rfl) (fun R hR=>by simp [Cv,h1];exact⟨hR.1,hR.2⟩)
 by_cases h2:l.n.Op=2
 ·exact imp (FO h) (by rw [h2];rfl) (fun R hR=>by simp [Cv,h2];exact hR)
 by_cases h3:l.n.Op=3
 ·exact imp (BR h) (by rw [h3];rfl) (fun R hR=>by simp [Cv,h3];exact hR)
 by_cases h4:l.n.Op=4
 ·exact imp (Dd h) (by rw [h4];rfl) (fun R hR=>by simp [Cv,h4];exact hR)
 by_cases h5:l.n.Op=5
 ·exact imp (Ae h) (by rw [h5];rfl) (fun R hR=>by simp [Cv,h5];exact hR)
 by_cases h6:l.n.Op=6
 ·exact imp Da (by rw [h6];rfl) (fun R hR=>by simp [Cv,h6];exact hR)
 by_cases h7:l.n.Op=7
 ·exact imp (CH h) (by rw [h7];rfl) (fun R hR=>by simp [Cv,h7];exact hR)
 by_cases h8:l.n.Op=8
 ·exact imp Fg (by rw [h8];rfl) (fun R hR=>by simp [Cv,h8];exact hR)
 by_cases h9:l.n.Op=9
 ·exact imp (Dc h) (by rw [h9];rfl) (fun R hR=>by simp [Cv,h9];exact⟨hR.1,hR.2⟩)
 by_cases h10:l.n.Op=10
 ·exact imp (Af h) (by rw [h10];rfl) (fun R hR=>by simp [Cv,h10];exact hR)
 by_cases h11:l.n.Op=11
 ·exact imp (Dh h (hA (by rw [h11];decide))) (by rw [h11];rfl) (fun R hR=>by simp [Cv,h11];exact hR)
 exfalso
 simp [s4,h1,h2,h3,h4,h5,h6,h7,h8,h9,h10,h11]at hp
end Go.Proofs.YtmogpgcfognefaaGreatDoor

