/- cG of this claim: Y1. -/
import Derived.Test.YtmogpgcfognefaaGreatDoorNaQ1
set_option linter.all false
namespace Go.Proofs.YtmogpgcfognefaaGreatDoor
open Go

def uA(op:Int):Int:=if op=1∨op=9 then 0 else if op=2∨op=7 then 2 else if op=3∨op=4∨op=5∨op=6∨op=8∨op=10∨op=11 then 1 else -1
theorem yM(op:Int):p5 op=some (uA op):=by
 by_cases h1:op=1
 ·subst h1;rfl
 by_cases h2:op=2
 ·subst h2;rfl
 by_cases h3:op=3
 ·subst h3;rfl
 by_cases h4:op=4
 ·subst h4;rfl
 by_cases h5:op=5
 ·subst h5;rfl
 by_cases h6:op=6
 ·subst h6;rfl
 by_cases h7:op=7
 ·subst h7;rfl
 by_cases h8:op=8
 ·subst h8;rfl
 by_cases h9:op=9
 ·subst h9;rfl
 by_cases h10:op=10
 ·subst h10;rfl
 by_cases h11:op=11
 ·subst h11;rfl
 simp [p5,nm,nl,gr,uA,h1,h2,h3,h4,h5,h6,h7,h8,h9,h10,h11]
theorem ur(v:Int): ∀(l:List Int) (i:Nat),∃j:Int,fj v l i=some j∧((0≤j)↔v∈l)∧(0≤j→ ∃k:Nat,j=((i+k:Nat):Int)∧k<l.length∧l[k]? =some v)∧ -1≤j
 |[],i=>⟨-1,rfl,by simp,by simp,by simp⟩
 |e::tl,i=>by
  unfold fj
  by_cases h:v=e
  ·subst h
   exact⟨i,by simp,by simp,fun _=>⟨0,by simp,by simp,rfl⟩,by omega⟩
  ·obtain⟨j,h1,h2,h3,h4⟩:=ur v tl (i+1)
   refine⟨j,by rw [di (by simpa using h)];exact h1,by rw [h2];simp [h],fun hj=>?_,h4⟩
   obtain⟨k,g1,g2,g3⟩:=h3 hj
   exact⟨k+1,by rw [g1];congr 1;omega,by simp;omega,by simpa using g3⟩
theorem ut(l:List Int)(v:Int): ∃j:Int,gA l v=some j∧((0≤j)↔v∈l)∧(0≤j→ ∃k:Nat,j=(k:Int)∧k<l.length∧l[k]? =some v)∧ -1≤j:=by
 obtain⟨j,h1,h2,h3,h4⟩:=ur v l 0
 exact⟨j,h1,h2,fun hj=>by obtain⟨k,g1,g2,g3⟩:=h3 hj;exact⟨k,by simpa using g1,g2,g3⟩,h4⟩
theorem qA(l:List Int)(v:Int):da l v=some (decide (v∈l)):=by
 unfold da
 obtain⟨j,h1,h2,_⟩:=ut l v
 rw [h1,cn,y5.2 h2]
theorem uw(s2:List Int): ∀(l:List Int) (i:Nat),i+l.length=s2.length→em s2 l i=some (decide (l=s2.drop i))
 |[],i,h=>by
  unfold em
  rw [Fj (by simp at h;omega)];rfl
 |e::tl,i,h=>by
  have hi:i<s2.length:=by simp at h;omega
  unfold em
  rw [c8,nT hi,cn,wK hi]
  by_cases he:e=s2[i]
  ·rw [di (by simp [he]),uw s2 tl (i+1) (by simp at h;omega)]
   congr 1
   rw [y5]
   exact⟨fun h=>by rw [he,h],fun h=>by injection h⟩
  ·rw [dq (by simpa using he),vV]
   intro h
   injection h with h1 _
   exact he h1
theorem ux(a b:List Int):ew a b=some (decide (a=b)):=by
 unfold ew
 by_cases h:a.length=b.length
 ·rw [di (by simp [h]),uw b a 0 (by omega),qJ]
 ·rw [dq (by simp;omega),vV (fun e=>h (by rw [e]))]
def CO(n:aF)(a b R:List Int):Prop:=
 (n.Op=1→R=n.Kinds∧0≤n.Table∧n.Table<4∧0<n.Kinds.length)∧(n.Op=9→R=n.Kinds∧0≤n.Table∧n.Table<30∧0<n.Kinds.length)∧(n.Op=2→a.length≤R.length)∧(n.Op=3∨n.Op=6∨n.Op=8→R=a)∧
  (n.Op=4∨n.Op=10∨n.Op=11→n.Keys.length≤R.length)∧(n.Op=5→R.length=n.Items.length)∧(n.Op=7→R.length=a.length)
structure Lb(l:af):Prop where
 n:yf l.n
 a:l.a_.length≤16
 b:l.b.length≤16
def oP(m:af→Option (Bool×af))(l:af)(P:List Int→Prop):Prop:= ∃ok R,m l=some (ok,{l with result:=R})∧(ok=true→P R)
theorem FO{l:af}(h:Lb l):oP jz l (fun R=>R=l.n.Kinds∧0≤l.n.Table∧l.n.Table<4∧0<l.n.Kinds.length):=by
 unfold oP jz
 rw [lw (f:=m3) (fun _=>rfl),cn]
 refine⟨_,_,rfl,fun h=>⟨rfl,?_⟩⟩
 simp only [iP,wM]at h
 omega
theorem Dr{l:af}(h:Lb l):oP iJ l (fun R=>R=l.n.Kinds∧0≤l.n.Table∧l.n.Table<30∧0<l.n.Kinds.length):=by
 unfold oP iJ
 rw [lw (f:=mD) (fun _=>rfl),cn]
 refine⟨_,_,rfl,fun h=>⟨rfl,?_⟩⟩
 simp only [iP,wM]at h
 omega
theorem sh(e:bo)(kinds:List Int)(h:e.Nodes.length≤5000): ∃b,lS e kinds=some b:=by
 unfold lS
 rw [qj e kinds (by omega)]
 exact⟨_,rfl⟩
theorem F8{l:af}(h:Lb l):oP jA l (fun R=>l.a_.length≤R.length):=by
 unfold oP jA
 have ha:=h.a
 have hb:=h.b
 rw [D1 _ _ (by omega) (by omega),cn]
 obtain⟨b,hb2⟩:=sh l.n.Cond (l.a_++l.b) h.n.cond
 refine⟨b,l.a_++l.b,?_,fun _=>by simp⟩
 show(lS l.n.Cond (l.a_++l.b)).bind _=_
 rw [hb2];rfl
theorem Ce{l:af}(h:Lb l):oP ib l (fun R=>R=l.a_):=by
 unfold oP ib
 obtain⟨b,hb2⟩:=sh l.n.Cond l.a_ h.n.cond
 refine⟨b,l.a_,?_,fun _=>rfl⟩
 show(lS l.n.Cond l.a_).bind _=_
 rw [hb2];rfl
theorem Dp{l:af}:oP ki l (fun R=>R=l.a_):=⟨true,l.a_,rfl,fun _=>rfl⟩
theorem Fz{l:af}:oP jy l (fun R=>R=l.a_):=by
 unfold oP jy
 rw [rY (f:=li _) (fun _=>rfl),cn]
 exact⟨_,l.a_,rfl,fun _=>rfl⟩
theorem B6(nx:Bool→af→Option (Bool×af))(l:af)(R:List Int)(ok:Bool)(k:Int)(h:R.length≤100000):dR nx {l with result:=R} ok k=nx ok {l with result:=R++[k]}:=by
 unfold dR
 show(nS R [k]).bind _=_
 rw [gT (by simp;omega)];rfl
theorem B4{l:af}(gs:List gc): ∀(ok:Bool) (R:List Int),(∀g∈gs,g.Arg.Nodes.length≤5000)→R.length+gs.length≤20000→
  ∃ok' R',cx gs ok {l with result:=R}=some (ok',{l with result:=R' })∧R'.length=R.length+gs.length:=by
 induction gs with
 |nil=>intro ok R _ _;exact⟨ok,R,rfl,rfl⟩
 |cons g tl ih=>
  intro ok R hg hR
  have key: ∀(ok2:Bool) (k:Int),∃ok' R',dR (cx tl) {l with result:=R} ok2 k=some (ok',{l with result:=R' })∧R'.length=R.length+(g::tl).length:=by
   intro ok2 k
   rw [B6 _ _ _ _ _ (by simp at hR;omega)]
   obtain⟨ok',R',h1,h2⟩:=ih ok2 (R++[k]) (fun x hx=>hg x (ly _ hx)) (by simp at hR ⊢;omega)
   exact⟨ok',R',h1,by rw [h2];simp;omega⟩
  unfold cx
  split
  ·exact key _ _
  ·show∃ok' R',(ml g.Arg l.a_).bind _=_∧_
   rw [qj g.Arg l.a_ (by have:=hg g (lI ..);omega),cn]
   split
   ·exact key _ _
   ·split
    ·unfold gh
     split
     ·exact key _ _
     ·exact key _ _
    ·unfold gh
     split
     ·exact key _ _
     ·exact key _ _
theorem B5{l:af}(h:Lb l)(ks:List Int): ∀R:List Int,R.length+ks.length≤5000→ ∃ok R',ff l ks {l with result:=R}=some (ok,{l with result:=R' })∧R'.length≤R.length+ks.length+l.n.Aggs.length∧(ok=true→R'.length=R.length+ks.length+l.n.Aggs.length):=by
 induction ks with
 |nil=>
  intro R hR
  unfold ff
  obtain⟨ok,R',h1,h2⟩:=B4 (l:=l) l.n.Aggs (((decide ((l.n.Keys.length:Int)≤(3:Int)))&&(decide ((l.n.Aggs.length:Int)≤(12:Int))))&&(decide ((0:Int)<(IntKind.i64.wrap ((l.n.Keys.length:Int)+(l.n.Aggs.length:Int)))))) R h.n.args (by have:=h.n.aggs;simp at hR;omega)
  exact⟨ok,R',h1,by rw [h2];simp,fun _=>by rw [h2];simp⟩
 |cons k tl ih=>
  intro R hR
  unfold ff
  split
  ·exact⟨false,R,rfl,by omega,fun h=>by cases h⟩
  ·rename_i hk
   show∃ok R',(eZ l.a_ k).bind _=_∧_
   have hk' :II l.a_ k=false:=by
    unfold II
    simpa using hk
   rw [Ly hk',cn]
   show∃ok R',(nS R [O5 l.a_ k]).bind _=_∧_
   rw [gT (by simp at hR ⊢;omega),cn]
   obtain⟨ok,R',h1,h2,h3⟩:=ih (R++[O5 l.a_ k]) (by simp at hR ⊢;omega)
   refine⟨ok,R',h1,?_,fun ho=>?_⟩
   ·simp at h2 ⊢;omega
   ·have:=h3 ho;simp at this ⊢;omega
theorem B7{l:af}(h:Lb l): ∃ok R',fa l=some (ok,{l with result:=R' })∧R'.length≤l.n.Keys.length+l.n.Aggs.length∧(ok=true→R'.length=l.n.Keys.length+l.n.Aggs.length):=by
 unfold fa
 obtain⟨ok,R',h1,h2,h3⟩:=B5 h l.n.Keys [] (by have:=h.n.keys;simpa using this)
 exact⟨ok,R',h1,by simpa using h2,by simpa using h3⟩
theorem Dt{l:af}(h:Lb l):oP fa l (fun R=>l.n.Keys.length≤R.length):=by
 obtain⟨ok,R',h1,h2,h3⟩:=B7 h
 exact⟨ok,R',h1,fun ho=>by have:=h3 ho;omega⟩
theorem A7{k i:Nat}(h:k+i≤100000):IntKind.i64.wrap ((k:Int)+(i:Int))=((k+i:Nat):Int):=by
 rw [kF (by omega) (by omega)];omega
theorem yP{l:af}(hk:l.n.Keys.length≤5000)(gs:List gc): ∀(i:Nat) (R:List Int),R.length=l.n.Keys.length+(i+gs.length)→R.length≤20000→ ∃R',fm gs i {l with result:=R}=some (true,{l with result:=R' })∧R'.length=R.length:=by
 induction gs with
 |nil=>intro i R _ _;exact⟨R,rfl,rfl⟩
 |cons g tl ih=>
  intro i R hR hb
  unfold fm
  simp only [mv]at hR
  split
  ·show∃R',(eZ R (IntKind.i64.wrap ((l.n.Keys.length:Int)+(i:Int)))).bind _=_∧_
   rw [A7 (by omega),c8,nT (by omega),cn]
   simp only [cn]
   obtain⟨R',h1,h2⟩:=ih (i+1) (R.set ((l.n.Keys.length+i:Nat):Int).toNat 4) (by rw [yz];omega) (by rw [yz];omega)
   exact⟨R',h1,by rw [h2,yz]⟩
  ·exact ih (i+1) R (by omega) hb
theorem Az{l:af}(h:Lb l):oP gM l (fun R=>l.n.Keys.length≤R.length):=by
 unfold oP gM
 obtain⟨ok,R',h1,h2,h3⟩:=B7 h
 have hk:=h.n.keys
 have hg:=h.n.aggs
 rw [h1,cn]
 cases ok with
 |false=>exact⟨false,R',rfl,fun h=>by cases h⟩
 |true=>
  have h4:=h3 rfl
  obtain⟨R2,g1,g2⟩:=yP (l:=l) hk l.n.Aggs 0 R' (by omega) (by omega)
  exact⟨true,R2,g1,fun _=>by omega⟩
theorem Cc{l:af}(hk:l.n.Keys.length≤5000)(gs:List gc): ∀(i:Nat) (ok:Bool) (R:List Int),l.a_.length=l.n.Keys.length+(i+gs.length)→R.length=l.a_.length→R.length≤20000→ ∃ok' R',dv l gs i ok {l with result:=R}=some (ok',{l with result:=R' })∧R'.length=R.length:=by
 induction gs with
 |nil=>intro i ok R _ _ _;exact⟨ok,R,rfl,rfl⟩
 |cons g tl ih=>
  intro i ok R ha hR hb
  simp only [mv]at ha
  have key: ∀(ok2:Bool) (R2:List Int),R2.length=R.length→ ∃ok' R',dv l tl (i+1) ok2 {l with result:=R2}=some (ok',{l with result:=R' })∧R'.length=R.length:=by
   intro ok2 R2 h2
   obtain⟨ok',R',g1,g2⟩:=ih (i+1) ok2 R2 (by omega) (by omega) (by omega)
   exact⟨ok',R',g1,by omega⟩
  have F7: ∀(e3:Int) (x:Bool),∃ok' R',iu l (dv l tl) i g ok {l with result:=R} e3 x=some (ok',{l with result:=R' })∧R'.length=R.length:=by
   intro e3 x
   unfold iu
   split
   ·exact key _ R rfl
   ·split
    ·show∃ok' R',(eZ R (IntKind.i64.wrap ((l.n.Keys.length:Int)+(i:Int)))).bind _=_∧_
     rw [A7 (by omega),c8,nT (by omega),cn]
     simp only [cn]
     exact key _ _ (by rw [yz])
    ·split<;>(unfold jU;split)<;>exact key _ R rfl
  unfold dv
  show∃ok' R',(eZ l.a_ (IntKind.i64.wrap ((l.n.Keys.length:Int)+(i:Int)))).bind _=_∧_
  rw [A7 (by omega),c8,nT (by omega),cn]
  split<;>exact F7 _ _
theorem Cd{l:af}(hk:l.n.Keys.length≤5000)(hg:l.n.Aggs.length≤5000)(ha:l.a_.length=l.n.Keys.length+l.n.Aggs.length)(r:List Int)(hr:r.length=l.a_.length)(ks:List Int): ∀(i:Nat) (ok:Bool),i+ks.length=l.n.Keys.length→ ∃ok' R',ir l r ks i ok=some (ok',{l with result:=R' })∧R'.length=r.length:=by
 induction ks with
 |nil=>
  intro i ok _
  exact Cc hk l.n.Aggs 0 ok r (by omega) hr (by omega)
 |cons k tl ih=>
  intro i ok hi
  simp only [mv]at hi
  unfold ir
  have: ∃t,(if(ok&&(k==(i:Int)))then((eZ l.a_ (i:Int)).bind fun e5=>some (e5 !=(4:Int)))else some false)=some t:=by
   split
   ·rw [c8,nT (by omega)];exact⟨_,rfl⟩
   ·exact⟨_,rfl⟩
  obtain⟨t,ht⟩:=this
  rw [ht,cn]
  exact ih (i+1) t (by omega)
theorem Dx{l:af}(h:Lb l)(hA: ∃e,eZ l.nodes l.n.A=some e):oP iK l (fun R=>l.n.Keys.length≤R.length):=by
 obtain⟨e,he⟩:=hA
 unfold oP iK
 have hk:=h.n.keys
 have hg:=h.n.aggs
 have ha:=h.a
 rw [he,cn]
 by_cases hc:((((e.Op==(9:Int))&&(decide ((l.n.Keys.length:Int)≤(3:Int))))&&(decide ((l.n.Aggs.length:Int)≤(12:Int))))&&((IntKind.i64.wrap ((l.n.Keys.length:Int)+(l.n.Aggs.length:Int)))==(l.a_.length:Int)))=true
 ·rw [di (by rw [hc];decide),oa _ (by omega),cn]
  have hl:l.a_.length=l.n.Keys.length+l.n.Aggs.length:=by
   simp only [iP,ve]at hc
   have:=hc.2
   rw [A7 (by omega)]at this
   omega
  obtain⟨ok',R',g1,g2⟩:=Cd hk hg hl l.a_ rfl l.n.Keys 0 _ (mu _)
  exact⟨ok',R',g1,fun _=>by omega⟩
 ·rw [dq (by rw [s7]at hc;rw [hc];rfl)]
  exact⟨false,l.result,by cases l;rfl,fun h=>by cases h⟩
theorem yO{l:af}(es:List bo): ∀R:List Int,(∀e∈es,e.Nodes.length≤5000)→R.length+es.length≤20000→ ∃ok R',gD es {l with result:=R}=some (ok,{l with result:=R' })∧(ok=true→R'.length=R.length+es.length):=by
 induction es with
 |nil=>intro R _ _;exact⟨_,R,rfl,fun _=>rfl⟩
 |cons e tl ih=>
  intro R he hR
  unfold gD
  show∃ok R',(ml e l.a_).bind _=_∧_
  rw [qj e l.a_ (by have:=he e (lI ..);omega),cn]
  split
  ·exact⟨false,R,rfl,fun h=>by cases h⟩
  ·show∃ok R',(nS R [(EA e l.a_).1]).bind _=_∧_
   rw [gT (by simp at hR ⊢;omega),cn]
   obtain⟨ok,R',h1,h2⟩:=ih (R++[(EA e l.a_).1]) (fun x hx=>he x (ly _ hx)) (by simp at hR ⊢;omega)
   exact⟨ok,R',h1,fun ho=>by have:=h2 ho;simp at this ⊢;omega⟩
theorem Ay{l:af}(h:Lb l):oP iT l (fun R=>R.length=l.n.Items.length):=by
 have hi:=h.n.items
 obtain⟨ok,R',h1,h2⟩:=yO (l:=l) l.n.Items [] h.n.exprs (by simp;omega)
 exact⟨ok,R',h1,by simpa using h2⟩
theorem Bv(nx:Nat→af→Option (Bool×af))(l:af)(R:List Int)(i:Nat)(e k:Int)(h:R.length≤100000):ge nx i {l with result:=R} e k=if((e !=(0:Int))&&(e !=k))then some (false,{l with result:=R})else nx (i+1) {l with result:=R++[k]}:=by
 unfold ge
 split
 ·rfl
 ·show(nS R [k]).bind _=_
  rw [gT (by simp;omega)];rfl
theorem Bu{l:af}(xs:List Int): ∀(i:Nat) (R:List Int),i+xs.length=l.b.length→R.length+xs.length≤20000→ ∃ok R',ez xs i {l with result:=R}=some (ok,{l with result:=R' })∧(ok=true→R'.length=R.length+xs.length):=by
 induction xs with
 |nil=>intro i R _ _;exact⟨true,R,rfl,fun _=>rfl⟩
 |cons a tl ih=>
  intro i R hi hR
  simp only [mv]at hi hR
  have key: ∀e k:Int,∃ok R',ge (ez tl) i {l with result:=R} e k=some (ok,{l with result:=R' })∧(ok=true→R'.length=R.length+(a::tl).length):=by
   intro e k
   rw [Bv _ _ _ _ _ _ (by omega)]
   split
   ·exact⟨false,R,rfl,fun h=>by cases h⟩
   ·obtain⟨ok,R',h1,h2⟩:=ih (i+1) (R++[k]) (by omega) (by simp;omega)
    exact⟨ok,R',h1,fun ho=>by have:=h2 ho;simp at this ⊢;omega⟩
  unfold ez
  show∃ok R',(eZ l.b (i:Int)).bind _=_∧_
  rw [c8,nT (by omega),cn]
  split<;>exact key _ _
theorem CZ{l:af}(h:Lb l):oP iI l (fun R=>R.length=l.a_.length):=by
 unfold oP iI
 have ha:=h.a
 by_cases hl:l.a_.length=l.b.length
 ·rw [di (by simp [hl])]
  obtain⟨ok,R',h1,h2⟩:=Bu (l:=l) l.a_ 0 [] (by omega) (by simp;omega)
  exact⟨ok,R',h1,by simpa using h2⟩
 ·rw [dq (by simp;omega)]
  exact⟨false,l.result,by cases l;rfl,fun h=>by cases h⟩
def ui(op:Int):af→Unit→Option (Bool×af):=(kE ((pA).getD []) op).getD (fun _ _=>none)
theorem H0{l:af}(h:Lb l)(hA:uA l.n.Op≠0→ ∃e,eZ l.nodes l.n.A=some e)(hp:0≤uA l.n.Op):oP (fun l=>ui l.n.Op l ()) l (CO l.n l.a_ l.b):=by
 have imp: ∀{m:af→Option (Bool×af)} {P:List Int→Prop},oP m l P→(ui l.n.Op l ()=m l)→(∀R,P R→CO l.n l.a_ l.b R)→oP (fun l=>ui l.n.Op l ()) l (CO l.n l.a_ l.b):=
  fun⟨ok,R,h1,h2⟩ he hr=>⟨ok,R,by show ui l.n.Op l ()=_;rw [he];exact h1,fun ho=>hr R (h2 ho)⟩
 by_cases h1:l.n.Op=1
 ·exact imp (FO h) (by rw [h1];rfl) (fun R hR=>by simp [CO,h1];exact⟨hR.1,hR.2⟩)
 by_cases h2:l.n.Op=2
 ·exact imp (F8 h) (by rw [h2];rfl) (fun R hR=>by simp [CO,h2];exact hR)
 by_cases h3:l.n.Op=3
 ·exact imp (Ce h) (by rw [h3];rfl) (fun R hR=>by simp [CO,h3];exact hR)
 by_cases h4:l.n.Op=4
 ·exact imp (Dt h) (by rw [h4];rfl) (fun R hR=>by simp [CO,h4];exact hR)
 by_cases h5:l.n.Op=5
 ·exact imp (Ay h) (by rw [h5];rfl) (fun R hR=>by simp [CO,h5];exact hR)
 by_cases h6:l.n.Op=6
 ·exact imp Dp (by rw [h6];rfl) (fun R hR=>by simp [CO,h6];exact hR)
 by_cases h7:l.n.Op=7
 ·exact imp (CZ h) (by rw [h7];rfl) (fun R hR=>by simp [CO,h7];exact hR)
 by_cases h8:l.n.Op=8
 ·exact imp Fz (by rw [h8];rfl) (fun R hR=>by simp [CO,h8];exact hR)
 by_cases h9:l.n.Op=9
 ·exact imp (Dr h) (by rw [h9];rfl) (fun R hR=>by simp [CO,h9];exact⟨hR.1,hR.2⟩)
 by_cases h10:l.n.Op=10
 ·exact imp (Az h) (by rw [h10];rfl) (fun R hR=>by simp [CO,h10];exact hR)
 by_cases h11:l.n.Op=11
 ·exact imp (Dx h (hA (by rw [h11];decide))) (by rw [h11];rfl) (fun R hR=>by simp [CO,h11];exact hR)
 exfalso
 simp [uA,h1,h2,h3,h4,h5,h6,h7,h8,h9,h10,h11]at hp
end Go.Proofs.YtmogpgcfognefaaGreatDoor

