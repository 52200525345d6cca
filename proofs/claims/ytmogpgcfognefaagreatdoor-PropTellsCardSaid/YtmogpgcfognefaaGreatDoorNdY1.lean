/- di of this claim: Y1. -/
import Derived.Test.YtmogpgcfognefaaGreatDoorNdQ1
set_option linter.all false
namespace Go.Proofs.YtmogpgcfognefaaGreatDoor
open Go

def kO(op:Int):Int:=if op=1∨op=9 then 0 else if op=2∨op=7 then 2 else if op=3∨op=4∨op=5∨op=6∨op=8∨op=10∨op=11 then 1 else -1
theorem uy(op:Int):vz op=some (kO op):=by
 by_cases h1:op=1
 ·subst h1;rfl
 by_cases h2:op=2
 ·subst h2;rfl
 by_cases h3:op=3
 ·subst h3;rfl
 by_cases h4:op=4
 ·subst h4;rfl
 by_cases h5:op=5
 ·subst h5;rfl
 by_cases h6:op=6
 ·subst h6;rfl
 by_cases h7:op=7
 ·subst h7;rfl
 by_cases h8:op=8
 ·subst h8;rfl
 by_cases h9:op=9
 ·subst h9;rfl
 by_cases h10:op=10
 ·subst h10;rfl
 by_cases h11:op=11
 ·subst h11;rfl
 simp [vz,rs,rr,jD,kO,h1,h2,h3,h4,h5,h6,h7,h8,h9,h10,h11]
theorem zU(v:Int): ∀(l:List Int) (i:Nat),∃j:Int,eH v l i=some j∧((0≤j)↔v∈l)∧(0≤j→ ∃k:Nat,j=((i+k:Nat):Int)∧k<l.length∧l[k]? =some v)∧ -1≤j
 |[],i=>⟨-1,rfl,by simp,by simp,by simp⟩
 |e::tl,i=>by
  unfold eH
  by_cases h:v=e
  ·subst h
   exact⟨i,by simp,by simp,fun _=>⟨0,by simp,by simp,rfl⟩,by omega⟩
  ·obtain⟨j,h1,h2,h3,h4⟩:=zU v tl (i+1)
   refine⟨j,by rw [bI (by simpa using h)];exact h1,by rw [h2];simp [h],fun hj=>?_,h4⟩
   obtain⟨k,g1,g2,g3⟩:=h3 hj
   exact⟨k+1,by rw [g1];congr 1;omega,by simp;omega,by simpa using g3⟩
theorem vT(l:List Int)(v:Int): ∃j:Int,gn l v=some j∧((0≤j)↔v∈l)∧(0≤j→ ∃k:Nat,j=(k:Int)∧k<l.length∧l[k]? =some v)∧ -1≤j:=by
 obtain⟨j,h1,h2,h3,h4⟩:=zU v l 0
 exact⟨j,h1,h2,fun hj=>by obtain⟨k,g1,g2,g3⟩:=h3 hj;exact⟨k,by simpa using g1,g2,g3⟩,h4⟩
theorem pC(l:List Int)(v:Int):d5 l v=some (decide (v∈l)):=by
 unfold d5
 obtain⟨j,h1,h2,_⟩:=vT l v
 rw [h1,bA,By.2 h2]
theorem zX(s2:List Int): ∀(l:List Int) (i:Nat),i+l.length=s2.length→gh s2 l i=some (decide (l=s2.drop i))
 |[],i,h=>by
  unfold gh
  rw [G5 (by simp at h;omega)];rfl
 |e::tl,i,h=>by
  have hi:i<s2.length:=by simp at h;omega
  unfold gh
  rw [cK,nP hi,bA,ut hi]
  by_cases he:e=s2[i]
  ·rw [bI (by simp [he]),zX s2 tl (i+1) (by simp at h;omega)]
   congr 1
   rw [By]
   exact⟨fun h=>by rw [he,h],fun h=>by injection h⟩
  ·rw [bQ (by simpa using he),qb]
   intro h
   injection h with h1 _
   exact he h1
theorem sK(a b:List Int):fv a b=some (decide (a=b)):=by
 unfold fv
 by_cases h:a.length=b.length
 ·rw [bI (by simp [h]),zX b a 0 (by omega),sa]
 ·rw [bQ (by simp;omega),qb (fun e=>h (by rw [e]))]
def IU(n:aw)(a b R:List Int):Prop:=
 (n.Op=1→R=n.Kinds∧0≤n.Table∧n.Table<4∧0<n.Kinds.length∧ ∀k∈n.Kinds,1≤k∧k≤3)∧(n.Op=9→R=n.Kinds∧0≤n.Table∧n.Table<30∧0<n.Kinds.length)∧(n.Op=2→a.length≤R.length)∧(n.Op=3∨n.Op=6∨n.Op=8→R=a)∧
  (n.Op=4∨n.Op=10∨n.Op=11→n.Keys.length≤R.length)∧(n.Op=5→R.length=n.Items.length)∧(n.Op=7→R.length=a.length)
structure Lb(l:aq):Prop where
 n:jX l.n
 a:l.a_.length≤16
 b:l.b.length≤16
def tJ(m:aq→Option (Bool×aq))(l:aq)(P:List Int→Prop):Prop:= ∃ok R,m l=some (ok,{l with result:=R})∧(ok=true→P R)
theorem Mv{l:aq}:tJ jO l (fun R=>R=l.n.Kinds∧0≤l.n.Table∧l.n.Table<4∧0<l.n.Kinds.length∧ ∀k∈l.n.Kinds,1≤k∧k≤3):=by
 unfold tJ jO
 rw [jb (f:=o0) (g:=fun k=>(decide (k<(1:Int)))||(decide ((3:Int)<k))) (fun _=>rfl),bA]
 refine⟨_,_,rfl,fun h=>⟨rfl,?_⟩⟩
 simp only [iz,oU]at h
 obtain⟨⟨⟨⟨h1,h2⟩,h3⟩,h4⟩,h5⟩:=h
 refine⟨by omega,by omega,by omega,fun k hk=>?_⟩
 have h6:(l.n.Kinds.any fun k=>(decide (k<(1:Int)))||(decide ((3:Int)<k)))=false:=by simpa using h1
 have:=List.any_eq_false.1 h6 k hk
 simp at this
 omega
theorem JL{l:aq}(h:Lb l):tJ jg l (fun R=>R=l.n.Kinds∧0≤l.n.Table∧l.n.Table<30∧0<l.n.Kinds.length):=by
 unfold tJ jg
 rw [jb (f:=nX) (fun _=>rfl),bA]
 refine⟨_,_,rfl,fun h=>⟨rfl,?_⟩⟩
 simp only [iz,oU]at h
 omega
theorem xL(e:bp)(kinds:List Int)(h:e.Nodes.length≤5000): ∃b,lq e kinds=some b:=by
 unfold lq
 rw [o9 e kinds (by omega)]
 exact⟨_,rfl⟩
theorem MS{l:aq}(h:Lb l):tJ jP l (fun R=>l.a_.length≤R.length):=by
 unfold tJ jP
 have ha:=h.a
 have hb:=h.b
 rw [DU _ _ (by omega) (by omega),bA]
 obtain⟨b,hb2⟩:=xL l.n.Cond (l.a_++l.b) h.n.cond
 refine⟨b,l.a_++l.b,?_,fun _=>by simp⟩
 show(lq l.n.Cond (l.a_++l.b)).bind _=_
 rw [hb2];rfl
theorem Ih{l:aq}(h:Lb l):tJ im l (fun R=>R=l.a_):=by
 unfold tJ im
 obtain⟨b,hb2⟩:=xL l.n.Cond l.a_ h.n.cond
 refine⟨b,l.a_,?_,fun _=>rfl⟩
 show(lq l.n.Cond l.a_).bind _=_
 rw [hb2];rfl
theorem JH{l:aq}:tJ lN l (fun R=>R=l.a_):=⟨true,l.a_,rfl,fun _=>rfl⟩
theorem Mf{l:aq}:tJ jN l (fun R=>R=l.a_):=by
 unfold tJ jN
 rw [sn (f:=mI _) (fun _=>rfl),bA]
 exact⟨_,l.a_,rfl,fun _=>rfl⟩
theorem Bh(nx:Bool→aq→Option (Bool×aq))(l:aq)(R:List Int)(ok:Bool)(k:Int)(h:R.length≤100000):eZ nx {l with result:=R} ok k=nx ok {l with result:=R++[k]}:=by
 unfold eZ
 show(ko R [k]).bind _=_
 rw [du (by simp;omega)];rfl
theorem H6{l:aq}(gs:List gm): ∀(ok:Bool) (R:List Int),(∀g∈gs,g.Arg.Nodes.length≤5000)→R.length+gs.length≤20000→
  ∃ok' R',cP gs ok {l with result:=R}=some (ok',{l with result:=R' })∧R'.length=R.length+gs.length:=by
 induction gs with
 |nil=>intro ok R _ _;exact⟨ok,R,rfl,rfl⟩
 |cons g tl ih=>
  intro ok R hg hR
  have key: ∀(ok2:Bool) (k:Int),∃ok' R',eZ (cP tl) {l with result:=R} ok2 k=some (ok',{l with result:=R' })∧R'.length=R.length+(g::tl).length:=by
   intro ok2 k
   rw [Bh _ _ _ _ _ (by simp at hR;omega)]
   obtain⟨ok',R',h1,h2⟩:=ih ok2 (R++[k]) (fun x hx=>hg x (oS _ hx)) (by simp at hR ⊢;omega)
   exact⟨ok',R',h1,by rw [h2];simp;omega⟩
  unfold cP
  split
  ·exact key _ _
  ·show∃ok' R',(nL g.Arg l.a_).bind _=_∧_
   rw [o9 g.Arg l.a_ (by have:=hg g (oc ..);omega),bA]
   split
   ·exact key _ _
   ·split
    ·unfold ig
     split
     ·exact key _ _
     ·exact key _ _
    ·unfold ig
     split
     ·exact key _ _
     ·exact key _ _
theorem H7{l:aq}(h:Lb l)(ks:List Int): ∀R:List Int,R.length+ks.length≤5000→ ∃ok R',eY l ks {l with result:=R}=some (ok,{l with result:=R' })∧R'.length≤R.length+ks.length+l.n.Aggs.length∧(ok=true→R'.length=R.length+ks.length+l.n.Aggs.length):=by
 induction ks with
 |nil=>
  intro R hR
  unfold eY
  obtain⟨ok,R',h1,h2⟩:=H6 (l:=l) l.n.Aggs (((decide ((l.n.Keys.length:Int)≤(3:Int)))&&(decide ((l.n.Aggs.length:Int)≤(12:Int))))&&(decide ((0:Int)<(IntKind.i64.wrap ((l.n.Keys.length:Int)+(l.n.Aggs.length:Int)))))) R h.n.args (by have:=h.n.aggs;simp at hR;omega)
  exact⟨ok,R',h1,by rw [h2];simp,fun _=>by rw [h2];simp⟩
 |cons k tl ih=>
  intro R hR
  unfold eY
  split
  ·exact⟨false,R,rfl,by omega,fun h=>by cases h⟩
  ·rename_i hk
   show∃ok R',(dC l.a_ k).bind _=_∧_
   have hk' :wH l.a_ k=false:=by
    unfold wH
    simpa using hk
   rw [JM hk',bA]
   show∃ok R',(ko R [ND l.a_ k]).bind _=_∧_
   rw [du (by simp at hR ⊢;omega),bA]
   obtain⟨ok,R',h1,h2,h3⟩:=ih (R++[ND l.a_ k]) (by simp at hR ⊢;omega)
   refine⟨ok,R',h1,?_,fun ho=>?_⟩
   ·simp at h2 ⊢;omega
   ·have:=h3 ho;simp at this ⊢;omega
theorem H8{l:aq}(h:Lb l): ∃ok R',ff l=some (ok,{l with result:=R' })∧R'.length≤l.n.Keys.length+l.n.Aggs.length∧(ok=true→R'.length=l.n.Keys.length+l.n.Aggs.length):=by
 unfold ff
 obtain⟨ok,R',h1,h2,h3⟩:=H7 h l.n.Keys [] (by have:=h.n.keys;simpa using this)
 exact⟨ok,R',h1,by simpa using h2,by simpa using h3⟩
theorem JO{l:aq}(h:Lb l):tJ ff l (fun R=>l.n.Keys.length≤R.length):=by
 obtain⟨ok,R',h1,h2,h3⟩:=H8 h
 exact⟨ok,R',h1,fun ho=>by have:=h3 ho;omega⟩
theorem wX{k i:Nat}(h:k+i≤100000):IntKind.i64.wrap ((k:Int)+(i:Int))=((k+i:Nat):Int):=by
 rw [eS (by omega) (by omega)];omega
theorem Eg{l:aq}(hk:l.n.Keys.length≤5000)(gs:List gm): ∀(i:Nat) (R:List Int),R.length=l.n.Keys.length+(i+gs.length)→R.length≤20000→ ∃R',fy gs i {l with result:=R}=some (true,{l with result:=R' })∧R'.length=R.length:=by
 induction gs with
 |nil=>intro i R _ _;exact⟨R,rfl,rfl⟩
 |cons g tl ih=>
  intro i R hR hb
  unfold fy
  simp only [kb]at hR
  split
  ·show∃R',(dC R (IntKind.i64.wrap ((l.n.Keys.length:Int)+(i:Int)))).bind _=_∧_
   rw [wX (by omega),cK,nP (by omega),bA]
   simp only [bA]
   obtain⟨R',h1,h2⟩:=ih (i+1) (R.set ((l.n.Keys.length+i:Nat):Int).toNat 4) (by rw [Aa];omega) (by rw [Aa];omega)
   exact⟨R',h1,by rw [h2,Aa]⟩
  ·exact ih (i+1) R (by omega) hb
theorem F6{l:aq}(h:Lb l):tJ gT l (fun R=>l.n.Keys.length≤R.length):=by
 unfold tJ gT
 obtain⟨ok,R',h1,h2,h3⟩:=H8 h
 have hk:=h.n.keys
 have hg:=h.n.aggs
 rw [h1,bA]
 cases ok with
 |false=>exact⟨false,R',rfl,fun h=>by cases h⟩
 |true=>
  have h4:=h3 rfl
  obtain⟨R2,g1,g2⟩:=Eg (l:=l) hk l.n.Aggs 0 R' (by omega) (by omega)
  exact⟨true,R2,g1,fun _=>by omega⟩
theorem Id{l:aq}(hk:l.n.Keys.length≤5000)(gs:List gm): ∀(i:Nat) (ok:Bool) (R:List Int),l.a_.length=l.n.Keys.length+(i+gs.length)→R.length=l.a_.length→R.length≤20000→ ∃ok' R',de l gs i ok {l with result:=R}=some (ok',{l with result:=R' })∧R'.length=R.length:=by
 induction gs with
 |nil=>intro i ok R _ _ _;exact⟨ok,R,rfl,rfl⟩
 |cons g tl ih=>
  intro i ok R ha hR hb
  simp only [kb]at ha
  have key: ∀(ok2:Bool) (R2:List Int),R2.length=R.length→ ∃ok' R',de l tl (i+1) ok2 {l with result:=R2}=some (ok',{l with result:=R' })∧R'.length=R.length:=by
   intro ok2 R2 h2
   obtain⟨ok',R',g1,g2⟩:=ih (i+1) ok2 R2 (by omega) (by omega) (by omega)
   exact⟨ok',R',g1,by omega⟩
  have Az: ∀(e3:Int) (x:Bool),∃ok' R',ii l (de l tl) i g ok {l with result:=R} e3 x=some (ok',{l with result:=R' })∧R'.length=R.length:=by
   intro e3 x
   unfold ii
   split
   ·exact key _ R rfl
   ·split
    ·show∃ok' R',(dC R (IntKind.i64.wrap ((l.n.Keys.length:Int)+(i:Int)))).bind _=_∧_
     rw [wX (by omega),cK,nP (by omega),bA]
     simp only [bA]
     exact key _ _ (by rw [Aa])
    ·split<;>(unfold lu;split)<;>exact key _ R rfl
  unfold de
  show∃ok' R',(dC l.a_ (IntKind.i64.wrap ((l.n.Keys.length:Int)+(i:Int)))).bind _=_∧_
  rw [wX (by omega),cK,nP (by omega),bA]
  split<;>exact Az _ _
theorem Ie{l:aq}(hk:l.n.Keys.length≤5000)(hg:l.n.Aggs.length≤5000)(ha:l.a_.length=l.n.Keys.length+l.n.Aggs.length)(r:List Int)(hr:r.length=l.a_.length)(ks:List Int): ∀(i:Nat) (ok:Bool),i+ks.length=l.n.Keys.length→ ∃ok' R',gr l r ks i ok=some (ok',{l with result:=R' })∧R'.length=r.length:=by
 induction ks with
 |nil=>
  intro i ok _
  exact Id hk l.n.Aggs 0 ok r (by omega) hr (by omega)
 |cons k tl ih=>
  intro i ok hi
  simp only [kb]at hi
  unfold gr
  have: ∃t,(if(ok&&(k==(i:Int)))then((dC l.a_ (i:Int)).bind fun e5=>some (e5 !=(4:Int)))else some false)=some t:=by
   split
   ·rw [cK,nP (by omega)];exact⟨_,rfl⟩
   ·exact⟨_,rfl⟩
  obtain⟨t,ht⟩:=this
  rw [ht,bA]
  exact ih (i+1) t (by omega)
theorem JR{l:aq}(h:Lb l)(hA: ∃e,dC l.nodes l.n.A=some e):tJ fL l (fun R=>l.n.Keys.length≤R.length):=by
 obtain⟨e,he⟩:=hA
 unfold tJ fL
 have hk:=h.n.keys
 have hg:=h.n.aggs
 have ha:=h.a
 rw [he,bA]
 by_cases hc:((((e.Op==(9:Int))&&(decide ((l.n.Keys.length:Int)≤(3:Int))))&&(decide ((l.n.Aggs.length:Int)≤(12:Int))))&&((IntKind.i64.wrap ((l.n.Keys.length:Int)+(l.n.Aggs.length:Int)))==(l.a_.length:Int)))=true
 ·rw [bI (by rw [hc];decide),nr _ (by omega),bA]
  have hl:l.a_.length=l.n.Keys.length+l.n.Aggs.length:=by
   simp only [iz,uM]at hc
   have:=hc.2
   rw [wX (by omega)]at this
   omega
  obtain⟨ok',R',g1,g2⟩:=Ie hk hg hl l.a_ rfl l.n.Keys 0 _ (pj _)
  exact⟨ok',R',g1,fun _=>by omega⟩
 ·rw [bQ (by rw [yL]at hc;rw [hc];rfl)]
  exact⟨false,l.result,by cases l;rfl,fun h=>by cases h⟩
theorem Ef{l:aq}(es:List bp): ∀R:List Int,(∀e∈es,e.Nodes.length≤5000)→R.length+es.length≤20000→ ∃ok R',gq es {l with result:=R}=some (ok,{l with result:=R' })∧(ok=true→R'.length=R.length+es.length):=by
 induction es with
 |nil=>intro R _ _;exact⟨_,R,rfl,fun _=>rfl⟩
 |cons e tl ih=>
  intro R he hR
  unfold gq
  show∃ok R',(nL e l.a_).bind _=_∧_
  rw [o9 e l.a_ (by have:=he e (oc ..);omega),bA]
  split
  ·exact⟨false,R,rfl,fun h=>by cases h⟩
  ·show∃ok R',(ko R [(gV e l.a_).1]).bind _=_∧_
   rw [du (by simp at hR ⊢;omega),bA]
   obtain⟨ok,R',h1,h2⟩:=ih (R++[(gV e l.a_).1]) (fun x hx=>he x (oS _ hx)) (by simp at hR ⊢;omega)
   exact⟨ok,R',h1,fun ho=>by have:=h2 ho;simp at this ⊢;omega⟩
theorem F4{l:aq}(h:Lb l):tJ j5 l (fun R=>R.length=l.n.Items.length):=by
 have hi:=h.n.items
 obtain⟨ok,R',h1,h2⟩:=Ef (l:=l) l.n.Items [] h.n.exprs (by simp;omega)
 exact⟨ok,R',h1,by simpa using h2⟩
theorem Hi(nx:Nat→aq→Option (Bool×aq))(l:aq)(R:List Int)(i:Nat)(e k:Int)(h:R.length≤100000):fH nx i {l with result:=R} e k=if((e !=(0:Int))&&(e !=k))then some (false,{l with result:=R})else nx (i+1) {l with result:=R++[k]}:=by
 unfold fH
 split
 ·rfl
 ·show(ko R [k]).bind _=_
  rw [du (by simp;omega)];rfl
theorem Hh{l:aq}(xs:List Int): ∀(i:Nat) (R:List Int),i+xs.length=l.b.length→R.length+xs.length≤20000→ ∃ok R',dN xs i {l with result:=R}=some (ok,{l with result:=R' })∧(ok=true→R'.length=R.length+xs.length):=by
 induction xs with
 |nil=>intro i R _ _;exact⟨true,R,rfl,fun _=>rfl⟩
 |cons a tl ih=>
  intro i R hi hR
  simp only [kb]at hi hR
  have key: ∀e k:Int,∃ok R',fH (dN tl) i {l with result:=R} e k=some (ok,{l with result:=R' })∧(ok=true→R'.length=R.length+(a::tl).length):=by
   intro e k
   rw [Hi _ _ _ _ _ _ (by omega)]
   split
   ·exact⟨false,R,rfl,fun h=>by cases h⟩
   ·obtain⟨ok,R',h1,h2⟩:=ih (i+1) (R++[k]) (by omega) (by simp;omega)
    exact⟨ok,R',h1,fun ho=>by have:=h2 ho;simp at this ⊢;omega⟩
  unfold dN
  show∃ok R',(dC l.b (i:Int)).bind _=_∧_
  rw [cK,nP (by omega),bA]
  split<;>exact key _ _
theorem I6{l:aq}(h:Lb l):tJ jf l (fun R=>R.length=l.a_.length):=by
 unfold tJ jf
 have ha:=h.a
 by_cases hl:l.a_.length=l.b.length
 ·rw [bI (by simp [hl])]
  obtain⟨ok,R',h1,h2⟩:=Hh (l:=l) l.a_ 0 [] (by omega) (by simp;omega)
  exact⟨ok,R',h1,by simpa using h2⟩
 ·rw [bQ (by simp;omega)]
  exact⟨false,l.result,by cases l;rfl,fun h=>by cases h⟩
def pM(op:Int):aq→Unit→Option (Bool×aq):=(rW ((pW).getD []) op).getD (fun _ _=>none)
theorem Pv{l:aq}(h:Lb l)(hA:kO l.n.Op≠0→ ∃e,dC l.nodes l.n.A=some e)(hp:0≤kO l.n.Op):tJ (fun l=>pM l.n.Op l ()) l (IU l.n l.a_ l.b):=by
 have imp: ∀{m:aq→Option (Bool×aq)} {P:List Int→Prop},tJ m l P→(pM l.n.Op l ()=m l)→(∀R,P R→IU l.n l.a_ l.b R)→tJ (fun l=>pM l.n.Op l ()) l (IU l.n l.a_ l.b):=
  fun⟨ok,R,h1,h2⟩ he hr=>⟨ok,R,by show pM l.n.Op l ()=_;rw [he];exact h1,fun ho=>hr R (h2 ho)⟩
 by_cases h1:l.n.Op=1
 ·exact imp Mv (by rw [h1];rfl) (fun R hR=>by
   unfold IU
   rw [h1]
   exact⟨fun _=>hR,fun h=>absurd h (by decide),fun h=>absurd h (by decide),fun h=>absurd h (by decide),fun h=>absurd h (by decide),fun h=>absurd h (by decide),fun h=>absurd h (by decide)⟩)
 by_cases h2:l.n.Op=2
 ·exact imp (MS h) (by rw [h2];rfl) (fun R hR=>by simp [IU,h2];exact hR)
 by_cases h3:l.n.Op=3
 ·exact imp (Ih h) (by rw [h3];rfl) (fun R hR=>by simp [IU,h3];exact hR)
 by_cases h4:l.n.Op=4
 ·exact imp (JO h) (by rw [h4];rfl) (fun R hR=>by simp [IU,h4];exact hR)
 by_cases h5:l.n.Op=5
 ·exact imp (F4 h) (by rw [h5];rfl) (fun R hR=>by simp [IU,h5];exact hR)
 by_cases h6:l.n.Op=6
 ·exact imp JH (by rw [h6];rfl) (fun R hR=>by simp [IU,h6];exact hR)
 by_cases h7:l.n.Op=7
 ·exact imp (I6 h) (by rw [h7];rfl) (fun R hR=>by simp [IU,h7];exact hR)
 by_cases h8:l.n.Op=8
 ·exact imp Mf (by rw [h8];rfl) (fun R hR=>by simp [IU,h8];exact hR)
 by_cases h9:l.n.Op=9
 ·exact imp (JL h) (by rw [h9];rfl) (fun R hR=>by simp [IU,h9];exact⟨hR.1,hR.2⟩)
 by_cases h10:l.n.Op=10
 ·exact imp (F6 h) (by rw [h10];rfl) (fun R hR=>by simp [IU,h10];exact hR)
 by_cases h11:l.n.Op=11
 ·exact imp (JR h (hA (by rw [h11];decide))) (by rw [h11];rfl) (fun R hR=>by simp [IU,h11];exact hR)
 exfalso
 simp [kO,h1,h2,h3,h4,h5,h6,h7,h8,h9,h10,h11]at hp
end Go.Proofs.YtmogpgcfognefaaGreatDoor

