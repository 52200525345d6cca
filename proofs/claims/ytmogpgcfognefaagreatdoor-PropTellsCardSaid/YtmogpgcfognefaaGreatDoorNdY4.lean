/- di of this claim: Y4. -/
import Derived.Test.YtmogpgcfognefaaGreatDoorNdY3
import Derived.Test.YtmogpgcfognefaaGreatDoorNdQ2
set_option linter.all false
namespace Go.Proofs.YtmogpgcfognefaaGreatDoor
open Go

theorem zV{f:aw→Option Bool}{g:aw→Bool}: ∀(l:List aw) (i:Nat),(∀n∈l,f n=some (g n))→ ∃j:Int,dS f l i=some j∧decide (0≤j)=l.any g
 |[],i,_=>⟨-1,rfl,rfl⟩
 |n::tl,i,h=>by
  unfold dS
  rw [h n (oc ..),bA]
  cases hg:g n with
  |true=>exact⟨i,by simp,by simp [hg]⟩
  |false=>
   obtain⟨j,h1,h2⟩:=zV tl (i+1) (fun x hx=>h x (oS _ hx))
   exact⟨j,by rw [bI (by simp)];exact h1,by rw [h2];simp [hg]⟩
theorem wc{f:aw→Option Bool}{g:aw→Bool}{l:List aw}(h: ∀n∈l,f n=some (g n)):eM l f=some (l.any g):=by
 unfold eM fb
 obtain⟨j,h1,h2⟩:=zV l 0 h
 rw [h1,bA,h2]
theorem zZ{cs:List bL}: ∀(l:List Int) (i:Nat),i+l.length=cs.length→ ∃b,bZ cs gX l i=some b
 |[],i,_=>⟨true,rfl⟩
 |k::tl,i,h=>by
  simp only [kb]at h
  unfold bZ
  rw [cK,nP (by omega),bA]
  show∃b,(if(!(k==cs[i].Kind))then some false else _)=some b
  split
  ·exact⟨false,rfl⟩
  ·exact zZ tl (i+1) (by omega)
theorem IP(l:List Int)(cs:List bL): ∃b,cM l cs gX=some b∧(b=true→l.length=cs.length):=by
 unfold cM
 by_cases h:l.length=cs.length
 ·rw [bI (by simp [h])]
  obtain⟨b,hb⟩:=zZ (cs:=cs) l 0 (by omega)
  exact⟨b,hb,fun _=>h⟩
 ·rw [bQ (by simp;omega)]
  exact⟨false,rfl,fun h=>by cases h⟩
structure Kh(c:bG)(f:cL)(root:List Int):Prop where
 at_:f.At=1∨f.At=2
 way:1≤f.Way∧f.Way≤4
 cols:f.Way=1↔0<f.Cols.length
 inr: ∀x∈f.Cols,0≤x∧x<(root.length:Int)
 clen:f.Cols.length≤16
 scan: ∀n∈f.Nodes,n.Op=1→f.At=1∧ ∃t,dC c.Tables n.Table=some t∧n.Kinds.length=t.Columns.length
theorem xo(root:List Int)(c:Int): ∃b,df root c=some b∧(b=false→0≤c∧c<(root.length:Int)):=by
 unfold df
 by_cases h:(!((decide (c<(0:Int)))||(decide ((root.length:Int)≤c))))=true
 ·rw [bQ h]
  simp at h
  rw [gR c.toNat (by omega),nP (by omega)]
  exact⟨_,rfl,fun _=>by omega⟩
 ·rw [bI h]
  exact⟨true,rfl,fun h=>by cases h⟩
theorem AC(f:cL)(x:ci)(n:aw)(hn:n.Op=1→0≤n.Table): ∃b,ed f (some x) n=some b∧(b=false→n.Op=1→f.At=1∧ ∃t,dC x.c.Tables n.Table=some t∧n.Kinds.length=t.Columns.length):=by
 unfold ed
 by_cases h1:n.Op=1
 ·rw [bI (by simp [h1])]
  by_cases h2:f.At=1
  ·rw [bQ (by simp [h2]),bA,bA]
   by_cases h3:(x.c.Tables.length:Int)≤n.Table
   ·rw [bQ (by simpa using h3)]
    exact⟨true,rfl,fun h=>by cases h⟩
   ·rw [bI (by simpa using h3),bA]
    have h0:=hn h1
    rw [gR n.Table.toNat (by omega),nP (by omega),bA]
    obtain⟨b,g1,g2⟩:=IP n.Kinds (x.c.Tables[n.Table.toNat]'(by omega)).Columns
    rw [g1,bA]
    exact⟨_,rfl,fun hb _=>⟨h2,_,rfl,g2 (by simpa using hb)⟩⟩
  ·rw [bI (by simp [h2]),bA,bQ rfl]
   exact⟨true,rfl,fun h=>by cases h⟩
 ·rw [bQ (by simpa using h1)]
  exact⟨false,rfl,fun _ h=>absurd h h1⟩
theorem La(x:ci)(f:cL)(root:List Int)(hT: ∀n∈f.Nodes,n.Op=1→0≤n.Table): ∃b,iO (some x) f root=some b∧(b=true→Kh x.c f root):=by
 unfold iO
 by_cases hc:((((((f.At !=(1:Int))&&(f.At !=(2:Int)))||(decide (f.Way<(1:Int))))||(decide ((4:Int)<f.Way)))||((f.Way==(1:Int)) !=(decide ((0:Int)<(f.Cols.length:Int)))))||(decide ((16:Int)<(f.Cols.length:Int))))=true
 ·rw [bQ hc]
  exact⟨false,rfl,fun h=>by cases h⟩
 ·rw [bI hc]
  have hf1: ∀c,df root c=some ((df root c).getD true):=fun c=>by
   obtain⟨b,hb,_⟩:=xo root c
   rw [hb];rfl
  rw [jb hf1,bA]
  cases h1:f.Cols.any (fun c=>(df root c).getD true)with
  |true=>exact⟨false,rfl,fun h=>by cases h⟩
  |false=>
   rw [bI (by simp)]
   have hf2: ∀n∈f.Nodes,ed f (some x) n=some ((ed f (some x) n).getD true):=fun n hn=>by
    obtain⟨b,hb,_⟩:=AC f x n (hT n hn)
    rw [hb];rfl
   rw [wc hf2,bA]
   refine⟨_,rfl,fun h2=>?_⟩
   have h2' :f.Nodes.any (fun n=>(ed f (some x) n).getD true)=false:=by simpa using h2
   rw [List.any_eq_false]at h1 h2'
   simp only [z7,iz,wn,ne_eq,oU,not_or,not_and,yL]at hc
   obtain⟨⟨⟨⟨g1,g3⟩,g4⟩,g5⟩,g6⟩:=hc
   refine⟨?_,⟨by simp at g3;omega,by simp at g4;omega⟩,?_,fun c hm=>?_,by simp at g6;omega,fun n hn ho=>?_⟩
   ·by_cases ha:f.At=1
    ·exact .inl ha
    ·right
     have:=g1 ha
     omega
   ·constructor
    ·intro hw
     rw [hw]at g5
     exact List.length_pos_iff.2 (by simpa using g5)
    ·intro hl
     have e:decide ((0:Int)<(f.Cols.length:Int))=true:=by simpa using hl
     rw [e]at g5
     simpa using g5
   ·obtain⟨b,hb,hb2⟩:=xo root c
    have:=h1 c hm
    rw [hb]at this
    exact hb2 (by simpa using this)
   ·obtain⟨b,hb,hb2⟩:=AC f x n (hT n hn)
    have:=h2' n hn
    rw [hb]at this
    exact hb2 (by simpa using this) ho
theorem yo(p:ci): ∀(l:List (Int×Int)) (one:Bool) (many:Int),(∀x∈l,∃e,dC p.Plan.Frags x.1=some e)→0≤many→many+(l.length:Int)≤100000→
  ∃one',An (tv (fun(x:Int×Int) (s:Bool×Int)=>dr (some p) x s.1 s.2)) l (one,many) some=some (one',many+(l.length:Int))
 |[],one,many,_,_,_=>⟨one,by simp [An]⟩
 |x::tl,one,many,hx,h0,hb=>by
  obtain⟨e,he⟩:=hx x (oc ..)
  simp only [kb]at hb
  obtain⟨one',h1⟩:=yo p tl (e.At==2) (many+1) (fun y hy=>hx y (oS _ hy)) (by omega) (by omega)
  refine⟨one',?_⟩
  show(tv (fun(x:Int×Int) (s:Bool×Int)=>dr (some p) x s.1 s.2) x (one,many)).bind _=_
  rw [show tv (fun(x:Int×Int) (s:Bool×Int)=>dr (some p) x s.1 s.2) x (one,many)=some (true,(e.At==2,IntKind.i64.wrap (many+1)))from by simp [tv,dr,he],bA,bI (by simp),eS (by omega) (by omega),h1]
  simp only [kb]
  congr 2
  omega
def GP(x:ci)(at1:Nat)(f:cL):Prop:=
 (∀n∈f.Nodes,n.Op=9→n.Table<(at1:Int)∧dK (some x) n.Table=some n.Kinds)∧
  (at1+1=x.Plan.Frags.length→f.Way=4∧f.At=2)∧(Ap at1 x.Plan.Frags 0).length=if at1+1=x.Plan.Frags.length then 0 else 1
theorem Od(x:ci)(at1:Nat)(f:cL)(hf:x.Plan.Frags[at1]? =some f)(hn: ∀n∈f.Nodes,n.Op=9→0≤n.Table)(hr: ∀j:Nat,j<x.Plan.Frags.length→ ∃R,dK (some x) (j:Int)=some R)(hl:x.Plan.Frags.length≤100)(hm: ∀g∈x.Plan.Frags,g.Nodes.length≤90):
  ∃b,gu (some x) (at1:Int)=some b∧(b=true→GP x at1 f):=by
 have hat:=(pc.1 hf).1
 unfold gu
 rw [bA,cK,hf,bA]
 have key: ∀ns:List aw,(∀n∈ns,n.Op=9→0≤n.Table)→ ∃b,eE (some x) (at1:Int) f ns=some b∧(b=true→(∀n∈ns,n.Op=9→n.Table<(at1:Int)∧dK (some x) n.Table=some n.Kinds)∧(at1+1=x.Plan.Frags.length→f.Way=4∧f.At=2)∧(Ap at1 x.Plan.Frags 0).length=if at1+1=x.Plan.Frags.length then 0 else 1):=by
  intro ns
  induction ns with
  |nil=>
   intro _
   unfold eE
   rw [bA,AA,bA]
   have hlen:=F2 (from1:=(at1:Int)) (m:=90) x.Plan.Frags 0 hm
   obtain⟨one',h1⟩:=yo x (Ap at1 x.Plan.Frags 0) false 0 (fun y hy=>by
    obtain⟨a,g,j,n,g1,_,g3,_⟩:=Gd hy
    exact⟨g,by rw [g3];show dC _ ((0+a:Nat):Int)=_;rw [pj,cK,g1]⟩) (by omega) (by omega)
   show∃b,(An (tv (fun(y:Int×Int) (s:Bool×Int)=>dr (some x) y s.1 s.2)) (Ap (at1:Int) x.Plan.Frags 0) (false,(0:Int)) some).bind _=some b∧_
   rw [h1,bA,Int.zero_add]
   show∃b,(if((at1:Int)==(IntKind.i64.wrap ((x.Plan.Frags.length:Int)-(1:Int))))then _ else _)=some b∧_
   rw [eS (by omega) (by omega)]
   by_cases hlast:at1+1=x.Plan.Frags.length
   ·rw [bQ (by simp;omega)]
    obtain⟨t,ht,htt⟩: ∃t,(if(((f.Way==(4:Int))&&(f.At==(2:Int)))&&(((Ap at1 x.Plan.Frags 0).length:Int)==(0:Int)))then((dK (some x) (at1:Int)).bind fun r=>(d5 r (4:Int)).bind fun r1=>some (!r1))else some false)=some t∧(t=true→f.Way=4∧f.At=2∧(Ap at1 x.Plan.Frags 0).length=0):=by
     split
     ·rename_i hc
      obtain⟨R,hR⟩:=hr at1 hat
      rw [hR,bA,pC,bA]
      simp only [iz,uM]at hc
      exact⟨_,rfl,fun _=>⟨hc.1.1,hc.1.2,by omega⟩⟩
     ·exact⟨false,rfl,fun h=>by cases h⟩
    rw [ht,bA]
    exact⟨t,rfl,fun h=>⟨fun n hn=>(by cases hn),fun _=>⟨(htt h).1,(htt h).2.1⟩,by rw [bQ hlast];exact(htt h).2.2⟩⟩
   ·rw [bI (by simp;omega)]
    refine⟨_,rfl,fun h=>⟨fun n hn=>(by cases hn),fun h' =>absurd h' hlast,?_⟩⟩
    rw [bI hlast]
    simp only [iz,uM]at h
    have:=h.1.2
    omega
  |cons n tl ih=>
   intro hall
   obtain⟨b,hb,hbt⟩:=ih (fun m hm=>hall m (oS _ hm))
   unfold eE
   obtain⟨t,ht,htt⟩: ∃t,(if(n.Op==(9:Int))then((if(!(decide ((at1:Int)≤n.Table)))then((dK (some x) n.Table).bind fun r2=>(fv n.Kinds r2).bind fun r3=>some (!r3))else some true).bind fun t2=>some t2)else some false)=some t∧(t=false→n.Op=9→n.Table<(at1:Int)∧dK (some x) n.Table=some n.Kinds):=by
    by_cases h9:n.Op=9
    ·rw [bQ (by simp [h9])]
     by_cases hlt:(at1:Int)≤n.Table
     ·rw [bI (by simpa using hlt)]
      exact⟨true,rfl,fun h=>by cases h⟩
     ·have h0:=hall n (oc ..) h9
      rw [bQ (by simpa using hlt)]
      obtain⟨R,hR⟩:=hr n.Table.toNat (by omega)
      rw [Int.toNat_of_nonneg h0]at hR
      rw [hR,bA,sK,bA,bA]
      refine⟨_,rfl,fun h _=>⟨by omega,?_⟩⟩
      have:n.Kinds=R:=by simpa using h
      rw [this]
    ·rw [bI (by simpa using h9)]
     exact⟨false,rfl,fun _ h=>absurd h h9⟩
   rw [ht,bA]
   cases t with
   |true=>exact⟨false,rfl,fun h=>by cases h⟩
   |false=>
    rw [bI (by simp)]
    refine⟨b,hb,fun h=>⟨fun m hm=>?_,(hbt h).2⟩⟩
    rcases kp.1 hm with rfl|hm
    ·exact htt rfl
    ·exact(hbt h).1 m hm
 exact key f.Nodes hn
structure vP(q:da):Prop where
 len:q.Frags.length≤100
 frag: ∀f∈q.Frags,pb f.Nodes
def w9(c:bG)(f:cL)(K:List (List Int)):Prop:=UX f.Nodes K∧1≤f.Nodes.length∧f.Nodes.length≤60∧oC f.Nodes=some (K,0,0)∧ ∃R,K[f.Nodes.length-1]? =some R∧Kh c f R
structure yD(c:bG)(q:da)(KS:List (List (List Int))):Prop where
 cat:AH c=true
 n1:1≤q.Frags.length
 n30:q.Frags.length≤30
 len:KS.length=q.Frags.length
 kok: ∀(i:Nat) (f:cL),q.Frags[i]? =some f→ ∃K,KS[i]? =some K∧w9 c f K
 rd: ∀(i:Nat) (f:cL),q.Frags[i]? =some f→GP ⟨q,c,KS⟩ i f
def Y8(c:bG)(q:da):Prop:= ¬(1≤q.Frags.length∧q.Frags.length≤30)∨ ∃(KS:List (List (List Int))) (i:Nat),KS.length=q.Frags.length∧(∀(i:Nat) (f:cL),q.Frags[i]? =some f→ ∃K,KS[i]? =some K∧w9 c f K)∧i<q.Frags.length∧gu (some ⟨q,c,KS⟩) (i:Int)=some false
def xb(c:bG)(q:da)(r:Option (Option ci×Int×Int×Int)):Prop:= ∃p i a e,r=some (p,i,a,e)∧((e=0∧i=0∧a=0∧ ∃KS,p=some ⟨q,c,KS⟩∧yD c q KS)∨(e≠0∧(e=210∨e=291∨(e=290∧Y8 c q))))
theorem FY{q:da}{c:bG}{KS:List (List (List Int))}{j:Nat}{f:cL}{K:List (List Int)}(hK:KS[j]? =some K)(h:w9 c f K): ∃R,dK (some ⟨q,c,KS⟩) (j:Int)=some R∧K[f.Nodes.length-1]? =some R∧Kh c f R:=by
 obtain⟨h1,h2,h3,_,R,h5,h6⟩:=h
 refine⟨R,?_,h5,h6⟩
 obtain⟨R',g1,g2,_⟩:=h1.root h2 (by omega)
 rw [h5]at g2
 cases g2
 unfold dK
 rw [bA,cK]
 show(KS[j]?).bind _=_
 rw [hK,bA,g1]
 rfl
theorem u4{ns:List aw}{K:List (List Int)}(h:UX ns K): ∀n∈ns,(n.Op=1∨n.Op=9)→0≤n.Table:=fun n hn ho=>by
 obtain⟨j,hj⟩:=AX hn
 obtain⟨m,R,g1,g2,g3,g4,g5,_⟩:=h.at_ j (pc.1 hj).1
 rw [hj]at g1
 cases g1
 rcases ho with ho|ho
 ·exact(g5.1 ho).2.1
 ·exact(g5.2.1 ho).2.1
theorem Bp{c:bG}{q:da}{KS:List (List (List Int))}(hc:AH c=true)(hq:vP q)(h1:1≤q.Frags.length)(h30:q.Frags.length≤30)(hl:KS.length=q.Frags.length)(hk: ∀(i:Nat) (f:cL),q.Frags[i]? =some f→ ∃K,KS[i]? =some K∧w9 c f K):
  ∀(tl:List cL) (i:Nat),q.Frags.drop i=tl→(∀(j:Nat) (f:cL),j<i→q.Frags[j]? =some f→GP ⟨q,c,KS⟩ j f)→xb c q (mj ⟨q,c,KS⟩ tl i)
 |[],i,hd,hr=>by
  have hlen:=tq hd
  exact⟨_,_,_,_,rfl,.inl ⟨rfl,rfl,rfl,KS,rfl,hc,h1,h30,hl,hk,fun j f hj=>hr j f (by have:=(pc.1 hj).1;omega) hj⟩⟩
 |f::tl,i,hd,hr=>by
  obtain⟨hidx,hi,hd'⟩:=lE hd
  rw [cK]at hidx
  unfold mj
  obtain⟨K,hK,hF⟩:=hk i f hidx
  obtain⟨b,hb,hbt⟩:=Od ⟨q,c,KS⟩ i f hidx (fun n hn ho=>u4 hF.1 n hn (.inr ho)) (fun j hj=>by
   obtain⟨K',hK',hF'⟩:=hk j _ (nP hj)
   obtain⟨R,hR,_⟩:=FY (q:=q) hK' hF'
   exact⟨R,hR⟩) (by show q.Frags.length≤100;omega) (fun g hg=>(hq.frag g hg).len)
  rw [hb,bA]
  cases b with
  |false=>exact⟨_,_,_,_,rfl,.inr ⟨by decide,.inr (.inr ⟨rfl,.inr ⟨KS,i,hl,hk,hi,hb⟩⟩)⟩⟩
  |true=>
   rw [bI (by simp)]
   refine Bp hc hq h1 h30 hl hk tl (i+1) hd' (fun j g hj hg=>?_)
   by_cases hji:j<i
   ·exact hr j g hji hg
   ·have:j=i:=by omega
    subst this
    rw [hidx]at hg
    cases hg
    exact hbt rfl
theorem Bq{c:bG}{q:da}(hc:AH c=true)(hq:vP q)(h1:1≤q.Frags.length)(h30:q.Frags.length≤30):
  ∀(tl:List cL) (i:Nat) (KS:List (List (List Int))),q.Frags.drop i=tl→i≤q.Frags.length→KS.length=i→(∀(j:Nat) (f:cL),j<i→q.Frags[j]? =some f→ ∃K,KS[j]? =some K∧w9 c f K)→xb c q (jE q tl i ⟨q,c,KS⟩)
 |[],i,KS,hd,hi,hl,hk=>by
  have hlen:=tq hd
  exact Bp hc hq h1 h30 (by omega) (fun j f hj=>hk j f (by have:=(pc.1 hj).1;omega) hj) q.Frags 0 rfl (fun j f hj=>by omega)
 |f::tl,i,KS,hd,_,hl,hk=>by
  obtain⟨hidx,hi,hd'⟩:=lE hd
  rw [cK]at hidx
  unfold jE
  obtain⟨out,w,e,hK,hcase⟩:=xM (hq.frag f (qS hidx))
  rw [hK,bA]
  rcases hcase with⟨he,hw,hkok,g1,g60⟩|⟨he,_⟩
  ·subst he;subst hw
   rw [bI (by simp)]
   obtain⟨R,r1,r2,_⟩:=hkok.root g1 (by omega)
   show xb c q ((dC out (IntKind.i64.wrap ((out.length:Int)-(1:Int)))).bind _)
   rw [r1,bA]
   obtain⟨b,hb,hbt⟩:=La ⟨q,c,KS⟩ f R (fun n hn ho=>u4 hkok n hn (.inl ho))
   rw [hb,bA]
   cases b with
   |false=>exact⟨_,_,_,_,rfl,.inr ⟨by decide,.inr (.inl rfl)⟩⟩
   |true=>
    rw [bI (by simp)]
    show xb c q ((ko KS [out]).bind _)
    rw [du (by simp;omega),bA]
    refine Bq hc hq h1 h30 tl (i+1) (KS++[out]) hd' (by omega) (by simp [hl]) (fun j g hj hg=>?_)
    by_cases hji:j<i
    ·obtain⟨K,hK1,hF⟩:=hk j g hji hg
     exact⟨K,by rw [vh (by omega)];exact hK1,hF⟩
    ·have:j=i:=by omega
     subst this
     rw [hidx]at hg
     cases hg
     exact⟨out,by rw [uu (by omega),hl];simp,hkok,g1,g60,hK,R,r2,hbt rfl⟩
  ·rw [bQ (by subst he;rfl)]
   exact⟨_,_,_,_,rfl,.inr ⟨by show e≠0;omega,.inr (.inl he)⟩⟩
theorem Pu{c:bG}{q:da}(hc:qM c)(hq:vP q):xb c q (na q c):=by
 unfold na
 rw [u6 hc,bA]
 cases hb:AH c with
 |false=>exact⟨_,_,_,_,rfl,.inr ⟨by decide,.inl rfl⟩⟩
 |true=>
  rw [bQ rfl,bI (by decide)]
  by_cases hl:((decide ((q.Frags.length:Int)<(1:Int)))||(decide ((30:Int)<(q.Frags.length:Int))))=true
  ·rw [bQ hl]
   exact⟨_,_,_,_,rfl,.inr ⟨by decide,.inr (.inr ⟨rfl,.inl (by simp at hl;omega)⟩)⟩⟩
  ·rw [bI hl]
   simp at hl
   exact Bq hb hq (by omega) (by omega) q.Frags 0 [] rfl (jz _) rfl (fun j f hj=>by omega)
end Go.Proofs.YtmogpgcfognefaaGreatDoor

