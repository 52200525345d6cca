/- cF of this claim: Y4. -/
import Derived.Test.YtmogpgcfognefaaGreatDoorNbY3
import Derived.Test.YtmogpgcfognefaaGreatDoorNbQ2
set_option linter.all false
namespace Go.Proofs.YtmogpgcfognefaaGreatDoor
open Go

theorem uo{f:aB→Option Bool}{g:aB→Bool}: ∀(l:List aB) (i:Nat),(∀n∈l,f n=some (g n))→ ∃j:Int,cE f l i=some j∧decide (0≤j)=l.any g
 |[],i,_=>⟨-1,rfl,rfl⟩
 |n::tl,i,h=>by
  unfold cE
  rw [h n (lI ..),ce]
  cases hg:g n with
  |true=>exact⟨i,by simp,by simp [hg]⟩
  |false=>
   obtain⟨j,h1,h2⟩:=uo tl (i+1) (fun x hx=>h x (lC _ hx))
   exact⟨j,by rw [dh (by simp)];exact h1,by rw [h2];simp [hg]⟩
theorem vY{f:aB→Option Bool}{g:aB→Bool}{l:List aB}(h: ∀n∈l,f n=some (g n)):dc l f=some (l.any g):=by
 unfold dc dw
 obtain⟨j,h1,h2⟩:=uo l 0 h
 rw [h1,ce,h2]
theorem uu{cs:List aU}: ∀(l:List Int) (i:Nat),i+l.length=cs.length→ ∃b,ca cs iC l i=some b
 |[],i,_=>⟨true,rfl⟩
 |k::tl,i,h=>by
  simp only [mN]at h
  unfold ca
  rw [de,mM (by omega),ce]
  show∃b,(if(!(k==cs[i].Kind))then some false else _)=some b
  split
  ·exact⟨false,rfl⟩
  ·exact uu tl (i+1) (by omega)
theorem Cp(l:List Int)(cs:List aU): ∃b,cG l cs iC=some b∧(b=true→l.length=cs.length):=by
 unfold cG
 by_cases h:l.length=cs.length
 ·rw [dh (by simp [h])]
  obtain⟨b,hb⟩:=uu (cs:=cs) l 0 (by omega)
  exact⟨b,hb,fun _=>h⟩
 ·rw [df (by simp;omega)]
  exact⟨false,rfl,fun h=>by cases h⟩
structure DI(c:bz)(f:cU)(root:List Int):Prop where
 at_:f.At=1∨f.At=2
 way:1≤f.Way∧f.Way≤4
 cols:f.Way=1↔0<f.Cols.length
 inr: ∀x∈f.Cols,0≤x∧x<(root.length:Int)
 clen:f.Cols.length≤16
 scan: ∀n∈f.Nodes,n.Op=1→f.At=1∧ ∃t,fe c.Tables n.Table=some t∧n.Kinds.length=t.Columns.length
theorem zd(root:List Int)(c:Int): ∃b,dZ root c=some b∧(b=false→0≤c∧c<(root.length:Int)):=by
 unfold dZ
 by_cases h:(!((decide (c<(0:Int)))||(decide ((root.length:Int)≤c))))=true
 ·rw [df h]
  simp at h
  rw [jg c.toNat (by omega),mM (by omega)]
  exact⟨_,rfl,fun _=>by omega⟩
 ·rw [dh h]
  exact⟨true,rfl,fun h=>by cases h⟩
theorem zc(f:cU)(x:bH)(n:aB)(hn:n.Op=1→0≤n.Table): ∃b,dY f (some x) n=some b∧(b=false→n.Op=1→f.At=1∧ ∃t,fe x.c.Tables n.Table=some t∧n.Kinds.length=t.Columns.length):=by
 unfold dY
 by_cases h1:n.Op=1
 ·rw [dh (by simp [h1])]
  by_cases h2:f.At=1
  ·rw [df (by simp [h2]),ce,ce]
   by_cases h3:(x.c.Tables.length:Int)≤n.Table
   ·rw [df (by simpa using h3)]
    exact⟨true,rfl,fun h=>by cases h⟩
   ·rw [dh (by simpa using h3),ce]
    have h0:=hn h1
    rw [jg n.Table.toNat (by omega),mM (by omega),ce]
    obtain⟨b,g1,g2⟩:=Cp n.Kinds (x.c.Tables[n.Table.toNat]'(by omega)).Columns
    rw [g1,ce]
    exact⟨_,rfl,fun hb _=>⟨h2,_,rfl,g2 (by simpa using hb)⟩⟩
  ·rw [dh (by simp [h2]),ce,df rfl]
   exact⟨true,rfl,fun h=>by cases h⟩
 ·rw [df (by simpa using h1)]
  exact⟨false,rfl,fun _ h=>absurd h h1⟩
theorem IE(x:bH)(f:cU)(root:List Int)(hT: ∀n∈f.Nodes,n.Op=1→0≤n.Table): ∃b,kE (some x) f root=some b∧(b=true→DI x.c f root):=by
 unfold kE
 by_cases hc:((((((f.At !=(1:Int))&&(f.At !=(2:Int)))||(decide (f.Way<(1:Int))))||(decide ((4:Int)<f.Way)))||((f.Way==(1:Int)) !=(decide ((0:Int)<(f.Cols.length:Int)))))||(decide ((16:Int)<(f.Cols.length:Int))))=true
 ·rw [df hc]
  exact⟨false,rfl,fun h=>by cases h⟩
 ·rw [dh hc]
  have hf1: ∀c,dZ root c=some ((dZ root c).getD true):=fun c=>by
   obtain⟨b,hb,_⟩:=zd root c
   rw [hb];rfl
  rw [lr hf1,ce]
  cases h1:f.Cols.any (fun c=>(dZ root c).getD true)with
  |true=>exact⟨false,rfl,fun h=>by cases h⟩
  |false=>
   rw [dh (by simp)]
   have hf2: ∀n∈f.Nodes,dY f (some x) n=some ((dY f (some x) n).getD true):=fun n hn=>by
    obtain⟨b,hb,_⟩:=zc f x n (hT n hn)
    rw [hb];rfl
   rw [vY hf2,ce]
   refine⟨_,rfl,fun h2=>?_⟩
   have h2' :f.Nodes.any (fun n=>(dY f (some x) n).getD true)=false:=by simpa using h2
   rw [List.any_eq_false]at h1 h2'
   simp only [AY,iN,bne_iff_ne,ne_eq,Cx,not_or,not_and,s6]at hc
   obtain⟨⟨⟨⟨g1,g3⟩,g4⟩,g5⟩,g6⟩:=hc
   refine⟨?_,⟨by simp at g3;omega,by simp at g4;omega⟩,?_,fun c hm=>?_,by simp at g6;omega,fun n hn ho=>?_⟩
   ·by_cases ha:f.At=1
    ·exact .inl ha
    ·right
     have:=g1 ha
     omega
   ·constructor
    ·intro hw
     rw [hw]at g5
     exact List.length_pos_iff.2 (by simpa using g5)
    ·intro hl
     have e:decide ((0:Int)<(f.Cols.length:Int))=true:=by simpa using hl
     rw [e]at g5
     simpa using g5
   ·obtain⟨b,hb,hb2⟩:=zd root c
    have:=h1 c hm
    rw [hb]at this
    exact hb2 (by simpa using this)
   ·obtain⟨b,hb,hb2⟩:=zc f x n (hT n hn)
    have:=h2' n hn
    rw [hb]at this
    exact hb2 (by simpa using this) ho
theorem w7(p:bH): ∀(l:List (Int×Int)) (one:Bool) (many:Int),(∀x∈l,∃e,fe p.Plan.Frags x.1=some e)→0≤many→many+(l.length:Int)≤100000→
  ∃one',wR (su (fun(x:Int×Int) (s:Bool×Int)=>d6 (some p) x s.1 s.2)) l (one,many) some=some (one',many+(l.length:Int))
 |[],one,many,_,_,_=>⟨one,by simp [wR]⟩
 |x::tl,one,many,hx,h0,hb=>by
  obtain⟨e,he⟩:=hx x (lI ..)
  simp only [mN]at hb
  obtain⟨one',h1⟩:=w7 p tl (e.At==2) (many+1) (fun y hy=>hx y (lC _ hy)) (by omega) (by omega)
  refine⟨one',?_⟩
  show(su (fun(x:Int×Int) (s:Bool×Int)=>d6 (some p) x s.1 s.2) x (one,many)).bind _=_
  rw [show su (fun(x:Int×Int) (s:Bool×Int)=>d6 (some p) x s.1 s.2) x (one,many)=some (true,(e.At==2,IntKind.i64.wrap (many+1)))from by simp [su,d6,he],ce,dh (by simp),j9 (by omega) (by omega),h1]
  simp only [mN]
  congr 2
  omega
def AP(x:bH)(at1:Nat)(f:cU):Prop:=
 (∀n∈f.Nodes,n.Op=9→n.Table<(at1:Int)∧dl (some x) n.Table=some n.Kinds)∧
  (at1+1=x.Plan.Frags.length→f.Way=4∧f.At=2)∧(Ac at1 x.Plan.Frags 0).length=if at1+1=x.Plan.Frags.length then 0 else 1
theorem GR(x:bH)(at1:Nat)(f:cU)(hf:x.Plan.Frags[at1]? =some f)(hn: ∀n∈f.Nodes,n.Op=9→0≤n.Table)(hr: ∀j:Nat,j<x.Plan.Frags.length→ ∃R,dl (some x) (j:Int)=some R)(hl:x.Plan.Frags.length≤100)(hm: ∀g∈x.Plan.Frags,g.Nodes.length≤90):
  ∃b,jV (some x) (at1:Int)=some b∧(b=true→AP x at1 f):=by
 have hat:=(lJ.1 hf).1
 unfold jV
 rw [ce,de,hf,ce]
 have key: ∀ns:List aB,(∀n∈ns,n.Op=9→0≤n.Table)→ ∃b,eP (some x) (at1:Int) f ns=some b∧(b=true→(∀n∈ns,n.Op=9→n.Table<(at1:Int)∧dl (some x) n.Table=some n.Kinds)∧(at1+1=x.Plan.Frags.length→f.Way=4∧f.At=2)∧(Ac at1 x.Plan.Frags 0).length=if at1+1=x.Plan.Frags.length then 0 else 1):=by
  intro ns
  induction ns with
  |nil=>
   intro _
   unfold eP
   rw [ce,za,ce]
   have hlen:=D9 (from1:=(at1:Int)) (m:=90) x.Plan.Frags 0 hm
   obtain⟨one',h1⟩:=w7 x (Ac at1 x.Plan.Frags 0) false 0 (fun y hy=>by
    obtain⟨a,g,j,n,g1,_,g3,_⟩:=Ej hy
    exact⟨g,by rw [g3];show fe _ ((0+a:Nat):Int)=_;rw [nm,de,g1]⟩) (by omega) (by omega)
   show∃b,(wR (su (fun(y:Int×Int) (s:Bool×Int)=>d6 (some x) y s.1 s.2)) (Ac (at1:Int) x.Plan.Frags 0) (false,(0:Int)) some).bind _=some b∧_
   rw [h1,ce,Int.zero_add]
   show∃b,(if((at1:Int)==(IntKind.i64.wrap ((x.Plan.Frags.length:Int)-(1:Int))))then _ else _)=some b∧_
   rw [j9 (by omega) (by omega)]
   by_cases hlast:at1+1=x.Plan.Frags.length
   ·rw [df (by simp;omega)]
    obtain⟨t,ht,htt⟩: ∃t,(if(((f.Way==(4:Int))&&(f.At==(2:Int)))&&(((Ac at1 x.Plan.Frags 0).length:Int)==(0:Int)))then((dl (some x) (at1:Int)).bind fun r=>(c8 r (4:Int)).bind fun r1=>some (!r1))else some false)=some t∧(t=true→f.Way=4∧f.At=2∧(Ac at1 x.Plan.Frags 0).length=0):=by
     split
     ·rename_i hc
      obtain⟨R,hR⟩:=hr at1 hat
      rw [hR,ce,qC,ce]
      simp only [iN,u4]at hc
      exact⟨_,rfl,fun _=>⟨hc.1.1,hc.1.2,by omega⟩⟩
     ·exact⟨false,rfl,fun h=>by cases h⟩
    rw [ht,ce]
    exact⟨t,rfl,fun h=>⟨fun n hn=>(by cases hn),fun _=>⟨(htt h).1,(htt h).2.1⟩,by rw [df hlast];exact(htt h).2.2⟩⟩
   ·rw [dh (by simp;omega)]
    refine⟨_,rfl,fun h=>⟨fun n hn=>(by cases hn),fun h' =>absurd h' hlast,?_⟩⟩
    rw [dh hlast]
    simp only [iN,u4]at h
    have:=h.1.2
    omega
  |cons n tl ih=>
   intro hall
   obtain⟨b,hb,hbt⟩:=ih (fun m hm=>hall m (lC _ hm))
   unfold eP
   obtain⟨t,ht,htt⟩: ∃t,(if(n.Op==(9:Int))then((if(!(decide ((at1:Int)≤n.Table)))then((dl (some x) n.Table).bind fun r2=>(ep n.Kinds r2).bind fun r3=>some (!r3))else some true).bind fun t2=>some t2)else some false)=some t∧(t=false→n.Op=9→n.Table<(at1:Int)∧dl (some x) n.Table=some n.Kinds):=by
    by_cases h9:n.Op=9
    ·rw [df (by simp [h9])]
     by_cases hlt:(at1:Int)≤n.Table
     ·rw [dh (by simpa using hlt)]
      exact⟨true,rfl,fun h=>by cases h⟩
     ·have h0:=hall n (lI ..) h9
      rw [df (by simpa using hlt)]
      obtain⟨R,hR⟩:=hr n.Table.toNat (by omega)
      rw [Int.toNat_of_nonneg h0]at hR
      rw [hR,ce,ut,ce,ce]
      refine⟨_,rfl,fun h _=>⟨by omega,?_⟩⟩
      have:n.Kinds=R:=by simpa using h
      rw [this]
    ·rw [dh (by simpa using h9)]
     exact⟨false,rfl,fun _ h=>absurd h h9⟩
   rw [ht,ce]
   cases t with
   |true=>exact⟨false,rfl,fun h=>by cases h⟩
   |false=>
    rw [dh (by simp)]
    refine⟨b,hb,fun h=>⟨fun m hm=>?_,(hbt h).2⟩⟩
    rcases gW.1 hm with rfl|hm
    ·exact htt rfl
    ·exact(hbt h).1 m hm
 exact key f.Nodes hn
structure xM(q:eM):Prop where
 len:q.Frags.length≤100
 frag: ∀f∈q.Frags,nj f.Nodes
def vC(c:bz)(f:cU)(K:List (List Int)):Prop:=J7 f.Nodes K∧1≤f.Nodes.length∧f.Nodes.length≤60∧ox f.Nodes=some (K,0,0)∧ ∃R,K[f.Nodes.length-1]? =some R∧DI c f R
structure rp(c:bz)(q:eM)(KS:List (List (List Int))):Prop where
 cat:B2 c=true
 n1:1≤q.Frags.length
 n30:q.Frags.length≤30
 len:KS.length=q.Frags.length
 kok: ∀(i:Nat) (f:cU),q.Frags[i]? =some f→ ∃K,KS[i]? =some K∧vC c f K
 rd: ∀(i:Nat) (f:cU),q.Frags[i]? =some f→AP ⟨q,c,KS⟩ i f
def rt(c:bz)(q:eM)(r:Option (Option bH×Int×Int×Int)):Prop:= ∃p i a e,r=some (p,i,a,e)∧((e=0∧i=0∧a=0∧ ∃KS,p=some ⟨q,c,KS⟩∧rp c q KS)∨e≠0)
theorem D6{q:eM}{c:bz}{KS:List (List (List Int))}{j:Nat}{f:cU}{K:List (List Int)}(hK:KS[j]? =some K)(h:vC c f K): ∃R,dl (some ⟨q,c,KS⟩) (j:Int)=some R∧K[f.Nodes.length-1]? =some R∧DI c f R:=by
 obtain⟨h1,h2,h3,_,R,h5,h6⟩:=h
 refine⟨R,?_,h5,h6⟩
 obtain⟨R',g1,g2,_⟩:=h1.root h2 (by omega)
 rw [h5]at g2
 cases g2
 unfold dl
 rw [ce,de]
 show(KS[j]?).bind _=_
 rw [hK,ce,g1]
 rfl
theorem y8{ns:List aB}{K:List (List Int)}(h:J7 ns K): ∀n∈ns,(n.Op=1∨n.Op=9)→0≤n.Table:=fun n hn ho=>by
 obtain⟨j,hj⟩:=EZ hn
 obtain⟨m,R,g1,g2,g3,g4,g5,_⟩:=h.at_ j (lJ.1 hj).1
 rw [hj]at g1
 cases g1
 rcases ho with ho|ho
 ·exact(g5.1 ho).2.1
 ·exact(g5.2.1 ho).2.1
theorem vy{c:bz}{q:eM}{KS:List (List (List Int))}(hc:B2 c=true)(hq:xM q)(h1:1≤q.Frags.length)(h30:q.Frags.length≤30)(hl:KS.length=q.Frags.length)(hk: ∀(i:Nat) (f:cU),q.Frags[i]? =some f→ ∃K,KS[i]? =some K∧vC c f K):
  ∀(tl:List cU) (i:Nat),q.Frags.drop i=tl→(∀(j:Nat) (f:cU),j<i→q.Frags[j]? =some f→AP ⟨q,c,KS⟩ j f)→rt c q (lw ⟨q,c,KS⟩ tl i)
 |[],i,hd,hr=>by
  have hlen:=rf hd
  exact⟨_,_,_,_,rfl,.inl ⟨rfl,rfl,rfl,KS,rfl,hc,h1,h30,hl,hk,fun j f hj=>hr j f (by have:=(lJ.1 hj).1;omega) hj⟩⟩
 |f::tl,i,hd,hr=>by
  obtain⟨hidx,hi,hd'⟩:=rP hd
  rw [de]at hidx
  unfold lw
  obtain⟨K,hK,hF⟩:=hk i f hidx
  obtain⟨b,hb,hbt⟩:=GR ⟨q,c,KS⟩ i f hidx (fun n hn ho=>y8 hF.1 n hn (.inr ho)) (fun j hj=>by
   obtain⟨K',hK',hF'⟩:=hk j _ (mM hj)
   obtain⟨R,hR,_⟩:=D6 (q:=q) hK' hF'
   exact⟨R,hR⟩) (by show q.Frags.length≤100;omega) (fun g hg=>(hq.frag g hg).len)
  rw [hb,ce]
  cases b with
  |false=>exact⟨_,_,_,_,rfl,.inr (by decide)⟩
  |true=>
   rw [dh (by simp)]
   refine vy hc hq h1 h30 hl hk tl (i+1) hd' (fun j g hj hg=>?_)
   by_cases hji:j<i
   ·exact hr j g hji hg
   ·have:j=i:=by omega
    subst this
    rw [hidx]at hg
    cases hg
    exact hbt rfl
theorem vz{c:bz}{q:eM}(hc:B2 c=true)(hq:xM q)(h1:1≤q.Frags.length)(h30:q.Frags.length≤30):
  ∀(tl:List cU) (i:Nat) (KS:List (List (List Int))),q.Frags.drop i=tl→i≤q.Frags.length→KS.length=i→(∀(j:Nat) (f:cU),j<i→q.Frags[j]? =some f→ ∃K,KS[j]? =some K∧vC c f K)→rt c q (lx q tl i ⟨q,c,KS⟩)
 |[],i,KS,hd,hi,hl,hk=>by
  have hlen:=rf hd
  exact vy hc hq h1 h30 (by omega) (fun j f hj=>hk j f (by have:=(lJ.1 hj).1;omega) hj) q.Frags 0 rfl (fun j f hj=>by omega)
 |f::tl,i,KS,hd,_,hl,hk=>by
  obtain⟨hidx,hi,hd'⟩:=rP hd
  rw [de]at hidx
  unfold lx
  obtain⟨out,w,e,hK,hcase⟩:=yw (hq.frag f (nM hidx))
  rw [hK,ce]
  rcases hcase with⟨he,hw,hkok,g1,g60⟩|⟨he,_⟩
  ·subst he;subst hw
   rw [dh (by simp)]
   obtain⟨R,r1,r2,_⟩:=hkok.root g1 (by omega)
   show rt c q ((fe out (IntKind.i64.wrap ((out.length:Int)-(1:Int)))).bind _)
   rw [r1,ce]
   obtain⟨b,hb,hbt⟩:=IE ⟨q,c,KS⟩ f R (fun n hn ho=>y8 hkok n hn (.inl ho))
   rw [hb,ce]
   cases b with
   |false=>exact⟨_,_,_,_,rfl,.inr (by decide)⟩
   |true=>
    rw [dh (by simp)]
    show rt c q ((nK KS [out]).bind _)
    rw [gF (by simp;omega),ce]
    refine vz hc hq h1 h30 tl (i+1) (KS++[out]) hd' (by omega) (by simp [hl]) (fun j g hj hg=>?_)
    by_cases hji:j<i
    ·obtain⟨K,hK1,hF⟩:=hk j g hji hg
     exact⟨K,by rw [sC (by omega)];exact hK1,hF⟩
    ·have:j=i:=by omega
     subst this
     rw [hidx]at hg
     cases hg
     exact⟨out,by rw [A2 (by omega),hl];simp,hkok,g1,g60,hK,R,r2,hbt rfl⟩
  ·rw [df (by subst he;rfl)]
   exact⟨_,_,_,_,rfl,.inr (by show e≠0;omega)⟩
theorem B4{c:bz}{q:eM}(hc:qt c)(hq:xM q):rt c q (kM q c):=by
 unfold kM
 rw [u0 hc,ce]
 cases hb:B2 c with
 |false=>exact⟨_,_,_,_,rfl,.inr (by decide)⟩
 |true=>
  rw [df rfl,dh (by decide)]
  by_cases hl:((decide ((q.Frags.length:Int)<(1:Int)))||(decide ((30:Int)<(q.Frags.length:Int))))=true
  ·rw [df hl]
   exact⟨_,_,_,_,rfl,.inr (by decide)⟩
  ·rw [dh hl]
   simp at hl
   exact vz hb hq (by omega) (by omega) q.Frags 0 [] rfl (ju _) rfl (fun j f hj=>by omega)
end Go.Proofs.YtmogpgcfognefaaGreatDoor

