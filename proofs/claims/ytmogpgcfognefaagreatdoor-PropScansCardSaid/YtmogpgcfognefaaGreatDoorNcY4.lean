/- cd of this claim: Y4. -/
import Derived.Test.YtmogpgcfognefaaGreatDoorNcY3
import Derived.Test.YtmogpgcfognefaaGreatDoorNcQ1
set_option linter.all false
namespace Go.Proofs.YtmogpgcfognefaaGreatDoor
open Go

theorem vb{f:aZ→Option Bool}{g:aZ→Bool}: ∀(l:List aZ) (i:Nat),(∀n∈l,f n=some (g n))→ ∃j:Int,cD f l i=some j∧decide (0≤j)=l.any g
 |[],i,_=>⟨-1,rfl,rfl⟩
 |n::tl,i,h=>by
  unfold cD
  rw [h n (kU ..),ce]
  cases hg:g n with
  |true=>exact⟨i,by simp,by simp [hg]⟩
  |false=>
   obtain⟨j,h1,h2⟩:=vb tl (i+1) (fun x hx=>h x (kR _ hx))
   exact⟨j,by rw [dg (by simp)];exact h1,by rw [h2];simp [hg]⟩
theorem wP{f:aZ→Option Bool}{g:aZ→Bool}{l:List aZ}(h: ∀n∈l,f n=some (g n)):de l f=some (l.any g):=by
 unfold de du
 obtain⟨j,h1,h2⟩:=vb l 0 h
 rw [h1,ce,h2]
theorem ve{cs:List aU}: ∀(l:List Int) (i:Nat),i+l.length=cs.length→ ∃b,b7 cs il l i=some b
 |[],i,_=>⟨true,rfl⟩
 |k::tl,i,h=>by
  simp only [lm]at h
  unfold b7
  rw [dy,nK (by omega),ce]
  show∃b,(if(!(k==cs[i].Kind))then some false else _)=some b
  split
  ·exact⟨false,rfl⟩
  ·exact ve tl (i+1) (by omega)
theorem DC(l:List Int)(cs:List aU): ∃b,cF l cs il=some b∧(b=true→l.length=cs.length):=by
 unfold cF
 by_cases h:l.length=cs.length
 ·rw [dg (by simp [h])]
  obtain⟨b,hb⟩:=ve (cs:=cs) l 0 (by omega)
  exact⟨b,hb,fun _=>h⟩
 ·rw [c8 (by simp;omega)]
  exact⟨false,rfl,fun h=>by cases h⟩
structure E0(c:aT)(f:dc)(root:List Int):Prop where
 at_:f.At=1∨f.At=2
 way:1≤f.Way∧f.Way≤4
 cols:f.Way=1↔0<f.Cols.length
 inr: ∀x∈f.Cols,0≤x∧x<(root.length:Int)
 clen:f.Cols.length≤16
 scan: ∀n∈f.Nodes,n.Op=1→f.At=1∧ ∃t,ea c.Tables n.Table=some t∧n.Kinds.length=t.Columns.length
theorem Av(root:List Int)(c:Int): ∃b,dQ root c=some b∧(b=false→0≤c∧c<(root.length:Int)):=by
 unfold dQ
 by_cases h:(!((decide (c<(0:Int)))||(decide ((root.length:Int)≤c))))=true
 ·rw [c8 h]
  simp at h
  rw [lz c.toNat (by omega),nK (by omega)]
  exact⟨_,rfl,fun _=>by omega⟩
 ·rw [dg h]
  exact⟨true,rfl,fun h=>by cases h⟩
theorem Au(f:dc)(x:bN)(n:aZ)(hn:n.Op=1→0≤n.Table): ∃b,dP f (some x) n=some b∧(b=false→n.Op=1→f.At=1∧ ∃t,ea x.c.Tables n.Table=some t∧n.Kinds.length=t.Columns.length):=by
 unfold dP
 by_cases h1:n.Op=1
 ·rw [dg (by simp [h1])]
  by_cases h2:f.At=1
  ·rw [c8 (by simp [h2]),ce,ce]
   by_cases h3:(x.c.Tables.length:Int)≤n.Table
   ·rw [c8 (by simpa using h3)]
    exact⟨true,rfl,fun h=>by cases h⟩
   ·rw [dg (by simpa using h3),ce]
    have h0:=hn h1
    rw [lz n.Table.toNat (by omega),nK (by omega),ce]
    obtain⟨b,g1,g2⟩:=DC n.Kinds (x.c.Tables[n.Table.toNat]'(by omega)).Columns
    rw [g1,ce]
    exact⟨_,rfl,fun hb _=>⟨h2,_,rfl,g2 (by simpa using hb)⟩⟩
  ·rw [dg (by simp [h2]),ce,c8 rfl]
   exact⟨true,rfl,fun h=>by cases h⟩
 ·rw [c8 (by simpa using h1)]
  exact⟨false,rfl,fun _ h=>absurd h h1⟩
theorem Kg(x:bN)(f:dc)(root:List Int)(hT: ∀n∈f.Nodes,n.Op=1→0≤n.Table): ∃b,kb (some x) f root=some b∧(b=true→E0 x.c f root):=by
 unfold kb
 by_cases hc:((((((f.At !=(1:Int))&&(f.At !=(2:Int)))||(decide (f.Way<(1:Int))))||(decide ((4:Int)<f.Way)))||((f.Way==(1:Int)) !=(decide ((0:Int)<(f.Cols.length:Int)))))||(decide ((16:Int)<(f.Cols.length:Int))))=true
 ·rw [c8 hc]
  exact⟨false,rfl,fun h=>by cases h⟩
 ·rw [dg hc]
  have hf1: ∀c,dQ root c=some ((dQ root c).getD true):=fun c=>by
   obtain⟨b,hb,_⟩:=Av root c
   rw [hb];rfl
  rw [gI hf1,ce]
  cases h1:f.Cols.any (fun c=>(dQ root c).getD true)with
  |true=>exact⟨false,rfl,fun h=>by cases h⟩
  |false=>
   rw [dg (by simp)]
   have hf2: ∀n∈f.Nodes,dP f (some x) n=some ((dP f (some x) n).getD true):=fun n hn=>by
    obtain⟨b,hb,_⟩:=Au f x n (hT n hn)
    rw [hb];rfl
   rw [wP hf2,ce]
   refine⟨_,rfl,fun h2=>?_⟩
   have h2' :f.Nodes.any (fun n=>(dP f (some x) n).getD true)=false:=by simpa using h2
   rw [List.any_eq_false]at h1 h2'
   simp only [vU,mA,bne_iff_ne,ne_eq,ny,not_or,not_and,tY]at hc
   obtain⟨⟨⟨⟨g1,g3⟩,g4⟩,g5⟩,g6⟩:=hc
   refine⟨?_,⟨by simp at g3;omega,by simp at g4;omega⟩,?_,fun c hm=>?_,by simp at g6;omega,fun n hn ho=>?_⟩
   ·by_cases ha:f.At=1
    ·exact .inl ha
    ·right
     have:=g1 ha
     omega
   ·constructor
    ·intro hw
     rw [hw]at g5
     exact List.length_pos_iff.2 (by simpa using g5)
    ·intro hl
     have e:decide ((0:Int)<(f.Cols.length:Int))=true:=by simpa using hl
     rw [e]at g5
     simpa using g5
   ·obtain⟨b,hb,hb2⟩:=Av root c
    have:=h1 c hm
    rw [hb]at this
    exact hb2 (by simpa using this)
   ·obtain⟨b,hb,hb2⟩:=Au f x n (hT n hn)
    have:=h2' n hn
    rw [hb]at this
    exact hb2 (by simpa using this) ho
theorem xZ(p:bN): ∀(l:List (Int×Int)) (one:Bool) (many:Int),(∀x∈l,∃e,ea p.Plan.Frags x.1=some e)→0≤many→many+(l.length:Int)≤100000→
  ∃one',xR (s9 (fun(x:Int×Int) (s:Bool×Int)=>dU (some p) x s.1 s.2)) l (one,many) some=some (one',many+(l.length:Int))
 |[],one,many,_,_,_=>⟨one,by simp [xR]⟩
 |x::tl,one,many,hx,h0,hb=>by
  obtain⟨e,he⟩:=hx x (kU ..)
  simp only [lm]at hb
  obtain⟨one',h1⟩:=xZ p tl (e.At==2) (many+1) (fun y hy=>hx y (kR _ hy)) (by omega) (by omega)
  refine⟨one',?_⟩
  show(s9 (fun(x:Int×Int) (s:Bool×Int)=>dU (some p) x s.1 s.2) x (one,many)).bind _=_
  rw [show s9 (fun(x:Int×Int) (s:Bool×Int)=>dU (some p) x s.1 s.2) x (one,many)=some (true,(e.At==2,IntKind.i64.wrap (many+1)))from by simp [s9,dU,he],ce,dg (by simp),j8 (by omega) (by omega),h1]
  simp only [lm]
  congr 2
  omega
def B2(x:bN)(at1:Nat)(f:dc):Prop:=
 (∀n∈f.Nodes,n.Op=9→n.Table<(at1:Int)∧cB (some x) n.Table=some n.Kinds)∧
  (at1+1=x.Plan.Frags.length→f.Way=4∧f.At=2)∧(Eg at1 x.Plan.Frags 0).length=if at1+1=x.Plan.Frags.length then 0 else 1
theorem Ih(x:bN)(at1:Nat)(f:dc)(hf:x.Plan.Frags[at1]? =some f)(hn: ∀n∈f.Nodes,n.Op=9→0≤n.Table)(hr: ∀j:Nat,j<x.Plan.Frags.length→ ∃R,cB (some x) (j:Int)=some R)(hl:x.Plan.Frags.length≤100)(hm: ∀g∈x.Plan.Frags,g.Nodes.length≤90):
  ∃b,fR (some x) (at1:Int)=some b∧(b=true→B2 x at1 f):=by
 have hat:=(lT.1 hf).1
 unfold fR
 rw [ce,dy,hf,ce]
 have key: ∀ns:List aZ,(∀n∈ns,n.Op=9→0≤n.Table)→ ∃b,dS (some x) (at1:Int) f ns=some b∧(b=true→(∀n∈ns,n.Op=9→n.Table<(at1:Int)∧cB (some x) n.Table=some n.Kinds)∧(at1+1=x.Plan.Frags.length→f.Way=4∧f.At=2)∧(Eg at1 x.Plan.Frags 0).length=if at1+1=x.Plan.Frags.length then 0 else 1):=by
  intro ns
  induction ns with
  |nil=>
   intro _
   unfold dS
   rw [ce,He,ce]
   have hlen:=Fp (from1:=(at1:Int)) (m:=90) x.Plan.Frags 0 hm
   obtain⟨one',h1⟩:=xZ x (Eg at1 x.Plan.Frags 0) false 0 (fun y hy=>by
    obtain⟨a,g,j,n,g1,_,g3,_⟩:=FA hy
    exact⟨g,by rw [g3];show ea _ ((0+a:Nat):Int)=_;rw [pt,dy,g1]⟩) (by omega) (by omega)
   show∃b,(xR (s9 (fun(y:Int×Int) (s:Bool×Int)=>dU (some x) y s.1 s.2)) (Eg (at1:Int) x.Plan.Frags 0) (false,(0:Int)) some).bind _=some b∧_
   rw [h1,ce,Int.zero_add]
   show∃b,(if((at1:Int)==(IntKind.i64.wrap ((x.Plan.Frags.length:Int)-(1:Int))))then _ else _)=some b∧_
   rw [j8 (by omega) (by omega)]
   by_cases hlast:at1+1=x.Plan.Frags.length
   ·rw [c8 (by simp;omega)]
    obtain⟨t,ht,htt⟩: ∃t,(if(((f.Way==(4:Int))&&(f.At==(2:Int)))&&(((Eg at1 x.Plan.Frags 0).length:Int)==(0:Int)))then((cB (some x) (at1:Int)).bind fun r=>(cN r (4:Int)).bind fun r1=>some (!r1))else some false)=some t∧(t=true→f.Way=4∧f.At=2∧(Eg at1 x.Plan.Frags 0).length=0):=by
     split
     ·rename_i hc
      obtain⟨R,hR⟩:=hr at1 hat
      rw [hR,ce,nG,ce]
      simp only [mA,vP]at hc
      exact⟨_,rfl,fun _=>⟨hc.1.1,hc.1.2,by omega⟩⟩
     ·exact⟨false,rfl,fun h=>by cases h⟩
    rw [ht,ce]
    exact⟨t,rfl,fun h=>⟨fun n hn=>(by cases hn),fun _=>⟨(htt h).1,(htt h).2.1⟩,by rw [c8 hlast];exact(htt h).2.2⟩⟩
   ·rw [dg (by simp;omega)]
    refine⟨_,rfl,fun h=>⟨fun n hn=>(by cases hn),fun h' =>absurd h' hlast,?_⟩⟩
    rw [dg hlast]
    simp only [mA,vP]at h
    have:=h.1.2
    omega
  |cons n tl ih=>
   intro hall
   obtain⟨b,hb,hbt⟩:=ih (fun m hm=>hall m (kR _ hm))
   unfold dS
   obtain⟨t,ht,htt⟩: ∃t,(if(n.Op==(9:Int))then((if(!(decide ((at1:Int)≤n.Table)))then((cB (some x) n.Table).bind fun r2=>(ee n.Kinds r2).bind fun r3=>some (!r3))else some true).bind fun t2=>some t2)else some false)=some t∧(t=false→n.Op=9→n.Table<(at1:Int)∧cB (some x) n.Table=some n.Kinds):=by
    by_cases h9:n.Op=9
    ·rw [c8 (by simp [h9])]
     by_cases hlt:(at1:Int)≤n.Table
     ·rw [dg (by simpa using hlt)]
      exact⟨true,rfl,fun h=>by cases h⟩
     ·have h0:=hall n (kU ..) h9
      rw [c8 (by simpa using hlt)]
      obtain⟨R,hR⟩:=hr n.Table.toNat (by omega)
      rw [Int.toNat_of_nonneg h0]at hR
      rw [hR,ce,vd,ce,ce]
      refine⟨_,rfl,fun h _=>⟨by omega,?_⟩⟩
      have:n.Kinds=R:=by simpa using h
      rw [this]
    ·rw [dg (by simpa using h9)]
     exact⟨false,rfl,fun _ h=>absurd h h9⟩
   rw [ht,ce]
   cases t with
   |true=>exact⟨false,rfl,fun h=>by cases h⟩
   |false=>
    rw [dg (by simp)]
    refine⟨b,hb,fun h=>⟨fun m hm=>?_,(hbt h).2⟩⟩
    rcases gz.1 hm with rfl|hm
    ·exact htt rfl
    ·exact(hbt h).1 m hm
 exact key f.Nodes hn
structure BZ(q:eC):Prop where
 len:q.Frags.length≤100
 frag: ∀f∈q.Frags,B0 f.Nodes
def zd(c:aT)(f:dc)(K:List (List Int)):Prop:=Q8 f.Nodes K∧1≤f.Nodes.length∧f.Nodes.length≤60∧oD f.Nodes=some (K,0,0)∧ ∃R,K[f.Nodes.length-1]? =some R∧E0 c f R
structure N8(c:aT)(q:eC)(KS:List (List (List Int))):Prop where
 cat:uX c=true
 n1:1≤q.Frags.length
 n30:q.Frags.length≤30
 len:KS.length=q.Frags.length
 kok: ∀(i:Nat) (f:dc),q.Frags[i]? =some f→ ∃K,KS[i]? =some K∧zd c f K
 rd: ∀(i:Nat) (f:dc),q.Frags[i]? =some f→B2 ⟨q,c,KS⟩ i f
def Sy(c:aT)(q:eC):Prop:= ¬(1≤q.Frags.length∧q.Frags.length≤30)∨ ∃(KS:List (List (List Int))) (i:Nat),KS.length=q.Frags.length∧(∀(i:Nat) (f:dc),q.Frags[i]? =some f→ ∃K,KS[i]? =some K∧zd c f K)∧i<q.Frags.length∧fR (some ⟨q,c,KS⟩) (i:Int)=some false
def sf(c:aT)(q:eC)(r:Option (Option bN×Int×Int×Int)):Prop:= ∃p i a e,r=some (p,i,a,e)∧((e=0∧i=0∧a=0∧ ∃KS,p=some ⟨q,c,KS⟩∧N8 c q KS)∨(e≠0∧(e=210∨e=291∨(e=290∧Sy c q))))
theorem Fl{q:eC}{c:aT}{KS:List (List (List Int))}{j:Nat}{f:dc}{K:List (List Int)}(hK:KS[j]? =some K)(h:zd c f K): ∃R,cB (some ⟨q,c,KS⟩) (j:Int)=some R∧K[f.Nodes.length-1]? =some R∧E0 c f R:=by
 obtain⟨h1,h2,h3,_,R,h5,h6⟩:=h
 refine⟨R,?_,h5,h6⟩
 obtain⟨R',g1,g2,_⟩:=h1.root h2 (by omega)
 rw [h5]at g2
 cases g2
 unfold cB
 rw [ce,dy]
 show(KS[j]?).bind _=_
 rw [hK,ce,g1]
 rfl
theorem Ar{ns:List aZ}{K:List (List Int)}(h:Q8 ns K): ∀n∈ns,(n.Op=1∨n.Op=9)→0≤n.Table:=fun n hn ho=>by
 obtain⟨j,hj⟩:=List.getElem?_of_mem hn
 obtain⟨m,R,g1,g2,g3,g4,g5,_⟩:=h.at_ j (lT.1 hj).1
 rw [hj]at g1
 cases g1
 rcases ho with ho|ho
 ·exact(g5.1 ho).2.1
 ·exact(g5.2.1 ho).2.1
theorem wr{c:aT}{q:eC}{KS:List (List (List Int))}(hc:uX c=true)(hq:BZ q)(h1:1≤q.Frags.length)(h30:q.Frags.length≤30)(hl:KS.length=q.Frags.length)(hk: ∀(i:Nat) (f:dc),q.Frags[i]? =some f→ ∃K,KS[i]? =some K∧zd c f K):
  ∀(tl:List dc) (i:Nat),q.Frags.drop i=tl→(∀(j:Nat) (f:dc),j<i→q.Frags[j]? =some f→B2 ⟨q,c,KS⟩ j f)→sf c q (k8 ⟨q,c,KS⟩ tl i)
 |[],i,hd,hr=>by
  have hlen:=yP hd
  exact⟨_,_,_,_,rfl,.inl ⟨rfl,rfl,rfl,KS,rfl,hc,h1,h30,hl,hk,fun j f hj=>hr j f (by have:=(lT.1 hj).1;omega) hj⟩⟩
 |f::tl,i,hd,hr=>by
  obtain⟨hidx,hi,hd'⟩:=BV hd
  rw [dy]at hidx
  unfold k8
  obtain⟨K,hK,hF⟩:=hk i f hidx
  obtain⟨b,hb,hbt⟩:=Ih ⟨q,c,KS⟩ i f hidx (fun n hn ho=>Ar hF.1 n hn (.inr ho)) (fun j hj=>by
   obtain⟨K',hK',hF'⟩:=hk j _ (nK hj)
   obtain⟨R,hR,_⟩:=Fl (q:=q) hK' hF'
   exact⟨R,hR⟩) (by show q.Frags.length≤100;omega) (fun g hg=>(hq.frag g hg).len)
  rw [hb,ce]
  cases b with
  |false=>exact⟨_,_,_,_,rfl,.inr ⟨by decide,.inr (.inr ⟨rfl,.inr ⟨KS,i,hl,hk,hi,hb⟩⟩)⟩⟩
  |true=>
   rw [dg (by simp)]
   refine wr hc hq h1 h30 hl hk tl (i+1) hd' (fun j g hj hg=>?_)
   by_cases hji:j<i
   ·exact hr j g hji hg
   ·have:j=i:=by omega
    subst this
    rw [hidx]at hg
    cases hg
    exact hbt rfl
theorem wt{c:aT}{q:eC}(hc:uX c=true)(hq:BZ q)(h1:1≤q.Frags.length)(h30:q.Frags.length≤30):
  ∀(tl:List dc) (i:Nat) (KS:List (List (List Int))),q.Frags.drop i=tl→i≤q.Frags.length→KS.length=i→(∀(j:Nat) (f:dc),j<i→q.Frags[j]? =some f→ ∃K,KS[j]? =some K∧zd c f K)→sf c q (k9 q tl i ⟨q,c,KS⟩)
 |[],i,KS,hd,hi,hl,hk=>by
  have hlen:=yP hd
  exact wr hc hq h1 h30 (by omega) (fun j f hj=>hk j f (by have:=(lT.1 hj).1;omega) hj) q.Frags 0 rfl (fun j f hj=>by omega)
 |f::tl,i,KS,hd,_,hl,hk=>by
  obtain⟨hidx,hi,hd'⟩:=BV hd
  rw [dy]at hidx
  unfold k9
  obtain⟨out,w,e,hK,hcase⟩:=zz (hq.frag f (oa hidx))
  rw [hK,ce]
  rcases hcase with⟨he,hw,hkok,g1,g60⟩|⟨he,_⟩
  ·subst he;subst hw
   rw [dg (by simp)]
   obtain⟨R,r1,r2,_⟩:=hkok.root g1 (by omega)
   show sf c q ((ea out (IntKind.i64.wrap ((out.length:Int)-(1:Int)))).bind _)
   rw [r1,ce]
   obtain⟨b,hb,hbt⟩:=Kg ⟨q,c,KS⟩ f R (fun n hn ho=>Ar hkok n hn (.inl ho))
   rw [hb,ce]
   cases b with
   |false=>exact⟨_,_,_,_,rfl,.inr ⟨by decide,.inr (.inl rfl)⟩⟩
   |true=>
    rw [dg (by simp)]
    show sf c q ((mC KS [out]).bind _)
    rw [fh (by simp;omega),ce]
    refine wt hc hq h1 h30 tl (i+1) (KS++[out]) hd' (by omega) (by simp [hl]) (fun j g hj hg=>?_)
    by_cases hji:j<i
    ·obtain⟨K,hK1,hF⟩:=hk j g hji hg
     exact⟨K,by rw [t8 (by omega)];exact hK1,hF⟩
    ·have:j=i:=by omega
     subst this
     rw [hidx]at hg
     cases hg
     exact⟨out,by rw [DO (by omega),hl];simp,hkok,g1,g60,hK,R,r2,hbt rfl⟩
  ·rw [c8 (by subst he;rfl)]
   exact⟨_,_,_,_,rfl,.inr ⟨by show e≠0;omega,.inr (.inl he)⟩⟩
theorem Jd{c:aT}{q:eC}(hc:mq c)(hq:BZ q):sf c q (mL q c):=by
 unfold mL
 rw [mY hc,ce]
 cases hb:uX c with
 |false=>exact⟨_,_,_,_,rfl,.inr ⟨by decide,.inl rfl⟩⟩
 |true=>
  rw [c8 rfl,dg (by decide)]
  by_cases hl:((decide ((q.Frags.length:Int)<(1:Int)))||(decide ((30:Int)<(q.Frags.length:Int))))=true
  ·rw [c8 hl]
   exact⟨_,_,_,_,rfl,.inr ⟨by decide,.inr (.inr ⟨rfl,.inl (by simp at hl;omega)⟩)⟩⟩
  ·rw [dg hl]
   simp at hl
   exact wt hb hq (by omega) (by omega) q.Frags 0 [] rfl (jr _) rfl (fun j f hj=>by omega)
end Go.Proofs.YtmogpgcfognefaaGreatDoor

