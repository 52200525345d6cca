/- cG of this claim: Y4. -/
import Derived.Test.YtmogpgcfognefaaGreatDoorNaY3
import Derived.Test.YtmogpgcfognefaaGreatDoorNaQ2
set_option linter.all false
namespace Go.Proofs.YtmogpgcfognefaaGreatDoor
open Go

theorem uu{f:aF→Option Bool}{g:aF→Bool}: ∀(l:List aF) (i:Nat),(∀n∈l,f n=some (g n))→ ∃j:Int,cD f l i=some j∧decide (0≤j)=l.any g
 |[],i,_=>⟨-1,rfl,rfl⟩
 |n::tl,i,h=>by
  unfold cD
  rw [h n (lI ..),cn]
  cases hg:g n with
  |true=>exact⟨i,by simp,by simp [hg]⟩
  |false=>
   obtain⟨j,h1,h2⟩:=uu tl (i+1) (fun x hx=>h x (ly _ hx))
   exact⟨j,by rw [di (by simp)];exact h1,by rw [h2];simp [hg]⟩
theorem wm{f:aF→Option Bool}{g:aF→Bool}{l:List aF}(h: ∀n∈l,f n=some (g n)):df l f=some (l.any g):=by
 unfold df dz
 obtain⟨j,h1,h2⟩:=uu l 0 h
 rw [h1,cn,h2]
theorem uy{cs:List aV}: ∀(l:List Int) (i:Nat),i+l.length=cs.length→ ∃b,cd cs iD l i=some b
 |[],i,_=>⟨true,rfl⟩
 |k::tl,i,h=>by
  simp only [mv]at h
  unfold cd
  rw [c8,nT (by omega),cn]
  show∃b,(if(!(k==cs[i].Kind))then some false else _)=some b
  split
  ·exact⟨false,rfl⟩
  ·exact uy tl (i+1) (by omega)
theorem CH(l:List Int)(cs:List aV): ∃b,cE l cs iD=some b∧(b=true→l.length=cs.length):=by
 unfold cE
 by_cases h:l.length=cs.length
 ·rw [di (by simp [h])]
  obtain⟨b,hb⟩:=uy (cs:=cs) l 0 (by omega)
  exact⟨b,hb,fun _=>h⟩
 ·rw [dq (by simp;omega)]
  exact⟨false,rfl,fun h=>by cases h⟩
structure DZ(c:bA)(f:cT)(root:List Int):Prop where
 at_:f.At=1∨f.At=2
 way:1≤f.Way∧f.Way≤4
 cols:f.Way=1↔0<f.Cols.length
 inr: ∀x∈f.Cols,0≤x∧x<(root.length:Int)
 clen:f.Cols.length≤16
 scan: ∀n∈f.Nodes,n.Op=1→f.At=1∧ ∃t,eZ c.Tables n.Table=some t∧n.Kinds.length=t.Columns.length
theorem zA(root:List Int)(c:Int): ∃b,d6 root c=some b∧(b=false→0≤c∧c<(root.length:Int)):=by
 unfold d6
 by_cases h:(!((decide (c<(0:Int)))||(decide ((root.length:Int)≤c))))=true
 ·rw [dq h]
  simp at h
  rw [kY c.toNat (by omega),nT (by omega)]
  exact⟨_,rfl,fun _=>by omega⟩
 ·rw [di h]
  exact⟨true,rfl,fun h=>by cases h⟩
theorem zz(f:cT)(x:bI)(n:aF)(hn:n.Op=1→0≤n.Table): ∃b,d5 f (some x) n=some b∧(b=false→n.Op=1→f.At=1∧ ∃t,eZ x.c.Tables n.Table=some t∧n.Kinds.length=t.Columns.length):=by
 unfold d5
 by_cases h1:n.Op=1
 ·rw [di (by simp [h1])]
  by_cases h2:f.At=1
  ·rw [dq (by simp [h2]),cn,cn]
   by_cases h3:(x.c.Tables.length:Int)≤n.Table
   ·rw [dq (by simpa using h3)]
    exact⟨true,rfl,fun h=>by cases h⟩
   ·rw [di (by simpa using h3),cn]
    have h0:=hn h1
    rw [kY n.Table.toNat (by omega),nT (by omega),cn]
    obtain⟨b,g1,g2⟩:=CH n.Kinds (x.c.Tables[n.Table.toNat]'(by omega)).Columns
    rw [g1,cn]
    exact⟨_,rfl,fun hb _=>⟨h2,_,rfl,g2 (by simpa using hb)⟩⟩
  ·rw [di (by simp [h2]),cn,dq rfl]
   exact⟨true,rfl,fun h=>by cases h⟩
 ·rw [dq (by simpa using h1)]
  exact⟨false,rfl,fun _ h=>absurd h h1⟩
theorem IW(x:bI)(f:cT)(root:List Int)(hT: ∀n∈f.Nodes,n.Op=1→0≤n.Table): ∃b,kI (some x) f root=some b∧(b=true→DZ x.c f root):=by
 unfold kI
 by_cases hc:((((((f.At !=(1:Int))&&(f.At !=(2:Int)))||(decide (f.Way<(1:Int))))||(decide ((4:Int)<f.Way)))||((f.Way==(1:Int)) !=(decide ((0:Int)<(f.Cols.length:Int)))))||(decide ((16:Int)<(f.Cols.length:Int))))=true
 ·rw [dq hc]
  exact⟨false,rfl,fun h=>by cases h⟩
 ·rw [di hc]
  have hf1: ∀c,d6 root c=some ((d6 root c).getD true):=fun c=>by
   obtain⟨b,hb,_⟩:=zA root c
   rw [hb];rfl
  rw [lw hf1,cn]
  cases h1:f.Cols.any (fun c=>(d6 root c).getD true)with
  |true=>exact⟨false,rfl,fun h=>by cases h⟩
  |false=>
   rw [di (by simp)]
   have hf2: ∀n∈f.Nodes,d5 f (some x) n=some ((d5 f (some x) n).getD true):=fun n hn=>by
    obtain⟨b,hb,_⟩:=zz f x n (hT n hn)
    rw [hb];rfl
   rw [wm hf2,cn]
   refine⟨_,rfl,fun h2=>?_⟩
   have h2' :f.Nodes.any (fun n=>(d5 f (some x) n).getD true)=false:=by simpa using h2
   rw [List.any_eq_false]at h1 h2'
   simp only [Bj,iP,bne_iff_ne,ne_eq,wM,not_or,not_and,s7]at hc
   obtain⟨⟨⟨⟨g1,g3⟩,g4⟩,g5⟩,g6⟩:=hc
   refine⟨?_,⟨by simp at g3;omega,by simp at g4;omega⟩,?_,fun c hm=>?_,by simp at g6;omega,fun n hn ho=>?_⟩
   ·by_cases ha:f.At=1
    ·exact .inl ha
    ·right
     have:=g1 ha
     omega
   ·constructor
    ·intro hw
     rw [hw]at g5
     exact List.length_pos_iff.2 (by simpa using g5)
    ·intro hl
     have e:decide ((0:Int)<(f.Cols.length:Int))=true:=by simpa using hl
     rw [e]at g5
     simpa using g5
   ·obtain⟨b,hb,hb2⟩:=zA root c
    have:=h1 c hm
    rw [hb]at this
    exact hb2 (by simpa using this)
   ·obtain⟨b,hb,hb2⟩:=zz f x n (hT n hn)
    have:=h2' n hn
    rw [hb]at this
    exact hb2 (by simpa using this) ho
theorem xn(p:bI): ∀(l:List (Int×Int)) (one:Bool) (many:Int),(∀x∈l,∃e,eZ p.Plan.Frags x.1=some e)→0≤many→many+(l.length:Int)≤100000→
  ∃one',xf (sq (fun(x:Int×Int) (s:Bool×Int)=>d8 (some p) x s.1 s.2)) l (one,many) some=some (one',many+(l.length:Int))
 |[],one,many,_,_,_=>⟨one,by simp [xf]⟩
 |x::tl,one,many,hx,h0,hb=>by
  obtain⟨e,he⟩:=hx x (lI ..)
  simp only [mv]at hb
  obtain⟨one',h1⟩:=xn p tl (e.At==2) (many+1) (fun y hy=>hx y (ly _ hy)) (by omega) (by omega)
  refine⟨one',?_⟩
  show(sq (fun(x:Int×Int) (s:Bool×Int)=>d8 (some p) x s.1 s.2) x (one,many)).bind _=_
  rw [show sq (fun(x:Int×Int) (s:Bool×Int)=>d8 (some p) x s.1 s.2) x (one,many)=some (true,(e.At==2,IntKind.i64.wrap (many+1)))from by simp [sq,d8,he],cn,di (by simp),kF (by omega) (by omega),h1]
  simp only [mv]
  congr 2
  omega
def Bb(x:bI)(at1:Nat)(f:cT):Prop:=
 (∀n∈f.Nodes,n.Op=9→n.Table<(at1:Int)∧dl (some x) n.Table=some n.Kinds)∧
  (at1+1=x.Plan.Frags.length→f.Way=4∧f.At=2)∧(yK at1 x.Plan.Frags 0).length=if at1+1=x.Plan.Frags.length then 0 else 1
theorem Hd(x:bI)(at1:Nat)(f:cT)(hf:x.Plan.Frags[at1]? =some f)(hn: ∀n∈f.Nodes,n.Op=9→0≤n.Table)(hr: ∀j:Nat,j<x.Plan.Frags.length→ ∃R,dl (some x) (j:Int)=some R)(hl:x.Plan.Frags.length≤100)(hm: ∀g∈x.Plan.Frags,g.Nodes.length≤90):
  ∃b,jV (some x) (at1:Int)=some b∧(b=true→Bb x at1 f):=by
 have hat:=(lJ.1 hf).1
 unfold jV
 rw [cn,c8,hf,cn]
 have key: ∀ns:List aF,(∀n∈ns,n.Op=9→0≤n.Table)→ ∃b,eT (some x) (at1:Int) f ns=some b∧(b=true→(∀n∈ns,n.Op=9→n.Table<(at1:Int)∧dl (some x) n.Table=some n.Kinds)∧(at1+1=x.Plan.Frags.length→f.Way=4∧f.At=2)∧(yK at1 x.Plan.Frags 0).length=if at1+1=x.Plan.Frags.length then 0 else 1):=by
  intro ns
  induction ns with
  |nil=>
   intro _
   unfold eT
   rw [cn,zw,cn]
   have hlen:=Eo (from1:=(at1:Int)) (m:=90) x.Plan.Frags 0 hm
   obtain⟨one',h1⟩:=xn x (yK at1 x.Plan.Frags 0) false 0 (fun y hy=>by
    obtain⟨a,g,j,n,g1,_,g3,_⟩:=wv hy
    exact⟨g,by rw [g3];show eZ _ ((0+a:Nat):Int)=_;rw [mu,c8,g1]⟩) (by omega) (by omega)
   show∃b,(xf (sq (fun(y:Int×Int) (s:Bool×Int)=>d8 (some x) y s.1 s.2)) (yK (at1:Int) x.Plan.Frags 0) (false,(0:Int)) some).bind _=some b∧_
   rw [h1,cn,Int.zero_add]
   show∃b,(if((at1:Int)==(IntKind.i64.wrap ((x.Plan.Frags.length:Int)-(1:Int))))then _ else _)=some b∧_
   rw [kF (by omega) (by omega)]
   by_cases hlast:at1+1=x.Plan.Frags.length
   ·rw [dq (by simp;omega)]
    obtain⟨t,ht,htt⟩: ∃t,(if(((f.Way==(4:Int))&&(f.At==(2:Int)))&&(((yK at1 x.Plan.Frags 0).length:Int)==(0:Int)))then((dl (some x) (at1:Int)).bind fun r=>(da r (4:Int)).bind fun r1=>some (!r1))else some false)=some t∧(t=true→f.Way=4∧f.At=2∧(yK at1 x.Plan.Frags 0).length=0):=by
     split
     ·rename_i hc
      obtain⟨R,hR⟩:=hr at1 hat
      rw [hR,cn,qA,cn]
      simp only [iP,ve]at hc
      exact⟨_,rfl,fun _=>⟨hc.1.1,hc.1.2,by omega⟩⟩
     ·exact⟨false,rfl,fun h=>by cases h⟩
    rw [ht,cn]
    exact⟨t,rfl,fun h=>⟨fun n hn=>(by cases hn),fun _=>⟨(htt h).1,(htt h).2.1⟩,by rw [dq hlast];exact(htt h).2.2⟩⟩
   ·rw [di (by simp;omega)]
    refine⟨_,rfl,fun h=>⟨fun n hn=>(by cases hn),fun h' =>absurd h' hlast,?_⟩⟩
    rw [di hlast]
    simp only [iP,ve]at h
    have:=h.1.2
    omega
  |cons n tl ih=>
   intro hall
   obtain⟨b,hb,hbt⟩:=ih (fun m hm=>hall m (ly _ hm))
   unfold eT
   obtain⟨t,ht,htt⟩: ∃t,(if(n.Op==(9:Int))then((if(!(decide ((at1:Int)≤n.Table)))then((dl (some x) n.Table).bind fun r2=>(ew n.Kinds r2).bind fun r3=>some (!r3))else some true).bind fun t2=>some t2)else some false)=some t∧(t=false→n.Op=9→n.Table<(at1:Int)∧dl (some x) n.Table=some n.Kinds):=by
    by_cases h9:n.Op=9
    ·rw [dq (by simp [h9])]
     by_cases hlt:(at1:Int)≤n.Table
     ·rw [di (by simpa using hlt)]
      exact⟨true,rfl,fun h=>by cases h⟩
     ·have h0:=hall n (lI ..) h9
      rw [dq (by simpa using hlt)]
      obtain⟨R,hR⟩:=hr n.Table.toNat (by omega)
      rw [Int.toNat_of_nonneg h0]at hR
      rw [hR,cn,ux,cn,cn]
      refine⟨_,rfl,fun h _=>⟨by omega,?_⟩⟩
      have:n.Kinds=R:=by simpa using h
      rw [this]
    ·rw [di (by simpa using h9)]
     exact⟨false,rfl,fun _ h=>absurd h h9⟩
   rw [ht,cn]
   cases t with
   |true=>exact⟨false,rfl,fun h=>by cases h⟩
   |false=>
    rw [di (by simp)]
    refine⟨b,hb,fun h=>⟨fun m hm=>?_,(hbt h).2⟩⟩
    rcases ia.1 hm with rfl|hm
    ·exact htt rfl
    ·exact(hbt h).1 m hm
 exact key f.Nodes hn
structure vc(q:cZ):Prop where
 len:q.Frags.length≤100
 frag: ∀f∈q.Frags,nu f.Nodes
def vR(c:bA)(f:cT)(K:List (List Int)):Prop:=OW f.Nodes K∧1≤f.Nodes.length∧f.Nodes.length≤60∧lT f.Nodes=some (K,0,0)∧ ∃R,K[f.Nodes.length-1]? =some R∧DZ c f R
structure vd(c:bA)(q:cZ)(KS:List (List (List Int))):Prop where
 cat:Cn c=true
 n1:1≤q.Frags.length
 n30:q.Frags.length≤30
 len:KS.length=q.Frags.length
 kok: ∀(i:Nat) (f:cT),q.Frags[i]? =some f→ ∃K,KS[i]? =some K∧vR c f K
 rd: ∀(i:Nat) (f:cT),q.Frags[i]? =some f→Bb ⟨q,c,KS⟩ i f
def rs(c:bA)(q:cZ)(r:Option (Option bI×Int×Int×Int)):Prop:= ∃p i a e,r=some (p,i,a,e)∧((e=0∧i=0∧a=0∧ ∃KS,p=some ⟨q,c,KS⟩∧vd c q KS)∨e≠0)
theorem Ej{q:cZ}{c:bA}{KS:List (List (List Int))}{j:Nat}{f:cT}{K:List (List Int)}(hK:KS[j]? =some K)(h:vR c f K): ∃R,dl (some ⟨q,c,KS⟩) (j:Int)=some R∧K[f.Nodes.length-1]? =some R∧DZ c f R:=by
 obtain⟨h1,h2,h3,_,R,h5,h6⟩:=h
 refine⟨R,?_,h5,h6⟩
 obtain⟨R',g1,g2,_⟩:=h1.root h2 (by omega)
 rw [h5]at g2
 cases g2
 unfold dl
 rw [cn,c8]
 show(KS[j]?).bind _=_
 rw [hK,cn,g1]
 rfl
theorem zt{ns:List aF}{K:List (List Int)}(h:OW ns K): ∀n∈ns,(n.Op=1∨n.Op=9)→0≤n.Table:=fun n hn ho=>by
 obtain⟨j,hj⟩:=CS hn
 obtain⟨m,R,g1,g2,g3,g4,g5,_⟩:=h.at_ j (lJ.1 hj).1
 rw [hj]at g1
 cases g1
 rcases ho with ho|ho
 ·exact(g5.1 ho).2.1
 ·exact(g5.2.1 ho).2.1
theorem vM{c:bA}{q:cZ}{KS:List (List (List Int))}(hc:Cn c=true)(hq:vc q)(h1:1≤q.Frags.length)(h30:q.Frags.length≤30)(hl:KS.length=q.Frags.length)(hk: ∀(i:Nat) (f:cT),q.Frags[i]? =some f→ ∃K,KS[i]? =some K∧vR c f K):
  ∀(tl:List cT) (i:Nat),q.Frags.drop i=tl→(∀(j:Nat) (f:cT),j<i→q.Frags[j]? =some f→Bb ⟨q,c,KS⟩ j f)→rs c q (lB ⟨q,c,KS⟩ tl i)
 |[],i,hd,hr=>by
  have hlen:=ub hd
  exact⟨_,_,_,_,rfl,.inl ⟨rfl,rfl,rfl,KS,rfl,hc,h1,h30,hl,hk,fun j f hj=>hr j f (by have:=(lJ.1 hj).1;omega) hj⟩⟩
 |f::tl,i,hd,hr=>by
  obtain⟨hidx,hi,hd'⟩:=rM hd
  rw [c8]at hidx
  unfold lB
  obtain⟨K,hK,hF⟩:=hk i f hidx
  obtain⟨b,hb,hbt⟩:=Hd ⟨q,c,KS⟩ i f hidx (fun n hn ho=>zt hF.1 n hn (.inr ho)) (fun j hj=>by
   obtain⟨K',hK',hF'⟩:=hk j _ (nT hj)
   obtain⟨R,hR,_⟩:=Ej (q:=q) hK' hF'
   exact⟨R,hR⟩) (by show q.Frags.length≤100;omega) (fun g hg=>(hq.frag g hg).len)
  rw [hb,cn]
  cases b with
  |false=>exact⟨_,_,_,_,rfl,.inr (by decide)⟩
  |true=>
   rw [di (by simp)]
   refine vM hc hq h1 h30 hl hk tl (i+1) hd' (fun j g hj hg=>?_)
   by_cases hji:j<i
   ·exact hr j g hji hg
   ·have:j=i:=by omega
    subst this
    rw [hidx]at hg
    cases hg
    exact hbt rfl
theorem vN{c:bA}{q:cZ}(hc:Cn c=true)(hq:vc q)(h1:1≤q.Frags.length)(h30:q.Frags.length≤30):
  ∀(tl:List cT) (i:Nat) (KS:List (List (List Int))),q.Frags.drop i=tl→i≤q.Frags.length→KS.length=i→(∀(j:Nat) (f:cT),j<i→q.Frags[j]? =some f→ ∃K,KS[j]? =some K∧vR c f K)→rs c q (lC q tl i ⟨q,c,KS⟩)
 |[],i,KS,hd,hi,hl,hk=>by
  have hlen:=ub hd
  exact vM hc hq h1 h30 (by omega) (fun j f hj=>hk j f (by have:=(lJ.1 hj).1;omega) hj) q.Frags 0 rfl (fun j f hj=>by omega)
 |f::tl,i,KS,hd,_,hl,hk=>by
  obtain⟨hidx,hi,hd'⟩:=rM hd
  rw [c8]at hidx
  unfold lC
  obtain⟨out,w,e,hK,hcase⟩:=yN (hq.frag f (nV hidx))
  rw [hK,cn]
  rcases hcase with⟨he,hw,hkok,g1,g60⟩|⟨he,_⟩
  ·subst he;subst hw
   rw [di (by simp)]
   obtain⟨R,r1,r2,_⟩:=hkok.root g1 (by omega)
   show rs c q ((eZ out (IntKind.i64.wrap ((out.length:Int)-(1:Int)))).bind _)
   rw [r1,cn]
   obtain⟨b,hb,hbt⟩:=IW ⟨q,c,KS⟩ f R (fun n hn ho=>zt hkok n hn (.inl ho))
   rw [hb,cn]
   cases b with
   |false=>exact⟨_,_,_,_,rfl,.inr (by decide)⟩
   |true=>
    rw [di (by simp)]
    show rs c q ((nS KS [out]).bind _)
    rw [gT (by simp;omega),cn]
    refine vN hc hq h1 h30 tl (i+1) (KS++[out]) hd' (by omega) (by simp [hl]) (fun j g hj hg=>?_)
    by_cases hji:j<i
    ·obtain⟨K,hK1,hF⟩:=hk j g hji hg
     exact⟨K,by rw [sA (by omega)];exact hK1,hF⟩
    ·have:j=i:=by omega
     subst this
     rw [hidx]at hg
     cases hg
     exact⟨out,by rw [Bm (by omega),hl];simp,hkok,g1,g60,hK,R,r2,hbt rfl⟩
  ·rw [dq (by subst he;rfl)]
   exact⟨_,_,_,_,rfl,.inr (by show e≠0;omega)⟩
theorem HY{c:bA}{q:cZ}(hc:qq c)(hq:vc q):rs c q (jW q c):=by
 unfold jW
 rw [va hc,cn]
 cases hb:Cn c with
 |false=>exact⟨_,_,_,_,rfl,.inr (by decide)⟩
 |true=>
  rw [dq rfl,di (by decide)]
  by_cases hl:((decide ((q.Frags.length:Int)<(1:Int)))||(decide ((30:Int)<(q.Frags.length:Int))))=true
  ·rw [dq hl]
   exact⟨_,_,_,_,rfl,.inr (by decide)⟩
  ·rw [di hl]
   simp at hl
   exact vN hb hq (by omega) (by omega) q.Frags 0 [] rfl (jM _) rfl (fun j f hj=>by omega)
end Go.Proofs.YtmogpgcfognefaaGreatDoor

