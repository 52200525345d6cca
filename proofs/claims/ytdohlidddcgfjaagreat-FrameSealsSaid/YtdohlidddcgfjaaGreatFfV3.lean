/- bS of this claim: W33, W34, W35, W36, W37, W38, W39, W40, W48, W50, W51, W41, W42, W43, W21, W27, W45, W46, W47, W52, W53, W56, W57, W64. -/
import Derived.Test.YtdohlidddcgfjaaGreatFfV2
import Derived.Lib.Bytealg
import Derived.Maps.Range
import Derived.Laws.IdiomRangeMap
import Derived.Test.YtdohlidddcgfjaaGreatFfV1
import Derived.Laws.BytesString
import Derived.Below
import Derived.ProofKit
import Derived.OpenShut
import Derived.LaidMore
import Derived.Laws.Externs
set_option linter.all false
namespace Go.Proofs.YtdohlidddcgfjaaGreat
open Go

def xC(N:Nat):List Nat->List Oper->Bool
 |_,[]=>true
 |seen,o::rest=>match o.dst with
  |some h3=>Nat.blt h3 N&& !(seen.any (Nat.beq h3))&&xC N (h3::seen) rest
  |none=>xC N seen rest
variable{N:Fr}{β:Type}{h3:Nat}{j:IntKind}{o:Oper}{p:Operand}{q:Rp β}
def CU{N:Nat}(l:List Oper): ∀(seen:List Nat),xC N seen l=true->
  (∀o:Oper,o∈l-> ∀h3,o.dst=some h3->h3<N/\h3∉seen)/\ ∀(i j:Nat) (o p:Oper) (h3:Nat),l[i]? =some o->l[j]? =some p->o.dst=some h3->p.dst=some h3->i=j:=by
 induction l with
 |nil=>exact fun _ _=>⟨fun _ h=>(by cases h),fun _ _ _ _ _ h=>(by simp at h)⟩
 |cons o l ih=>
  intro seen h
  unfold xC at h
  cases hd:o.dst with
  |none=>
   rw [hd]at h
   obtain⟨Y,X⟩:=ih seen h
   refine⟨fun q hq h3 hqd=>?_,fun i j p q h3 hi hj hp hq=>?_⟩
   ·rcases jl.1 hq with rfl|hq
    ·rw [hd]at hqd;cases hqd
    ·exact Y q hq h3 hqd
   ·cases i with
    |zero=>simp at hi;subst hi;rw [hd]at hp;cases hp
    |succ i=>
     cases j with
     |zero=>simp at hj;subst hj;rw [hd]at hq;cases hq
     |succ j=>rw [X i j p q h3 (by simpa using hi) (by simpa using hj) hp hq]
  |some d0=>
   rw [hd]at h
   simp only [ly,uW,Df]at h
   obtain⟨⟨g1,g2⟩,g3⟩:=h
   obtain⟨Y,X⟩:=ih (d0::seen) g3
   have hns:d0∉seen:=fun hm=>by
    have:seen.any (Nat.beq d0)=true:=D1.2 ⟨d0,hm,Nat.beq_refl d0⟩
    rw [this]at g2;cases g2
   refine⟨fun q hq h3 hqd=>?_,fun i j p q h3 hi hj hp hq=>?_⟩
   ·rcases jl.1 hq with rfl|hq
    ·rw [hd]at hqd;cases hqd;exact⟨g1,hns⟩
    ·obtain⟨k1,k2⟩:=Y q hq h3 hqd
     exact⟨k1,fun hm=>k2 (pK _ hm)⟩
   ·cases i with
    |zero=>
     cases j with
     |zero=>rfl
     |succ j=>
      simp at hi;subst hi
      rw [hd]at hp;cases hp
      exact absurd (nM ..) (Y q (tu (by simpa using hj)) d0 hq).2
    |succ i=>
     cases j with
     |zero=>
      simp at hj;subst hj
      rw [hd]at hq;cases hq
      exact absurd (nM ..) (Y p (tu (by simpa using hi)) d0 hp).2
     |succ j=>rw [X i j p q h3 (by simpa using hi) (by simpa using hj) hp hq]
def Ky:List Oper->List Ty->mg->mg
 |o::l,t::ts,G=>match o.dst with
  |some h3=>(h3,t)::Ky l ts G
  |none=>Ky l ts G
 |_,_,G=>G
variable{G:mg}{e:TypeId}{k:IntKind}{t:TypeId}{ts:List Ty}{u:Ty}
def Hi(l:List Oper): ∀(ts:List Ty) (k:Nat) (t:Ty),ts.length=l.length->cw (Ky l ts G) k=some t->
  (∃(j:Nat) (o:Oper),l[j]? =some o/\o.dst=some k/\ts[j]? =some t)\/(cw G k=some t/\ ∀o:Oper,o∈l->o.dst≠some k):=by
 induction l with
 |nil=>
  intro ts k t hl h
  have:ts=[]:=sd (by simpa using hl)
  subst this
  exact .inr ⟨h,fun _ h=>(by cases h)⟩
 |cons o l ih=>
  intro ts k t hl h
  cases ts with
  |nil=>simp at hl
  |cons u ts=>
   unfold Ky at h
   have hl' :ts.length=l.length:=by simpa using hl
   have lift:((∃(j:Nat) (p:Oper),l[j]? =some p/\p.dst=some k/\ts[j]? =some t)\/(cw G k=some t/\ ∀p:Oper,p∈l->p.dst≠some k))->o.dst≠some k->
     (∃(j:Nat) (p:Oper),(o::l)[j]? =some p/\p.dst=some k/\(u::ts)[j]? =some t)\/(cw G k=some t/\ ∀p:Oper,p∈o::l->p.dst≠some k):=by
    rintro(⟨j,p,Y,X,d⟩|⟨Y,X⟩) hne
    ·exact .inl ⟨j+1,p,by simpa using Y,X,by simpa using d⟩
    ·exact .inr ⟨Y,fun p hp=>(jl.1 hp).elim (fun e=>by subst e;exact hne) (X p)⟩
   cases hd:o.dst with
   |none=>
    rw [hd]at h
    exact lift (ih ts k t hl' h) (by rw [hd];exact fun e=>by cases e)
   |some h3=>
    rw [hd]at h
    simp only at h
    unfold cw at h
    by_cases H:Nat.beq h3 k=true
    ·rw [H]at h
     have:=pG H
     subst this
     have e:u=t:=by simpa using h
     subst e
     exact .inl ⟨0,o,rfl,hd,rfl⟩
    ·rw [Ay]at H
     rw [H]at h
     refine lift (ih ts k t hl' h) ?_
     rw [hd]
     intro e
     have:h3=k:=qE e
     subst this
     simp at H
abbrev TS:=List Nat×(List OI->Ty)
def TS.at(p:TS)(σ:Nat->OI):Ty:=p.2 (p.1.map σ)
def tc(t:Ty):TS:=([],fun _=>t)
def Rr(Ss:List ((Nat->OI)->List OE))(c:Nat)(σ:Nat->OI):List OE:=match Ss[c]? with|some f=>f σ|none=>[]
structure NS where
 slot:Nat
 ty:(Nat->OI)->Ty
 src:Option Nat
def NS.at(n:NS)(σ:Nat->OI):Nd:=⟨n.slot,n.ty σ,n.src⟩
def WF(G:mg)(ts:List TS)(n:NS):Prop:=
 match n.src with
 |some j=> ∀σ,(ts[j]?).map (fun p=>p.at σ)=some (n.ty σ)
 |none=> ∀σ,cw G n.slot=some (n.ty σ)
def xb(G:mg)(ts:List TS):List NS->Prop
 |[]=>True
 |n::l=>WF G ts n/\xb G ts l
variable{n:Nat}
def xb.mem{ts:List TS}: ∀{l:List NS},xb G ts l-> ∀n∈l,WF G ts n
 |_::_,⟨h,_⟩,_,.head _=>h
 |_::_,⟨_,h⟩,_,.tail _ hm=>xb.mem h _ hm
def w8(l:List NS)(σ:Nat->OI):mg:=jL (l.map (·.at σ))
def Ul(ts:List TS)(σ:Nat->OI):List Ty:=ts.map fun p=>p.at σ
def QV(L:List Oper)(es:List Bool)(i:Nat)(p:TS):Bool:=p.1.all fun k=>(es[k]?).getD false&&(Nat.beq k i||nW L L.length i k)
def XR(L:List Oper)(es:List Bool)(i lo hi:Nat):Bool:=
 Nat.ble lo (hY es es.length)&&(List.range es.length).all fun k=> !((es[k]?).getD false)||((Nat.ble lo (hY es k)||nW L L.length i k)&&(Nat.blt (hY es k) hi||nW L L.length k i))
def DS(E:En)(G:mg)(L:List Oper)(ts:List TS)(Ss:List ((Nat->OI)->List OE))(es0:List Bool):Nat->Nat->List Oper->List Bool->Prop
 |_,_,[],_=>True
 |i,c,o::rest,false::es=>(∃(needs:List NS) (t:TS) (lo hi:Nat),ts[i]? =some t/\xb G ts needs/\(needs.all fun n=>pH L o i (n.at fun _=>jQ))=true/\eJ i o=true/\QV L es0 i t=true/\XR L es0 i lo hi=true/\o.dst.isSome=true/\
   ∀c σ,lo<=c->c<=hi->cq E (Rr Ss c σ) L.toArray (w8 needs σ) o (t.at σ))/\DS E G L ts Ss es0 (i+1) c rest es
 |i,c,o::rest,true::es=>(∃(needs:List NS) (t:TS),ts[i]? =some t/\xb G ts needs/\(needs.all fun n=>pH L o i (n.at fun _=>jQ))=true/\eJ i o=true/\QV L es0 i t=true/\
   ∀σ,k7 E L.toArray (Rr Ss c σ) (w8 needs σ) o (fun x=>Rr Ss (c+1) (Mc σ i x)) (fun x=>t.at (Mc σ i x)))/\DS E G L ts Ss es0 (i+1) (c+1) rest es
 |_,_,_::_,[]=>False
variable{E:En}{L:List Oper}{Ss:List ((Nat->OI)->List OE)}{c:Nat}{es:List Bool}{lo:Int}{α:Type}{r:Rp α}{x:Nat}{σ:Nat->OI}
def DS.get{ts:List TS}{es0:List Bool}: ∀(r:List Oper) (es:List Bool) (k c:Nat),DS E G L ts Ss es0 k c r es-> ∀(j:Nat) (o:Oper),r[j]? =some o->
    ∃e,es[j]? =some e/\ ∃(needs:List NS) (t:TS),ts[k+j]? =some t/\xb G ts needs/\(needs.all fun n=>pH L o (k+j) (n.at fun _=>jQ))=true/\eJ (k+j) o=true/\QV L es0 (k+j) t=true/\
      (match e with
       |false=>o.dst.isSome=true/\ ∃lo hi,XR L es0 (k+j) lo hi=true/\ ∀c σ,lo<=c->c<=hi->cq E (Rr Ss c σ) L.toArray (w8 needs σ) o (t.at σ)
       |true=> ∀σ,k7 E L.toArray (Rr Ss (c+hY es j) σ) (w8 needs σ) o (fun x=>Rr Ss (c+hY es j+1) (Mc σ (k+j) x)) (fun x=>t.at (Mc σ (k+j) x))):=by
  intro r
  induction r with
  |nil=>intro es k c _ j o h;simp at h
  |cons p r ih=>
    intro es k c h j o ho
    cases es with
    |nil=>exact h.elim
    |cons e es=>
      cases e with
      |false=>
        obtain⟨⟨needs,t,lo,hi,g1,g2,g3,g4,g5,g6,g7,g8⟩,X⟩:=h
        cases j with
        |zero=>
          simp at ho;subst ho
          exact⟨false,rfl,needs,t,g1,g2,g3,g4,g5,g7,lo,hi,g6,g8⟩
        |succ j=>
          obtain⟨e',g1,g2⟩:=ih es (k+1) _ X j o (by simpa using ho)
          refine⟨e',by simpa using g1,?_⟩
          rw [show k+1+j=k+(j+1)from by omega]at g2
          have e1:c+hY (false::es) (j+1)=c+hY es j:=by simp [hY]
          rw [e1];exact g2
      |true=>
        obtain⟨Y,X⟩:=h
        cases j with
        |zero=>
          simp at ho;subst ho
          exact⟨true,rfl,Y⟩
        |succ j=>
          obtain⟨e',g1,g2⟩:=ih es (k+1) _ X j o (by simpa using ho)
          refine⟨e',by simpa using g1,?_⟩
          rw [show k+1+j=k+(j+1)from by omega]at g2
          have e1:c+hY (true::es) (j+1)=c+1+hY es j:=by simp [hY];omega
          rw [e1];exact g2
structure XC(E:En)(G:mg)(l:List Oper)(ts:List TS)(Ss:List ((Nat->OI)->List OE))(es:List Bool)(done:Array Bool)(a:Act)(w:World)(S:SH)(σ:Nat->OI)(c:Nat):Prop where
 ext:kw E.B E.w0 E.S0 w S
 sat:mA w S
 own:eD E.base E.B w S (Rr Ss c σ)
 size:a.tmps.size=E.N.n
 defers:a.defers=E.N.ds
 dsz:done.size=l.length
 down: ∀j o,l[j]? =some o->done.getD j false=true-> ∀e∈o.after,Region.binds .any e=true->done.getD e.on false=true
 old: ∀k t,cw G k=some t->(∀j o,l[j]? =some o->done.getD j false=true->o.dst≠some k)->t.p S (a.tmps.getD k undef)
 new: ∀j o h3 p,l[j]? =some o->done.getD j false=true->o.dst=some h3->ts[j]? =some p->(p.at σ).p S (a.tmps.getD h3 undef)
 deps: ∀j p,done.getD j false=true->ts[j]? =some p-> ∀k∈p.1,done.getD k false=true
 chain: ∀k,es[k]? =some true->(done.getD k false=true↔hY es k<c)
variable{A h2:Type}{S S' :SH}{a:Act}{b:Nat}{done:Array Bool}{ρ:Type}{f:h2->A->Option (ρ×h2)}{κ:Type}{m:List (κ×β)}{v:Value}{w w' :World}
section
variable{ts:List TS}
def XC.need(h:XC E G L ts Ss es done a w S σ c){i:Nat}(hi:L[i]? =some o)(hun:done.getD i true=false)(hwait: ∀e∈o.after,Region.binds .any e=true->done.getD e.on false=true){needs:List NS}(Y:xb G ts needs)(X:(needs.all fun n=>pH L o i (n.at fun _=>jQ))=true):bS E.N S a (w8 needs σ):=by
 have hlt:i<done.size:=by rw [h.dsz];exact(sy.1 hi).1
 have hun' :done.getD i false=false:=by
  simp [hlt]at hun ⊢;exact hun
 refine⟨h.size,h.defers,?_⟩
 have key: ∀n∈needs,(n.ty σ).p S (a.tmps.getD n.slot undef):=by
  intro n hn
  have hs:=kU.1 X n hn
  have ho:=Y.mem n hn
  unfold pH NS.at at hs
  unfold WF at ho
  cases hsrc:n.src with
  |some j=>
   rw [hsrc]at hs ho
   simp only [ly]at hs
   obtain⟨hs1,hs2⟩:=hs
   cases hj:L[j]? with
   |none=>rw [hj]at hs1;cases hs1
   |some p=>
    rw [hj]at hs1
    cases hd:p.dst with
    |none=>simp only [hd]at hs1;cases hs1
    |some h3=>
     simp only [hd]at hs1
     have hd' :=pG hs1
     subst hd'
     have hdone:done.getD j false=true:=by
      unfold CR at hs2
      obtain⟨e,he0,H⟩:=D1.1 hs2
      have he:e∈o.after:=by simpa using he0
      simp only [ly]at H
      have:=hwait e he H.2
      rwa [pG H.1]at this
     have hm:=ho σ
     cases hf:ts[j]? with
     |none=>rw [hf]at hm;simp at hm
     |some f=>
      rw [hf]at hm
      have e:f.at σ=n.ty σ:=by simpa using hm
      rw [<-e]
      exact h.new j p n.slot f hj hdone hd hf
  |none=>
   rw [hsrc]at hs ho
   refine h.old _ _ (ho σ) fun j p hj hdone hd=>?_
   have:=kU.1 hs p (tu hj)
   simp only [hd,Nat.beq_refl,sI,uX]at this
   unfold CR at this
   obtain⟨e,he0,H⟩:=D1.1 this
   have he:e∈p.after:=by simpa using he0
   simp only [ly]at H
   have d:=h.down j p hj hdone e he H.2
   rw [pG H.1]at d
   rw [d]at hun'
   cases hun'
 clear Y X
 intro k t hk
 unfold w8 at hk
 induction needs with
 |nil=>simp [jL,cw]at hk
 |cons n needs ih=>
  simp only [D3]at hk
  unfold jL cw at hk
  by_cases H:Nat.beq n.slot k=true
  ·have hb' :Nat.beq (n.at σ).slot k=true:=H
   rw [hb']at hk
   have:=pG H
   subst this
   have h9:some (n.at σ).ty=some t:=by simpa using hk
   have e:n.ty σ=t:=qE h9
   rw [<-e]
   exact key n (nM ..)
  ·rw [Ay]at H
   have hb' :Nat.beq (n.at σ).slot k=false:=H
   rw [hb']at hk
   exact ih (fun m hm=>key m (pK _ hm)) hk
def XC.step{σ' :Nat->OI}{c' :Nat}(h:XC E G L ts Ss es done a w S σ c){i:Nat}{p0:TS}{C:Nat->Prop}(hi:L[i]? =some o)(hdN: ∀h3,o.dst=some h3->h3<E.N.n)(hs2: ∀h3,o.dst=some h3-> ∀j p,L[j]? =some p->done.getD j false=true->p.dst=some h3->i=j)(hwait: ∀e∈o.after,Region.binds .any e=true->done.getD e.on false=true)(D:ts[i]? =some p0)(hun:done.getD i true=false)(hdep: ∀k∈p0.1,k=i\/done.getD k false=true)(hext:kw C w S w' S')(hC: ∀b,C b->E.base<=b\/E.B b)(hsat:mA w' S')(hown:eD E.base E.B w' S' (Rr Ss c' σ'))(hσ: ∀k,k≠i->σ' k=σ k)(hv:(p0.at σ').p S' v)(hch: ∀k,es[k]? =some true->((done.setIfInBounds i true).getD k false=true↔hY es k<c')):
  XC E G L ts Ss es (done.setIfInBounds i true) (a.put o.dst v) w' S' σ' c' :=by
 have hlt:i<done.size:=by rw [h.dsz];exact(sy.1 hi).1
 have hset: ∀j,(done.setIfInBounds i true).getD j false=true->j=i\/done.getD j false=true:=fun j hj=>by
  by_cases hij:i=j
  ·exact .inl hij.symm
  ·rw [wX false hij]at hj;exact .inr hj
 have hseti:(done.setIfInBounds i true).getD i false=true:=by simp [hlt]
 have hun' :done.getD i false=false:=by simp [hlt]at hun ⊢;exact hun
 have hput: ∀k,(∀h3,o.dst=some h3->h3≠k)->(a.put o.dst v).tmps.getD k undef=a.tmps.getD k undef:=fun k hk=>by
  cases hd:o.dst with
  |none=>rfl
  |some h3=>
   have hda:h3<a.tmps.size:=by rw [h.size];exact hdN h3 hd
   rw [uA hda,aQ (hk h3 hd)]
 refine⟨h.ext.step hext hC,hsat,hown,?_,?_,by simp [h.dsz],fun j p hj hdone e he H=>?_,fun k u hk hno=>?_,fun j p d' u hj hdone hd' hu=>?_,fun j u hj hu k hk=>?_,hch⟩
 ·cases o.dst with
  |none=>exact h.size
  |some h3=>simp [Act.put,h.size]
 ·cases o.dst with
  |none=>exact h.defers
  |some h3=>exact h.defers
 ·rcases hset j hdone with rfl|hj'
  ·rw [hi]at hj
   have:o=p:=by simpa using hj
   subst this
   exact y6 (hwait e he H)
  ·exact y6 (h.down j p hj hj' e he H)
 ·rw [hput k fun h3 hd e=>hno i o hi hseti (by rw [hd,e])]
  exact u.mono hext.keep (h.old k u hk fun j p hj hdone=>hno j p hj (y6 hdone))
 ·by_cases hij:j=i
  ·subst hij
   rw [hi]at hj
   have:o=p:=by simpa using hj
   subst this
   have hda:d' <a.tmps.size:=by rw [h.size];exact hdN d' hd'
   rw [hd',uA hda,bh rfl]
   rw [D]at hu
   have:p0=u:=by simpa using hu
   subst this
   exact hv
  ·have hj' :=(hset j hdone).resolve_left hij
   rw [hput d' fun h3 hd e=>by subst e;exact hij (hs2 h3 hd j p hj hj' hd').symm]
   have e1:u.at σ' =u.at σ:=congrArg u.2 (Gy fun k hk=>hσ k fun e=>by
     subst e
     rw [h.deps j u hj' hu k hk]at hun';cases hun')
   rw [e1]
   exact Ty.mono _ hext.keep (h.new j p d' u hj hj' hd' hu)
 ·rcases hset j hj with rfl|hj'
  ·rw [D]at hu
   have:p0=u:=by simpa using hu
   subst this
   rcases hdep k hk with rfl|h'
   ·exact hseti
   ·exact y6 h'
  ·exact y6 (h.deps j u hj' hu k hk)
end
variable{bx:Exit->Act->World->Prop}
def JQ{l t:List Oper}{ts:List TS}(hsl:xC E.N.n [] l=true)(hlen:ts.length=l.length)(hesl:es.length=l.length)(hd:DS E G (l++t) ts Ss es 0 0 l es)(hch:NA (l++t) es=true)(D:zi (l++t) l.length t.length=true)(hQ: ∀a w S σ,St E (Rr Ss (hY es es.length) σ) (Ky l (Ul ts σ) G) a w S->wpListIn (fw E.r) 0 E.P (l++t).toArray bx t a w):
  ∀(fuel:Nat) (done:Array Bool) (a:Act) (w:World) (S:SH) (σ:Nat->OI) (c:Nat),lU done=fuel->(∀j,l.length<=j->done.getD j false=false)->c<=hY es es.length->XC E G (l++t) ts Ss es done a w S σ c->wpAnyIn (fw E.r) 0 E.P .any (l++t).toArray bx fuel done a w:=by
 have hL1: ∀i o,i<l.length->(l++t)[i]? =some o->l[i]? =some o:=fun i o hi h=>by rwa [zJ hi]at h
 have hL2: ∀i o,l[i]? =some o->(l++t)[i]? =some o:=fun i o h=>by rw [zJ (sy.1 h).1];exact h
 have htail: ∀m o,l.length<=m->(l++t)[m]? =some o->wK (l++t) m=true/\eJ m o=true:=fun m o hm ho=>by
  have hml:m<(l++t).length:=(sy.1 ho).1
  rw [kj]at hml
  unfold zi at D
  have:=kU.1 D (m-l.length) (by simp;omega)
  rw [show l.length+(m-l.length)=m from by omega,ho]at this
  simp only [ly]at this
  exact⟨this.1,this.2.1⟩
 have hget:=fun i o (hi:l[i]? =some o)=>DS.get l es 0 0 hd i o hi
 have hedge: ∀i o,(l++t)[i]? =some o->eJ i o=true:=fun i o hi=>by
  rcases oc i l.length with h|h
  ·obtain⟨_,_,_,_,_,_,_,h,_⟩:=hget i o (hL1 i o h hi)
   simpa using h
  ·exact(htail i o h hi).2
 obtain⟨hs1,hs2⟩:=CU l [] hsl
 have fin: ∀fuel done a w S σ c,lU done=fuel->(∀j,l.length<=j->done.getD j false=false)->c<=hY es es.length->XC E G (l++t) ts Ss es done a w S σ c->(∀i,i<l.length->done.getD i false=true)->wpAnyIn (fw E.r) 0 E.P .any (l++t).toArray bx fuel done a w:=by
  intro fuel done a w S σ c hu hfree hcle h hall
  have hcc:c=hY es es.length:=by
   rcases oc c (hY es es.length)with hlt|hge
   ·obtain⟨i,Y,X,d⟩:=wP hlt
    have:=(h.chain i X).1 (hall i (by omega))
    omega
   ·omega
  subst hcc
  refine zN (n:=l.length) (fun m o hm ho=>(htail m o hm ho).1) hedge t l.length done fuel a w (eo _) (by simp) h.dsz (fun j hj=>⟨fun hjd=>?_,fun hlt=>hall j hlt⟩) hu
   (hQ a w S σ ⟨h.ext,h.sat,h.own,h.size,h.defers,fun j u hj=>?_⟩)
  ·rcases oc j l.length with h' |h'
   ·exact h'
   ·rw [hfree j h']at hjd;cases hjd
  ·rcases Hi l (Ul ts σ) j u (by unfold Ul;rw [Gv];exact hlen) hj with⟨i,o,Y,X,d⟩|⟨Y,X⟩
   ·unfold Ul at d
    rw [JB]at d
    cases hf:ts[i]? with
    |none=>rw [hf]at d;simp at d
    |some f=>
     rw [hf]at d
     have e:f.at σ=u:=by simpa using d
     rw [<-e]
     exact h.new i o j f (hL2 i o Y) (hall i (sy.1 Y).1) X hf
   ·refine h.old j u Y fun i o ho hdn=>?_
    rcases oc i l.length with h' |h'
    ·exact X o (tu (hL1 i o h' ho))
    ·rw [hfree i h']at hdn;cases hdn
 have lower: ∀done a w S σ c i,(∀j,l.length<=j->done.getD j false=false)->XC E G (l++t) ts Ss es done a w S σ c->i∈Region.ready .any (l++t).toArray done->l.length<=i-> ∀j,j<l.length->done.getD j false=true:=by
  intro done a w S σ c i hfree h hi hge j hj
  obtain⟨hun,p,hp,hwait⟩:=tw.1 hi
  have hp' :(l++t)[i]? =some p:=by simpa using hp
  have hcov:=(htail i p hge hp').1
  unfold wK at hcov
  have hre:=kU.1 hcov j (by simp;omega)
  exact gJ h.down _ i j (fun q hq e he H=>by
   have:q=p:=by rw [hp']at hq;simpa using hq.symm
   subst this
   exact hwait e he H) hre
 have hchain: ∀i j,j<i->es[i]? =some true->es[j]? =some true->nW (l++t) (l++t).length i j=true:=fun i j hij Y X=>by
  unfold NA at hch
  have hil:i<es.length:=(sy.1 Y).1
  have:=kU.1 (kU.1 hch i (by simpa using hil)) j (by simpa using hij)
  rw [Y,X]at this
  simpa using this
 intro fuel
 induction fuel with
 |zero=>
  intro done a w S σ c hu hfree hcle h
  exact fin 0 done a w S σ c hu hfree hcle h fun i hi=>uv hu (by rw [h.dsz,kj];omega)
 |succ fuel ih=>
  intro done a w S σ c hu hfree hcle h
  by_cases hall: ∀i,i<l.length->done.getD i false=true
  ·exact fin _ done a w S σ c hu hfree hcle h hall
  have hready0: ∀m i,i<m->i<l.length->Region.ready .any (l++t).toArray done=[]->done.getD i false=true:=by
   intro m
   induction m with
   |zero=>intro i h;omega
   |succ m ihm=>
    intro i him hil hr
    have his:i<done.size:=by rw [h.dsz,kj];omega
    by_cases hdn:done.getD i true=true
    ·rw [<-pn his];exact hdn
    ·exfalso
     obtain⟨o,ho⟩: ∃o,(l++t)[i]? =some o:=⟨l[i],hL2 i _ (sH hil)⟩
     have hmem:i∈Region.ready .any (l++t).toArray done:=by
      rw [tw]
      refine⟨by simpa using hdn,o,by simpa using ho,fun e he H=>?_⟩
      have:=hedge i o ho
      unfold eJ at this
      have:=kU.1 this e (by simpa using he)
      simp only [H,sI,uX,uW]at this
      exact ihm e.on (by omega) (by omega) hr
     rw [hr]at hmem;cases hmem
  refine⟨fun hr=>absurd (fun i hi=>hready0 (i+1) i (by omega) hi hr) hall,fun i hi=>?_⟩
  have hil:i<l.length:=by
   rcases oc i l.length with h' |h'
   ·exact h'
   ·exact absurd (lower done a w S σ c i hfree h hi h') hall
  obtain⟨hun,o,ho,hwait⟩:=tw.1 hi
  have ho' :(l++t)[i]? =some o:=by simpa using ho
  have hol:=hL1 i o hil ho'
  obtain⟨e,he,needs,u,Y,X,d,_,h4,h5⟩:=hget i o hol
  rw [vj]at Y d h4
  have hF:=h.need ho' hun hwait X d
  have his:i<done.size:=by rw [h.dsz,kj];omega
  have hun' :done.getD i false=false:=by rw [<-pn his];exact hun
  have hu' :lU (done.setIfInBounds i true)=fuel:=by have:=ro hun;omega
  have huq: ∀h3,o.dst=some h3-> ∀j p,(l++t)[j]? =some p->done.getD j false=true->p.dst=some h3->i=j:=fun h3 hdd j p hj hjd hpd=>by
   rcases oc j l.length with h' |h'
   ·exact hs2 i j o p h3 hol (hL1 j p h' hj) hdd hpd
   ·rw [hfree j h']at hjd;cases hjd
  have hfree' : ∀j,l.length<=j->(done.setIfInBounds i true).getD j false=false:=fun j hj=>by
   rw [wX false (by omega)];exact hfree j hj
  have hbl:E.base<=w.heap.size:=h.ext.size
  have hwaits: ∀q,(l++t)[i]? =some q-> ∀e∈q.after,Region.binds .any e=true->done.getD e.on false=true:=fun q hq e he H=>by
   have:q=o:=by rw [ho']at hq;simpa using hq.symm
   subst this
   exact hwait e he H
  have hdpp: ∀k∈u.1,k=i\/done.getD k false=true:=fun k hk=>by
   have:=kU.1 h4 k hk
   simp only [ly,y7]at this
   rcases this.2 with H|H
   ·exact .inl (pG H)
   ·exact .inr (gJ h.down _ i k hwaits H)
  have hdNN: ∀h3,o.dst=some h3->h3<E.N.n:=fun h3 hd=>(hs1 o (tu hol) h3 hd).1
  unfold wpOpIn
  rw [ho]
  show if _ then _ else _
  cases e with
  |false=>
   simp only at h5
   obtain⟨hdS,lo,hi',hwin,h5⟩:=h5
   rw [vj]at hwin
   obtain⟨h3,hdd⟩:=NY.1 hdS
   have hdN:=(hs1 o (tu hol) h3 hdd).1
   unfold XR at hwin
   rw [ly]at hwin
   obtain⟨hw1,hw2⟩:=hwin
   have hw1' :=sb hw1
   have hwk: ∀k,es[k]? =some true->(Nat.ble lo (hY es k)=true\/nW (l++t) (l++t).length i k=true)/\(Nat.blt (hY es k) hi' =true\/nW (l++t) (l++t).length k i=true):=fun k hk=>by
    have hkl:k<es.length:=(sy.1 hk).1
    have:=kU.1 hw2 k (by simpa using hkl)
    rw [hk]at this
    simpa using this
   have hlo:lo<=c:=by
    rcases oc c lo with hlt|hge
    ·exfalso
     obtain⟨k,hk1,hk2,hk3⟩:=wP (es:=es) (c:=c) (k:=es.length) (by omega)
     rcases(hwk k hk2).1 with H|H
     ·have:=sb H;omega
     ·have:=(h.chain k hk2).1 (gJ h.down _ i k hwaits H)
      omega
    ·exact hge
   have hhi:c<=hi' :=by
    rcases oc hi' c with hlt|hge
    ·exfalso
     obtain⟨k,hk1,hk2,hk3⟩:=wP (es:=es) (c:=hi') (k:=es.length) (by omega)
     rcases(hwk k hk2).2 with H|H
     ·simp only [uW]at H;omega
     ·have hkd:done.getD k false=true:=(h.chain k hk2).2 (by omega)
      have:=gJ h.down _ k i (fun q hq e he H=>h.down k q hq hkd e he H) H
      rw [this]at hun';cases hun'
    ·exact hge
   have h6:=h5 c σ hlo hhi a w S h.sat h.own hF
   have hch' : ∀k,es[k]? =some true->((done.setIfInBounds i true).getD k false=true↔hY es k<c):=fun k hk=>by
    have hne:i≠k:=fun e=>by subst e;rw [he]at hk;cases hk
    rw [wX false hne];exact h.chain k hk
   by_cases hw:Region.wanted o (yielded (l++t).toArray a.tmps)=true
   ·rw [bh hw]at h6 ⊢
    refine lJ (fun a' w' ⟨v,S',ha,V,hs,hv⟩=>?_) h6
    subst ha
    exact ih _ _ _ S' _ c hu' hfree' hcle (h.step ho' hdNN huq hwait Y hun hdpp V (fun _ H=>H.elim) hs (h.own.ext0 V) (fun _ _=>rfl) hv hch')
   ·rw [aQ hw]at h6 ⊢
    exact⟨fun _ _=>trivial,ih _ _ _ S _ c hu' hfree' hcle (h.step ho' hdNN huq hwait Y hun hdpp (js um _ _) (fun _ H=>H.elim) h.sat h.own (fun _ _=>rfl) h6 hch')⟩
  |true=>
   simp only [vj]at h5
   -- it is the next one of the chain
   have hca:hY es i=c:=by
    have hn: ¬hY es i<c:=fun hlt=>by rw [(h.chain i he).2 hlt]at hun';cases hun'
    rcases oc c (hY es i)with hlt|hge
    ·exfalso
     obtain⟨k,hk1,hk2,hk3⟩:=wP hlt
     have hkd:done.getD k false=true:=gJ h.down _ i k hwaits (hchain i k hk1 he hk2)
     have:=(h.chain k hk2).1 hkd
     omega
    ·omega
   subst hca
   have h6:=h5 σ a w S h.sat h.own hF hbl
   have hch' : ∀k,es[k]? =some true->((done.setIfInBounds i true).getD k false=true↔hY es k<hY es i+1):=fun k hk=>by
    by_cases hik:i=k
    ·subst hik
     constructor
     ·intro _;omega
     ·intro _;simp [his]
    ·rw [wX false hik,h.chain k hk]
     constructor
     ·intro h;omega
     ·intro hlt
      rcases oc i k with hlk|hlk
      ·have:=FA hlk he;omega
      ·exact FA (by omega) hk
   have hcle' :hY es i+1<=hY es es.length:=FA (by omega) he
   by_cases hw:Region.wanted o (yielded (l++t).toArray a.tmps)=true
   ·rw [bh hw]at h6 ⊢
    refine lJ (fun a' w' ⟨v,S',x,ha,V,hs,hown,hv⟩=>?_) h6
    subst ha
    exact ih _ _ _ S' _ _ hu' hfree' hcle' (h.step ho' hdNN huq hwait Y hun hdpp V (fun b ⟨f,hf,H⟩=>(eD.mem h.own f hf).2 b H) hs hown (fun k hk=>Ia σ x hk) hv hch')
   ·rw [aQ hw]at h6 ⊢
    obtain⟨x,hown,hv⟩:=h6
    exact⟨fun _ _=>trivial,ih _ _ _ S _ _ hu' hfree' hcle' (h.step ho' hdNN huq hwait Y hun hdpp (js um _ _) (fun _ H=>H.elim) h.sat hown (fun k hk=>Ia σ x hk) hv hch')⟩
variable{O:List OE}{st:TypeId}
def iX{id:Nat}(m:Nat)(ts:List TS)(es:List Bool)(Ss:List ((Nat->OI)->List OE))(hO:Ss[0]? =some fun _=>O)(hm:E.P.follows .mixedOrders=true)(hsl:xC E.N.n [] (L.take m)=true)(hlen:ts.length=(L.take m).length)(hesl:es.length=(L.take m).length)(hch:NA L es=true)(D:zi L (L.take m).length (L.drop m).length=true)(hd:DS E G L ts Ss es 0 0 (L.take m) es)(k: ∀σ:Nat->OI,RG E L.toArray bx (L.drop m) (Rr Ss (hY es es.length) σ) (Ky (L.take m) (Ul ts σ) G)):CG E bx (.region id L.toArray true) O G:=fun a w S st=>by
 have hL:L=L.take m++L.drop m:=(sL m L).symm
 generalize L.take m=l at hL hsl hlen hesl D hd k
 generalize L.drop m=t at hL D k
 subst hL
 refine wpIn_region_any hm ?_
 obtain⟨he,hs⟩:=yC (w:=w) st.sat
 have hO0:Rr Ss 0 (fun _=>jQ)=O:=by unfold Rr;rw [hO]
 refine JQ hsl hlen hesl hd hch D (fun a w S σ st=>k σ a w S st) _ _ _ _ S (fun _=>jQ) 0 ?_ (fun j _=>?_) (pL _)
  ⟨st.ext.step0 he,hs,by rw [hO0];exact st.own.ext0 he,st.facts.size,st.facts.defers,by simp,fun j o hj hdone=>?_,fun k t hk _=>st.facts.at_ k t hk,fun j o h3 t hj hdone=>?_,fun j p hdone=>?_,fun k _=>⟨fun hdone=>?_,fun h=>(by omega)⟩⟩
 ·unfold lU;rw [NW,NU];simp
 ·simp [zI];split<;>rfl
 ·simp [zI]at hdone
  split at hdone<;>simp at hdone
 ·simp [zI]at hdone
  split at hdone<;>simp at hdone
 ·simp [zI]at hdone
  split at hdone<;>simp at hdone
 ·simp [zI]at hdone
  split at hdone<;>simp at hdone
def nO{p:Nat->(Nat->OI)->Prop}{lo:Nat}(h: ∀σ,p lo σ): ∀c σ,lo<=c->c<=lo->p c σ:=fun c σ Y X=>by
 have:c=lo:=by omega
 subst this;exact h σ
def Dj{p:Nat->(Nat->OI)->Prop}{lo hi:Nat}(h: ∀σ,p lo σ)(k: ∀c σ,lo+1<=c->c<=hi->p c σ): ∀c σ,lo<=c->c<=hi->p c σ:=fun c σ Y X=>by
 by_cases e:c=lo
 ·subst e;exact h σ
 ·exact k c σ (by omega) X
variable{after:Array Edge}{g:Option (Nat×Bool)}{ok:α->Prop}{op:Op}{pos:String}{post:OI->List OE}
def Fp{ty:TypeId}(hnd: ∀c,op≠ .defer c)(h: ∀a w S,mA w S->eD E.base E.B w S O->bS E.N S a G->E.base<=w.heap.size-> ∃w' S' x,(execOp a.eval ⟨none,op,ty,pos,after,g⟩).run E.P w= .ok .skip w' /\kw (Hm O) w S w' S' /\mA w' S' /\eD E.base E.B w' S' (post x)):
  EffOK E O G ⟨none,op,ty,pos,after,g⟩ post (fun _=>Ek):=fun a w S hs ho hf H=>by
 obtain⟨w',S',x,Y,X,d,h4⟩:=h a w S hs ho hf H
 refine⟨hnd,?_⟩
 rw [Y]
 exact⟨undef,S',x,rfl,X,d,h4,trivial⟩

abbrev HL:=List (Nat×Value)
def Bl:HL->Nat->Option Value
 |[],_=>none
 |p::hs,o=>bif Nat.beq p.1 o then some p.2 else Bl hs o
def tk: ∀{hs:HL} {o:Nat} {v:Value},Bl hs o=some v->(o,v)∈hs
 |[],_,_,h=>by cases h
 |p::hs,o,v,h=>by
  unfold Bl at h
  by_cases H:Nat.beq p.1 o=true
  ·rw [H]at h
   have e1:=pG H
   have e2:p.2=v:=qE h
   subst e1 e2
   exact nM ..
  ·rw [Ay]at H
   rw [H]at h
   exact pK _ (tk h)
def rH{α:Type}(r:Rp α)(hs:HL):Rp α where
 sz:=r.sz
 agg:=r.agg
 rc:=fun S cs x=>r.rc S cs x/\ ∀p∈hs,cs[p.1]? =some p.2
 mono:=fun h k=>⟨r.mono h k.1,k.2⟩
 len:=fun k=>r.len k.1
 one:=fun k=>r.one k.1
 sc:=r.sc
variable{cs:List Value}{off:Nat}
def eI{hs:HL}{get:α->β}(h:lH r off q get):lH (rH r hs) off q get:=fun S cs x k=>h S cs x k.1
def QY(h:cs[off]? =some v):(cs.drop off).take 1=[v]:=by
 have hlt:=(sy.1 h).1
 rw [B0 hlt,(sy.1 h).2]
 rfl
def ac8{hs:HL}(h:Bl hs off=some v):lH (rH r hs) off rV (fun _=>v):=fun S cs x k=>by
 have Y:=k.2 _ (tk h)
 exact⟨QY Y,r.one k.1 v (tu Y)⟩
def HZ(z:List Value):HL->Prop
 |[]=>True
 |p::hs=>z[p.1]? =some p.2/\HZ z hs
variable{z:List Value}
def HZ.all: ∀{hs:HL},HZ z hs-> ∀p∈hs,z[p.1]? =some p.2
 |_::_,⟨h,_⟩,_,.head _=>h
 |_::_,⟨_,h⟩,_,.tail _ hm=>HZ.all h _ hm
def zH{x:α}{hs:HL}(h: ∀S,r.rc S z x)(k:HZ z hs): ∀S,(rH r hs).rc S z x:=fun S=>⟨h S,k.all⟩
def Yv(hs:HL)(off sz:Nat):Bool:=hs.all fun p=>Nat.blt p.1 off||Nat.ble (off+sz) p.1
def ZP(hs:HL)(off sz:Nat)(v:Option Value):HL->Prop
 |[]=>True
 |p::l=>((v=some p.2/\p.1=off/\sz=1)\/(Bl hs p.1=some p.2/\(Nat.blt p.1 off||Nat.ble (off+sz) p.1)=true))/\ZP hs off sz v l
variable{sz:Nat}
def ZP.all{hs:HL}{v:Option Value}: ∀{l:HL},ZP hs off sz v l-> ∀p∈l,(v=some p.2/\p.1=off/\sz=1)\/(Bl hs p.1=some p.2/\(Nat.blt p.1 off||Nat.ble (off+sz) p.1)=true)
 |_::_,⟨h,_⟩,_,.head _=>h
 |_::_,⟨_,h⟩,_,.tail _ hm=>ZP.all h _ hm
def uS{ds:List Value}{k:Nat}(hl:ds.length=sz)(hoff:off+sz<=cs.length)(h:(Nat.blt k off||Nat.ble (off+sz) k)=true):(cs.take off++ds++cs.drop (off+sz))[k]? =cs[k]? :=by
 simp only [y7,uW,Nat.ble_eq]at h
 have D:(cs.take off).length=off:=by simp;omega
 rcases h with h|h
 ·rw [zJ (by simp;omega),zJ (by omega),y9 h]
 ·rw [xf (by simp;omega),vX]
  congr 1
  simp only [kj,D,hl];omega
def TX{ds:List Value}(hd:ds=[v])(hoff:off+1<=cs.length):(cs.take off++ds++cs.drop (off+1))[off]? =some v:=by
 subst hd
 have D:(cs.take off).length=off:=by simp;omega
 rw [zJ (by simp;omega),xf (by omega),D,wY]
 rfl
variable{set:α->β->α}{y:Code}
def ot{hs hs' :HL}{x:α}{y:β}(h:fa r off q set)(hk:ZP hs off q.sz none hs')(hoff:Nat.ble (off+q.sz) r.sz=true):vO (rH r hs) (rH r hs') off q x y (set x y):=fun S cs ds Y X=>by
 refine⟨h S cs x ds y Y.1 X,fun p hp=>?_⟩
 rcases hk.all p hp with⟨e,_⟩|⟨g1,g2⟩
 ·cases e
 ·have hl:=r.len Y.1
  rw [uS (q.len X) (by have:=sb hoff;omega) g2]
  exact Y.2 _ (tk g1)
def GQ{hs:HL}(h:fa r off q set)(hk:Yv hs off q.sz=true)(hoff:Nat.ble (off+q.sz) r.sz=true):fa (rH r hs) off q set:=fun S cs x ds y Y X=>by
 refine⟨h S cs x ds y Y.1 X,fun p hp=>?_⟩
 have hl:=r.len Y.1
 rw [uS (q.len X) (by have:=sb hoff;omega) (kU.1 hk p hp)]
 exact Y.2 _ hp
variable{T U:TypeId}{hx:MV β}{agg:Bool}{bytes cap:Nat}{dst:Option Tmp}{ops:Array Oper}{r' :Rp α}{rest:List Oper}{xs:List α}
section
variable{c:Code}{e:Exit}
section
variable{ty:TypeId}
def fb{t:OI->Ty}(h:EffOK E O G ⟨none,op,ty,pos,after,none⟩ post t)(k: ∀x,RG E ops bx rest (post x) G):RG E ops bx (⟨none,op,ty,pos,after,none⟩::rest) O G:= .of rfl fun a w S st=>
 ph (fun a' w' ⟨v,S',x,ha,V,hs,ho,hv⟩=>by
  subst ha
  exact k x _ _ S' ⟨st.ext.step V fun b ⟨f,hf,H⟩=>(eD.mem st.own f hf).2 b H,hs,ho,st.facts.mono V.keep⟩) (h a w S st.sat st.own st.facts st.base_le)
def dq{γ:Type}{r' :Rp γ}{x:α}{x' :γ}{y:β}{v:Operand}(ti:TI E.P U sz bytes agg z)(hsz:q.sz=sz)(hset:vO r r' off q x y x')(hoff:Nat.ble (off+q.sz) r.sz=true)(hp:aJ E.N G p (Z (M b off)))(hv:aJ E.N G v (tD q y)):EffOK E (Q r T b x::O) G ⟨none,.store U p v,ty,pos,after,g⟩ (fun _=>Q r' T b x' ::O) (fun _=>Ek):=Fp (fun _ h=>(by cases h)) fun a w S hs ho hf H=>by
 have Y:a.eval p=M b off:=hp S a hf
 obtain⟨ds,X,d⟩:=hv S a hf
 obtain⟨⟨hno,cur,h5,h6⟩,_⟩:=ho.1
 have hl:=r.len h6
 have hoff' :=sb hoff
 obtain⟨w',hr,e1,e2,e3,e4,e5,e6⟩:=km ti hsz d h5 (off:=off) (by simp at hl;omega)
 have hrun:(execOp a.eval ⟨none,.store U p v,ty,pos,after,g⟩).run E.P w= .ok .skip w' :=by
  simp [execOp,Y,X,Instr.storeAt,M,Instr.sureAddr,hr]
 obtain⟨g1,g2,g3⟩:=ny (O:=O) hs (Q r T b x) (Q r' T b x') ho (fun _=>tv) (fun _=>tv) ⟨e1,e2,e3,e4.1,e4.2⟩ e6 ⟨hno,_,e5,by simpa using hset S _ _ h6 d⟩ hno
 exact⟨w',S,jQ,hrun,g1.more fun k hk=>⟨_,nM ..,hk⟩,g2,g3⟩
def md{hs hs' :HL}{x:α}{y:β}{u:Value}{v:Operand}(ti:TI E.P U 1 bytes false z)(hsz:q.sz=1)(hag:q.agg=false)(hset:fa r off q set)(hoff:Nat.ble (off+1) r.sz=true)(hk:ZP hs off 1 (some u) hs')(hp:aJ E.N G p (Z (M b off)))(hv:aJ E.N G v (tD q y))(hu:aJ E.N G v (Z u)):EffOK E (Q (rH r hs) T b x::O) G ⟨none,.store U p v,ty,pos,after,g⟩ (fun _=>Q (rH r hs') T b (set x y)::O) (fun _=>Ek):=Fp (fun _ h=>(by cases h)) fun a w S hsat ho hf H=>by
 have Y:a.eval p=M b off:=hp S a hf
 obtain⟨ds,X,d⟩:=hv S a hf
 have hu' :a.eval v=u:=hu S a hf
 obtain⟨⟨hno,cur,h5,h6⟩,_⟩:=ho.1
 have hl:=r.len h6.1
 have hoff' :=sb hoff
 have hdl:=q.len d
 have hds:ds=[u]:=by
  obtain⟨h3,hd⟩:=List.length_eq_one_iff.1 (by rw [hdl,hsz]:ds.length=1)
  subst hd
  have e1:q.val [h3]=h3:=by simp [Rp.val,hag]
  rw [X,e1]at hu'
  rw [hu']
 obtain⟨w',hr,e1,e2,e3,e4,e5,e6⟩:=km ti hsz d h5 (off:=off) (by simp at hl;omega)
 have hrun:(execOp a.eval ⟨none,.store U p v,ty,pos,after,g⟩).run E.P w= .ok .skip w' :=by
  simp [execOp,Y,X,Instr.storeAt,M,Instr.sureAddr,hr]
 rw [hsz]at e5
 have hnew:(rH r hs').rc S (cur.toList.take off++ds++cur.toList.drop (off+1)) (set x y):=by
  have h7:=hset S _ _ _ _ h6.1 d
  rw [hsz]at h7
  refine⟨h7,fun p hp=>?_⟩
  rcases hk.all p hp with⟨f1,f2,_⟩|⟨f1,f2⟩
  ·rw [f2]
   exact TX (by rw [hds,qE f1]) (by omega)
  ·rw [uS (by rw [hdl,hsz]) (by omega) f2]
   exact h6.2 _ (tk f1)
 obtain⟨g1,g2,g3⟩:=ny (O:=O) hsat (Q (rH r hs) T b x) (Q (rH r hs') T b (set x y)) ho (fun _=>tv) (fun _=>tv) ⟨e1,e2,e3,e4.1,e4.2⟩ e6 ⟨hno,_,e5,by simpa using hnew⟩ hno
 exact⟨w',S,jQ,hrun,g1.more fun k hk=>⟨_,nM ..,hk⟩,g2,g3⟩
end
section
variable{ty:TypeId}
def cQ{hs:HL}{x:α}{u:Value}(ti:TI E.P U 1 bytes false z)(hk:Bl hs off=some u)(hm:Q (rH r hs) T b x∈O)(hp:aJ E.N G p (Z (M b off))):
  cu E O G ⟨dst,.load U p,ty,pos,after,g⟩ (Z u):=(aE (q:=rV) ti rfl rfl (ac8 hk) hm hp).imp fun _ _ h=>(yE.1 h).1
def nm{q:Rp α}{r:Rp β}{hs:HL}{x:β}{hx:TypeId}{l:Option Nat}(ti:TI E.P U 1 bytes false z)(hk:Bl hs off=some (av l cap xs.length))(hm:Q (rH r hs) T b x∈O)(hm2:tip q hx l cap xs∈O)(hp:aJ E.N G p (Z (M b off))):
  cu E O G ⟨dst,.load U p,ty,pos,after,g⟩ (tO q l cap xs):=fun a w S hs' ho hf=>
 ph (fun _ _ ⟨v,S',Y,X,d,h4⟩=>⟨v,S',Y,X,d,h4,by
  have h5:v=av l cap xs.length:=h4
  rw [h5]
  exact nk (((ho.ext0 X).mem _ hm2).1)⟩) (cQ (g:=g) (ty:=ty) (pos:=pos) (after:=after) (dst:=dst) ti hk hm hp a w S hs' ho hf)
def Ve{t:Ty}{x:Operand}(Y: ∀S v,t.p S v->v.oneCell' =true)(V:aJ E.N G x t):cu E O G ⟨dst,.box T x,ty,pos,after,g⟩ (dk (rT t) ()):=
 SK (fun S a hf=>tRT.2 ⟨Y _ _ (V S a hf),V S a hf⟩)
end
def UL:HL->HL->Prop
 |[],_=>True
 |p::l,hs=>Bl hs p.1=some p.2/\UL l hs
def UL.all{hs:HL}: ∀{l:HL},UL l hs-> ∀p∈l,p∈hs
 |_::_,⟨h,_⟩,_,.head _=>tk h
 |_::_,⟨_,h⟩,_,.tail _ hm=>UL.all h _ hm
end

variable{O' :List OE}
def EffOK.perm{t:OI->Ty}(h:EffOK E O' G o post t)(k: ∀{w S},eD E.base E.B w S O->eD E.base E.B w S O')(m: ∀f∈O',f∈O):EffOK E O G o post t:=fun a w S hs ho hf H=>
 ph (fun _ _ ⟨v,S',x,Y,X,d,h4,h5⟩=>⟨v,S',x,Y,X.more fun _ ⟨f,hf,hk⟩=>⟨f,m f hf,hk⟩,d,h4,h5⟩) (h a w S hs (k ho) hf H)
variable{x0 x1 x2 x3 x4 x5:OE}
namespace EffOK
section
variable{t:OI->Ty}
def fr1(h:EffOK E (x1::x0::O) G o post t):EffOK E (x0::x1::O) G o post t:=h.perm (fun hw=>eD.swap hw) (fun f hf=>by simp only [jl]at hf ⊢;rcases hf with h|h|h<;>simp [h])
def fr2(h:EffOK E (x2::x0::x1::O) G o post t):EffOK E (x0::x1::x2::O) G o post t:=h.perm (fun hw=>rM hw) (fun f hf=>by simp only [jl]at hf ⊢;rcases hf with h|h|h|h<;>simp [h])
def fr3(h:EffOK E (x3::x0::x1::x2::O) G o post t):EffOK E (x0::x1::x2::x3::O) G o post t:=h.perm (fun hw=>ug hw) (fun f hf=>by simp only [jl]at hf ⊢;rcases hf with h|h|h|h|h<;>simp [h])
def fr4(h:EffOK E (x4::x0::x1::x2::x3::O) G o post t):EffOK E (x0::x1::x2::x3::x4::O) G o post t:=h.perm (fun hw=>wT hw) (fun f hf=>by simp only [jl]at hf ⊢;rcases hf with h|h|h|h|h|h<;>simp [h])
def fr5(h:EffOK E (x5::x0::x1::x2::x3::x4::O) G o post t):EffOK E (x0::x1::x2::x3::x4::x5::O) G o post t:=h.perm (fun hw=>uf hw) (fun f hf=>by simp only [jl]at hf ⊢;rcases hf with h|h|h|h|h|h|h<;>simp [h])
def fr6{x6:OE}(h:EffOK E (x6::x0::x1::x2::x3::x4::x5::O) G o post t):EffOK E (x0::x1::x2::x3::x4::x5::x6::O) G o post t:=h.perm (fun hw=>ue hw) (fun f hf=>by simp only [jl]at hf ⊢;rcases hf with h|h|h|h|h|h|h|h<;>simp [h])
def fr7{x6 x7:OE}(h:EffOK E (x7::x0::x1::x2::x3::x4::x5::x6::O) G o post t):EffOK E (x0::x1::x2::x3::x4::x5::x6::x7::O) G o post t:=h.perm (fun hw=>FG hw) (fun f hf=>by simp only [jl]at hf ⊢;rcases hf with h|h|h|h|h|h|h|h|h<;>simp [h])
def post_imp{post' :OI->List OE}(h:EffOK E O G o post t)(k: ∀{w S x},eD E.base E.B w S (post x)->eD E.base E.B w S (post' x)):EffOK E O G o post' t:=fun a w S hs ho hf H=>
 ph (fun _ _ ⟨v,S',x,Y,X,d,h4,h5⟩=>⟨v,S',x,Y,X,d,k h4,h5⟩) (h a w S hs ho hf H)
end
end EffOK
variable{P:Program}{args:A->List Ty}{res:ρ->Ty}
section
variable{ty:TypeId}
def Nw{zs:List α}{y v:α}{i:Int}{x:Operand}(ti:TI E.P U sz bytes agg z)(hsz:r.sz=sz)(hy:gV xs i=some y)(hz:xs.set i.toNat v=zs)(hp:aJ E.N G p (Z (M b (i.toNat*r.sz))))(hv:aJ E.N G x (tD r v)):EffOK E (Q (nQ r n) T b xs::O) G ⟨none,.store U p x,ty,pos,after,g⟩ (fun _=>Q (nQ r n) T b zs::O) (fun _=>Ek):=Fp (fun _ h=>(by cases h)) fun a w S hsat hown hf hbase=>by
 subst hz
 have Y:a.eval p=M b (i.toNat*r.sz):=hp S a hf
 obtain⟨ds,X,d⟩:=hv S a hf
 obtain⟨⟨hno,cur,h5,h6⟩,_⟩:=hown.1
 obtain⟨h0,hy'⟩:=nq hy
 have hlt:i.toNat<xs.length:=(sy.1 hy').1
 have hl:=kI h6.2
 simp only [CM]at hl
 have hmul:i.toNat*r.sz+r.sz<=xs.length*r.sz:=by rw [<-Nat.succ_mul];exact AC _ hlt
 obtain⟨w',hr,e1,e2,e3,e4,e5,e6⟩:=km ti hsz d h5 (off:=i.toNat*r.sz) (by omega)
 have hrun:(execOp a.eval ⟨none,.store U p x,ty,pos,after,g⟩).run E.P w= .ok .skip w' :=by
  simp [execOp,Y,X,Instr.storeAt,M,Instr.sureAddr,hr]
 obtain⟨g1,g2,g3⟩:=ny (O:=O) hsat (Q (nQ r n) T b xs) (Q (nQ r n) T b (xs.set i.toNat v)) hown (fun _=>tv) (fun _=>tv) ⟨e1,e2,e3,e4.1,e4.2⟩ e6 ⟨hno,_,e5,by rw [BX];exact h6.1,Dy d h6.2 hlt⟩ hno
 exact⟨w',S,jQ,hrun,g1.more fun c hc=>⟨_,nM ..,hc⟩,g2,g3⟩

section
def rJ{x:α}(ti:TI E.P T sz bytes agg z)(V: ∀S,r.rc S z x):
  EffOK E O G ⟨some h3,.alloc T,ty,pos,after,g⟩ (fun i=>Q r T (i.h 0).2 x::O) (fun i=>Z (M (i.h 0).2 0)):=fun a w S hs ho hf H=>by
 obtain⟨zv,hzr,hzc⟩:=ti.zero w
 obtain⟨he,hs',hno⟩:=jP (w:=w) (.cells z.toArray T (0,0)) hs
 have hrun:(execOp a.eval ⟨some h3,.alloc T,ty,pos,after,g⟩).run E.P w= .ok (.value (M w.heap.size 0)) (w.alloc (.cells z.toArray T (0,0))):=by
  simp [execOp,Instr.alloc,hzr,newVar,newRow,hzc,M]
 refine⟨fun c h=>(by cases h),?_⟩
 rw [hrun]
 exact⟨_,S,oi none w.heap.size,rfl,he.more fun _ H=>H.elim,hs',rY ho he (e:=Q r T w.heap.size x) ⟨hno,z.toArray,xx w _,by simpa using V S⟩ (fun b H=>AF H.symm) H,rfl⟩
end
section
def aC{x:Operand}(V:aJ E.N G x (Z (M b off))):cu E O G ⟨dst,.nilCheck x,ty,pos,after,g⟩ (Z (M b off)):= .of_pure fun a w S _ _ hf=>by
 have Y:a.eval x=M b off:=V S a hf
 exact⟨M b off,by simp [execOp,Y,M],rfl⟩
def Vb{y:α}{x:Operand}(V:aJ E.N G x (dk r y)):cu E O G ⟨dst,.nilCheck x,ty,pos,after,g⟩ (dk r y):= .of_pure fun a w S _ _ hf=>by
 have h0:=V S a hf
 obtain⟨b,off,c,U,fr,Y,X,d⟩:=h0
 exact⟨_,by simp [execOp,Y],b,off,c,U,fr,rfl,X,d⟩
def gb{u:Value}(ti:TI E.P U 1 bytes false z)(hm:Q rV T b u∈O)(hp:aJ E.N G p (Z (M b 0))):
  cu E O G ⟨dst,.load U p,ty,pos,after,g⟩ (Z u):=(aE (q:=rV) (get:=fun x=>x) ti rfl rfl bo hm hp).imp fun _ _ h=>(yE.1 h).1
def vA{t:Ty}(ti:TI E.P U 1 bytes false z)(hp:aJ E.N G p (dk (rT t) ())):cu E O G ⟨dst,.load U p,ty,pos,after,g⟩ t:=KJ ti hp
end
def FD(h:O=O')(k:RG E ops bx rest O' G):RG E ops bx rest O G:=by subst h;exact k
def hW{x:Operand}{u:Value}(h:aJ N G x (Z u))(ho:u.oneCell' =true):aJ N G x (tD rV u):=fun S a hf=>yE.2 ⟨h S a hf,ho⟩
def hTT{x:Operand}{t:Ty}(Y: ∀S v,t.p S v->v.oneCell' =true)(h:aJ N G x t):aJ N G x (tD (rT t) ()):=fun S a hf=>tRT.2 ⟨Y _ _ (h S a hf),h S a hf⟩
def Va{args:α->List Ty}{res:β->Ty}{f:α->Option β}: ∀S v,(lK P args res f).p S v->v.oneCell' =true:=fun _ _ ⟨_,_,e,_⟩=>by rw [e];rfl
end

variable{mm:Bool}{ys:List α}
def J0{l:Option Nat}{t' e' :TypeId}(D:P.underlying t' =some (.slice e'))(h:As mm r U l cap xs w S)(hs:dQ xs lo (xs.length:Int)=some ys):
  ∃news,Src P r.sz t' (nP r.sz l cap lo.toNat ys.length) ys.length news w/\rh r S news ys:=by
 obtain⟨cells,Y,X,_⟩:=h
 obtain⟨lo',m,rfl,hm,d,h4,rfl⟩:=fW hs
 have hm' :m=xs.length:=by omega
 subst hm'
 rw [D0,uY]
 cases l with
 |none=>
  have V:xs=[]:=sd Y.1
  subst V
  exact⟨[],by simpa [nP] using Src.ofNil w D 0,by simp [rh]⟩
 |some b=>
  obtain⟨cur,g1,g2,g3,g4,g5⟩:=Y
  have hlen:(xs.drop lo').length=xs.length-lo' :=by simp
  have hcl:=kI X
  have hsp:xs=xs.take lo' ++xs.drop lo' :=(sL lo' xs).symm
  have htl:(xs.take lo').length=lo' :=by simp;omega
  have hr:rh r S (cells.drop (lo' *r.sz)) (xs.drop lo'):=by
   rw [hsp]at X
   have:=(qq X).2
   rwa [htl]at this
  have hmul:lo' *r.sz<=xs.length*r.sz:=AC _ d
  refine⟨cells.drop (lo' *r.sz),?_,hr⟩
  unfold nP
  refine Src.ofSlice w D _ _ _ _ (kI hr) (fun j u hu=>?_) (yK hr)
  by_cases hc:cap=lo'
  ·have:xs.drop lo' =[]:=HR (by omega)
   rw [this]at hr
   have hr' :cells.drop (lo' *r.sz)=[]:=hr
   rw [hr']at hu;simp at hu
  ·simp only [hc,lI]
   rw [jq,wN g1]
   rw [vX,<-g5]at hu
   have hj:lo' *r.sz+j<xs.length*r.sz:=by
    have:=(sy.1 hu).1
    simp at this;omega
   rw [y9 hj]at hu
   simpa using hu
variable{yt:TypeId}
section
variable{ty:TypeId}
def Q6{l:Option Nat}{x:Operand}(D:E.P.underlying t=some (.slice e))(hm:ml mm r U l cap xs∈O)(hs:dQ xs lo (xs.length:Int)=some ys)(V:aJ E.N G x (Z (nP r.sz l cap lo.toNat ys.length)))(hd:Nat.blt h3 E.N.n=true)(k: ∀b,(b=true->ys=[])->RG E ops bx rest O ((h3,tD rB b)::G)):RG E ops bx (⟨some h3,.binOp .eql t x (.const (.slice none 0 0)) yt,ty,pos,after,none⟩::rest) O G:= .of rfl fun a w S st=>by
 have Y:a.eval x=nP r.sz l cap lo.toNat ys.length:=V S a st.facts
 obtain⟨⟨cells,hraw,_⟩,_⟩:=st.own.mem _ hm
 have hcn:a.eval (.const (.slice none 0 0))= .slice none 0 0:=rfl
 cases l with
 |none=>
  have hx0:xs=[]:=sd hraw.1
  have hy0:ys=[]:=by
   obtain⟨lo',m,_,_,_,_,rfl⟩:=fW hs
   subst hx0;simp
  have d:(Op.equal t (.slice none 0 0) (.slice none 0 0)).run E.P w= .ok true w:=AS fun h3=>by
   simp [Op.equalIn,jt D]
  have hrun:(execOp a.eval ⟨some h3,.binOp .eql t x (.const (.slice none 0 0)) yt,ty,pos,after,none⟩).run E.P w= .ok (.value (.bool true)) w:=by
   simp [execOp,Y,nP,hcn,eqGuard,binOp,d]
  refine⟨fun c h=>(by cases h),?_⟩
  rw [hrun]
  exact k true (fun _=>hy0) _ _ S (st.step (js _ _ _) st.sat hd (ju.2 rfl))
 |some b=>
  obtain⟨ad,hv⟩: ∃ad,nP r.sz (some b) cap lo.toNat ys.length= .slice (some ad) ys.length (cap-lo.toNat):=⟨_,rfl⟩
  have d:(Op.equal t (.slice (some ad) ys.length (cap-lo.toNat)) (.slice none 0 0)).run E.P w= .ok false w:=AS fun h3=>by
   simp [Op.equalIn,jt D]
  have hrun:(execOp a.eval ⟨some h3,.binOp .eql t x (.const (.slice none 0 0)) yt,ty,pos,after,none⟩).run E.P w= .ok (.value (.bool false)) w:=by
   simp [execOp,Y,hv,hcn,eqGuard,binOp,d]
  refine⟨fun c h=>(by cases h),?_⟩
  rw [hrun]
  exact k false (fun e=>(by cases e)) _ _ S (st.step (js _ _ _) st.sat hd (ju.2 rfl))
def NJ{t' :TypeId}{l l2:Option Nat}{cap2:Nat}{zs us:List α}{x y:Operand}(ti:TI E.P T sz bytes agg z)(hsz:r.sz=sz)(hz:Nat.beq z.length sz=true)(h0:Nat.blt 0 sz=true)(h128:Nat.ble bytes 2048=true)(D:E.P.underlying t=some (.slice T))(ht' :t' =t)(hd:Nat.blt h3 E.N.n=true)(V:aJ E.N G x (Z (av l cap n)))(hm:ml mm r U l2 cap2 us∈dr r T l cap xs::O)(hs:dQ us lo (us.length:Int)=some ys)(hy:aJ E.N G y (Z (nP r.sz l2 cap2 lo.toNat ys.length)))(happ:app xs ys=some zs)(k: ∀l' cap',RG E ops bx rest (dr r T l' cap' zs::O) ((h3,Z (av l' cap' zs.length))::G))(hn:n=xs.length:=by rfl):
  RG E ops bx (⟨some h3,.call ⟨.builtin .append,#[x,y],#[t,t']⟩,ty,pos,after,none⟩::rest) (dr r T l cap xs::O) G:=by
 subst ht'
 exact wS (u:=fun cap' l' =>Z (av l' cap' zs.length)) ti hsz hz h0 h128 D hd V (fun a w S st=>by
  have Y:a.eval y=nP r.sz l2 cap2 lo.toNat ys.length:=hy S a st.facts
  rw [Y]
  exact J0 D (st.own.mem _ hm).1 hs) happ (fun _ _ _ _ _=>rfl) k hn
end

section
variable{c:Code}{args:α->List Ty}{it:It α}{fp:Nat->Prop}
end

section
variable{ty:TypeId}
end


def rf(l:List (Option Nat×Nat)):OI:={h:=fun n=>l.getD n (none,0)}
def eZ(P:Program){A h2 ρ:Type}(args:A->List Ty)(Ob:h2->OI->List OE)(res:ρ->Ty)(f:h2->A->Option (ρ×h2)):Ty where
 p:=fun S v=> ∀x y R,f x y=some R-> ∃fid fst cap,v= .func (.func fid) fst cap/\ak P fid=true/\ ∀i w S' vs,SH.le S S' ->mA w S' ->xn S' (args y) vs->eD 0 um w S' (Ob x i)->
  Calls P fid (fst++vs.toArray++cap) w fun en w' => ∃j v S'',en= .returned v/\(res R.1).p S'' v/\kw (Hm (Ob x i)) w S' w' S'' /\mA w' S'' /\eD 0 um w' S'' (Ob R.2 j)/\ ∀k,Hm (Ob R.2 j) k->Hm (Ob x i) k\/w.heap.size<=k
 mono:=fun h k x y R hf=>by
  obtain⟨fid,fst,cap,e,hc,hs⟩:=k x y R hf
  exact⟨fid,fst,cap,e,hc,fun i w S' vs hle=>hs i w S' vs (SH.le_trans h hle)⟩
variable{Ob:h2->OI->List OE}
def GJ:(eZ P args Ob res (fun _ _=>none)).p S v:=fun _ _ _ h=>by cases h
variable{ats:Array TypeId}{fid:FuncId}{fn:Func}
section
section
variable{ty:TypeId}
def qW(hc:ak E.P fid=true)(hp:aJ E.N G p (Z (M b 0)))(hs: ∀x y R,f x y=some R-> ∀i,bk E.P fid (Z (M b 0)::args y) (Ob x i) (fun _:OI=>res R.1) (fun j=>Ob R.2 j)):
  cu E O G ⟨dst,.makeFunc (.func fid) #[p] #[],ty,pos,after,g⟩ (eZ E.P args Ob res f):= .of_pure fun a w S _ _ hf=>by
 have Y:a.eval p=M b 0:=hp S a hf
 refine⟨.func (.func fid) #[M b 0] #[],by simp [execOp,Instr.makeFunc,Y],fun x y R hR=>⟨fid,#[M b 0],#[],rfl,hc,fun i w' S' vs _ hsat hv ho=>?_⟩⟩
 have:=hs x y R hR i w' S' (M b 0::vs) hsat ⟨rfl,hv⟩ ho
 rw [show(#[M b 0]++vs.toArray++ #[]:Array Value)=(M b 0::vs).toArray from by simp]
 exact this
def oE(hc:ak E.P fid=true)(hs: ∀x y R,f x y=some R-> ∀i,bk E.P fid (args y) (Ob x i) (fun _:OI=>res R.1) (fun j=>Ob R.2 j)):
  aJ E.N G (.func fid) (eZ E.P args Ob res f):=fun S a _ x y R hR=>
 ⟨fid,#[],#[],rfl,hc,fun i w' S' vs _ hsat hv ho=>by
  rw [show(#[]++vs.toArray++ #[]:Array Value)=vs.toArray from by simp]
  exact hs x y R hR i w' S' vs hsat hv ho⟩
end
def BD{x:h2}{y:A}{R:ρ×h2}{i:OI}{ty:TypeId}{fo:Operand}{xs:List Operand}(Or:List OE)(hO:O=Ob x i++Or)(hf:aJ E.N G fo (eZ E.P args Ob res f))(hR:f x y=some R)(V:kQ E.N G xs (args y))(hpost: ∀j,Ob R.2 j++Or=post j):
  EffOK E O G ⟨some h3,.call ⟨.value fo,xs.toArray,ats⟩,ty,pos,after,g⟩ post (fun _=>res R.1):=fun a w S hsat ho hF H=>by
 subst hO
 obtain rfl:(fun j=>Ob R.2 j++Or)=post:=funext hpost
 obtain⟨fid,fst,cap,e,hc,hs⟩:=hf S a hF x y R hR
 have hr:(execOp a.eval ⟨some h3,.call ⟨.value fo,xs.toArray,ats⟩,ty,pos,after,g⟩).run E.P w= .ok (.enter fid (fst++(xs.map a.eval).toArray++cap)) w:=by
  simp [execOp,resolve,e,Deferred.ofValue,invoke,iK hc]
 refine⟨fun c h=>(by cases h),?_⟩
 rw [hr]
 exact(hs i w S _ (SH.le_refl _) hsat (V.tys hF) (qC ho).1.weak).mono fun en w' ⟨j,v,S',he,hv,Y,X,d,h4⟩=>⟨_,he,v,S',j,rfl,Y.more fun b ⟨f,hf,H⟩=>⟨f,D8 _ hf,H⟩,X,eD.turn ho H Y d h4,hv⟩
section
variable{N:Nat}{w0:World}{S0:SH}{O1:List OE}{ι:Type}{t:ι->Ty}{O2:ι->List OE}
def ra{rvs:List ResultVar}(hr:fn.results=rvs.toArray)(Y:Nat.beq rvs.length 1=false)(h:Q5 P ⟨N,[]⟩ G rvs ts)(i:ι)(hO:O=O2 i)(D:t i=tT ts):
  AT ⟨P,⟨N,[]⟩,Hm O1,w0,S0,none⟩ (bodyPost P fn (Nv ⟨P,⟨N,[]⟩,Hm O1,w0,S0,none⟩ O1 t O2)) .ret O G:=fun a w S st=>by
 obtain⟨vs,k1,k2,k3⟩:=h.run st.sat st.facts
 have hne: ¬vs.length=1:=by rw [k3];intro e;rw [e]at Y;cases Y
 refine⟨st.facts.defers,.tuple vs.toArray,?_,BC st rfl i hO (by rw [D];exact⟨vs,rfl,k2⟩)⟩
 have e1:(fn.results.mapM (zW a.tmps)).run P w= .ok vs.toArray w:=by
  rw [hr,List.mapM_toArray,Sem.run_map,k1]
  rfl
 have e3:results fn a.tmps=((fn.results.mapM (zW a.tmps))>>=fun vs=>pure (if h:vs.size=1 then vs[0]else .tuple vs)):=rfl
 rw [e3,uh,e1]
 simp [Result.andThen,hne]
def dE{k:Nat}{x:α}(hr:fn.results= #[.cell k T])(ti:TI P T sz bytes agg z)(hsz:r.sz=sz)(hag:r.agg=agg)(hk:cw G k=some (dk r x))(i:ι)(hO:O=O2 i)(D:t i=tD r x):
  AT ⟨P,⟨N,[]⟩,Hm O1,w0,S0,none⟩ (bodyPost P fn (Nv ⟨P,⟨N,[]⟩,Hm O1,w0,S0,none⟩ O1 t O2)) .ret O G:=fun a w S st=>by
 obtain⟨b,off,c,U,fr,Y,X,d⟩:=st.facts.at_ k _ hk
 obtain⟨c',h4,h5⟩:=st.sat.part X (r.len d)
 rw [<-h5]at d
 refine⟨st.facts.defers,r.val ((c'.toList.drop off).take r.sz),?_,BC st rfl i hO (by rw [D];exact⟨_,rfl,d⟩)⟩
 have hl:=lh ti h4 hsz hag d
 have h1' :a.tmps[k]?.getD undef=Value.pointer (some ⟨b,off,none⟩):=by simpa [HT] using Y
 simp [results,hr,h1',asAddr,hl]
end
end
variable{et kt:TypeId}{kv:κ->Value}{os:List (Option Nat×Nat)}
section
variable [DecidableEq κ]{k:κ}{x i v:Operand}{dst:Option Nat}{ty:TypeId}
def ki{γ:β->Ty}{y:β}(hm:E.P.underlying t=some (.map kt et))(hk:LJ E.P kt kv)(V:aJ E.N G x (Z (vd b)))(hi:Pz E.N G i (kv k))(hv:aJ E.N G v (γ y))
  (h: ∀os',RG E ops bx rest (Bi (OC γ) kv b none os' (gC m k y)::O) G):
  RG E ops bx (⟨none,.insert t x i v,ty,pos,after,none⟩::rest) (Bi (OC γ) kv b none os m::O) G:= .of rfl fun a w S st=>by
 have Y:a.eval x=vd b:=V S a st.facts
 have X:a.eval i=kv k:=hi S a st.facts
 have d:(γ y).p S (a.eval v):=hv S a st.facts
 obtain⟨⟨hp,hfp⟩,hap,hO⟩:=st.own
 obtain⟨hno,hnb,es,clock,e3,e4,hst⟩:=hp
 obtain⟨q,hq,hdk,hinj⟩:=hk
 obtain⟨os1,p1,p2,_⟩:=wJ hdk hinj (k:=k) 0 e4
 have hnb1: ∀o∈os1,o.1≠some b:=fun o ho=>by
  rcases p1 o ho with h|h
  ·exact hnb o h
  ·rw [h];exact fun e=>by cases e
 obtain⟨w',os',r,x1,x2,x3,x4⟩:=QA (hx:=OC γ) (E:=E) (y:=y) (o:=(none,0)) (val:=a.eval v) st.sat hm ⟨q,hq,hdk,hinj⟩ ⟨hno,hnb1,es,clock,e3,p2,hst⟩ ⟨rfl,d⟩ (fun e=>by cases e) (fun _ _ _ e=>by cases e)
 have hrun:(execOp a.eval ⟨none,.insert t x i v,ty,pos,after,none⟩).run E.P w= .ok .skip w' :=by simp [execOp,Y,X,r]
 refine⟨fun c h=>(by cases h),?_⟩
 rw [hrun]
 have hfp' : ∀j,(Bi (OC γ) kv b none os' (gC m k y)).fp j->(Bi (OC γ) kv b none os m).fp j:=fun j hj=>by
  rcases x4 j hj with(h|⟨o,ho,e⟩)|e
  ·exact .inl h
  ·rcases p1 o ho with h|h
   ·exact .inr ⟨o,h,e⟩
   ·rw [h]at e;cases e
  ·cases e
 exact h os' _ _ S ⟨st.ext.step x1 (fun c hc=>hfp c (.inl hc)),x2,⟨⟨x3,fun j hj=>hfp j (hfp' j hj)⟩,fun f hf j hj=>hap f hf j (hfp' j hj),hO.ext x1 fun f hf j hj hjb=>hap f hf j (.inl hjb) hj⟩,st.facts⟩
end

def Hs{κ β:Type}(γ:β->Ty)(kv:κ->Value)(S:SH):List MapEntry->List (κ×β)->Prop
 |[],[]=>True
 |e::es,q::m=>e.key=kv q.1/\(γ q.2).p S e.val/\(∀p∈m,p.1≠q.1)/\Hs γ kv S es m
 |_,_=>False
def Aq{κ β:Type}{γ:β->Ty}{kv:κ->Value}{S S' :SH}(h:SH.le S S'): ∀{es:List MapEntry} {m:List (κ×β)},Hs γ kv S es m->Hs γ kv S' es m
 |[],[],_=>trivial
 |_::_,q::_,⟨Y,X,d,h4⟩=>⟨Y,(γ q.2).mono h X,d,Aq h h4⟩
def TP{κ β:Type} [DecidableEq κ]{γ:β->Ty}{kv:κ->Value}{w:World}{S:SH}: ∀{es:List MapEntry} {os:List (Option Nat×Nat)} {m:List (κ×β)},xk (OC γ) kv w S none es os m->Hs γ kv S es m
 |[],[],[],_=>trivial
 |_::_,_::_,_::_,⟨Y,X,_,h4,h5⟩=>⟨Y,by rw [aQ (by simp)]at X;exact X.2,h4,TP h5⟩
def Uh{κ β:Type} [DecidableEq κ]{γ:β->Ty}{kv:κ->Value}{w:World}{S:SH}: ∀{es:List MapEntry} {m:List (κ×β)},Hs γ kv S es m->xk (OC γ) kv w S none es (m.map fun _=>(none,0)) m
 |[],[],_=>trivial
 |_::_,_::_,⟨Y,X,d,h4⟩=>⟨Y,by rw [aQ (by simp)];exact⟨rfl,X⟩,fun _ _ _ h=>(by cases h),d,Uh h4⟩
def tMp{κ β:Type}(γ:β->Ty)(kv:κ->Value)(m:List (κ×β)):Ty where
 p:=fun S v=> ∃b es clock,v=vd b/\S b=some (.map es clock)/\Hs γ kv S es.toList m
 mono:=fun h ⟨b,es,cl,e,Y,X⟩=>by
  obtain⟨o',d,h4⟩:=h b _ Y
  have h5:o' = .map es cl:=h4
  subst h5
  exact⟨b,es,cl,e,d,Aq h X⟩
section
variable{c:Code} [DecidableEq κ]{k:κ}{x i:Operand}{γ:β->Ty}{dst:Option Nat}{ty:TypeId}
def KI{z:β}{zv:Value}(hm:E.P.underlying t=some (.map kt et))(hk:LJ E.P kt kv)(hz:ZV E.P et zv)(hzt: ∀S,(γ z).p S zv)(V:aJ E.N G x (tMp γ kv m))(hi:Pz E.N G i (kv k)):
  cu E O G ⟨dst,.lookup t x i false,ty,pos,after,g⟩ (γ ((uo m k).getD z)):= .of_pure fun a w S hs ho hf=>by
 obtain⟨b,es,clock,Y,d,h4⟩:=V S a hf
 obtain⟨o',h5,h6⟩:=hs b _ d
 have h7:o' = .map es clock:=h6
 subst h7
 obtain⟨q,hq,hd,hinj⟩:=hk
 have X:a.eval i=kv k:=hi S a hf
 obtain⟨_,_,_,h8⟩:=wJ hd hinj (k:=k) 0 (Uh (w:=w) h4)
 rcases h8 with⟨g1,g2⟩|⟨y,o,e,j,g1,g2,g3,g4,g5⟩
 ·refine⟨zv,by simp [execOp,Y,X,rO hm hq (hd k) h5 hz g2],by rw [g1];exact hzt S⟩
 ·refine⟨e.val,by simp [execOp,Y,X,rO hm hq (hd k) h5 hz g4],by rw [g1];exact g3.2⟩
def St.settleMp{j:Nat}(h:St E (Bi (OC γ) kv b none os m::O) G a w S)(hk:cw G j=some (Z (vd b))): ∃S',St E O ((j,tMp γ kv m)::G) a w S' :=by
 obtain⟨⟨hn,_,es,clock,d,h4,_⟩,_⟩:=h.own.1
 obtain⟨h8,hle,_,_⟩:=zV h (.inl rfl) d (tS _) hn
 have hv:a.tmps.getD j undef=vd b:=h.facts.at_ j _ hk
 exact⟨_,h8.cons ⟨b,es,clock,hv,by simp [SH.set],Aq hle (TP h4)⟩⟩
def LQ{e:Exit}(j:Nat)(hk:cw G j=some (Z (vd b)))(h:AT E bx e O ((j,tMp γ kv m)::G)):AT E bx e (Bi (OC γ) kv b none os m::O) G:=
 fun a w _ st=>let⟨S',st'⟩:=st.settleMp hk;h a w S' st'
end

section
variable{ty:TypeId}
end
open Go.MapKept (Stamped)
section
variable [DecidableEq κ]
end
section
variable{c:Code} [DecidableEq κ]{r:Nat}{left:List κ}{cur:Option κ}{k:κ}{x i v:Operand}{dst:Option Nat}{ty:TypeId}
end
open Go.RowKit

def pC(xs:List Int):Po:=xs.map fun n=>UInt8.ofNat n.toNat
def E8: ∀(xs:List Int) (r:ByteArray),xs.foldl (fun r n=>r.push (UInt8.ofNat n.toNat)) r=⟨r.data++(pC xs).toArray⟩
 |[],r=>by simp [pC]
 |x::xs,r=>by
  rw [List.foldl_cons,E8 xs]
  simp [pC,ByteArray.push]
def AZ{k:IntKind}{S:SH}: ∀{xs:List Int} {cs:List Value},rh (rI k) S cs xs->cs=xs.map (Value.int k)
 |[],cs,h=>by rw [show cs=[]from h];rfl
 |x::xs,cs,⟨a,b,e,Y,X⟩=>by
  rw [e,show a=[.int k x]from Y,AZ X]
  rfl
section
variable{c:Code}{ty:TypeId}
def Ch{xs:List Int}{x:Operand}{dt:TypeId}(hs:E.P.underlying st=some (.slice e))(he:E.P.underlying e=some (.int .u8))(hd:E.P.underlying dt=some .string)(ti:TI E.P e sz bytes agg z)(hsz:Nat.beq sz 1=true)(V:aJ E.N G x (tD (ga (rI .u8)) xs)):cu E O G ⟨dst,.convert st dt x,ty,pos,after,g⟩ (tD rS (pC xs)):= .of_pure fun a w S hsat _ hf=>by
 obtain⟨ad,cap,hv,hle,hmax,hsl⟩:=j6.1 (V S a hf)
 refine⟨.string ⟨(pC xs).toArray⟩,?_,B4.2 rfl⟩
 have key: ∀(ad:Option Addr),GO (rI .u8) S ad xs->(ad=none->xs=[])->(Conv.bytesToString (.slice ad xs.length cap)).run E.P w= .ok (.string ⟨(pC xs).toArray⟩) w:=fun ad h h0=>by
  cases ad with
  |none=>rw [h0 rfl];rfl
  |some p=>
   have hl:(loadCells p xs.length).run E.P w= .ok (xs.map (Value.int .u8)).toArray w:=by
    rcases h with h|⟨b,off,cc,T,fr,Y,X,d⟩
    ·rw [h];rfl
    ·cases Y
     obtain⟨c',h4,h5⟩:=hsat.part X (kI d)
     have h6:xs.length*(rI .u8).sz=xs.length:=by show xs.length*1=_;omega
     rw [h6]at d h5
     have h7:=AZ d
     exact vt h4 (h5.trans h7) (by simp)
   rw [run_bytesToString w p xs.length cap xs hl,E8]
   simp [ByteArray.empty,ByteArray.emptyWithCapacity]
   rfl
 simp [execOp,hv,run_convert_bytes_string w st dt e _ _ _ hs he hd,key ad hsl (fun h=>by
  rcases hsl with Y|⟨b,off,cc,T,fr,Y,_⟩
  ·exact Y
  ·rw [h]at Y;cases Y)]
end

abbrev NG:=Nat->(Option Nat×Nat)×(Nat->Option Nat×Nat)
inductive NPl where
 |o
 |i (k:Nat)
 |l (k j:Nat)
section
def hd2(q:Nat->Option Nat×Nat)(zs:List (List α)):List Value:=zs.mapIdx fun j z=>av (q j).1 (q j).2 z.length
def hd1(prj:β->List (List α))(g:NG)(x:List β):List Value:=x.mapIdx fun k y=>av (g k).1.1 (g k).1.2 (prj y).length
def nsB(prj:β->List (List α))(l:Option Nat)(g:NG)(x:List β)(h:Option (Nat×Nat)):NPl->Option Nat
 | .o=>l
 | .i k=>(x[k]?).bind fun _=>(g k).1.1
 | .l k j=>if h=some (k,j)then none else((x[k]?).bind fun y=>(prj y)[j]?).bind fun _=>((g k).2 j).1
structure nstP(prj:β->List (List α))(r:Rp α)(T1 T2 T3:TypeId)(l:Option Nat)(cap n:Nat)(g:NG)(x:List β)(h:Option (Nat×Nat))(w:World)(S:SH):Prop where
 len:x.length=n
 out:As false rV T1 l cap (hd1 prj g x) w S
 inn: ∀k y,x[k]? =some y->As false rV T2 (g k).1.1 (g k).1.2 (hd2 (g k).2 (prj y)) w S
 lvs: ∀k y j z,x[k]? =some y->(prj y)[j]? =some z->h≠some (k,j)->As true r T3 ((g k).2 j).1 ((g k).2 j).2 z w S
 inj: ∀ae t b,nsB prj l g x h ae=some b->nsB prj l g x h t=some b->ae=t
variable{prj:β->List (List α)}{T1 T2 T3:TypeId}{l:Option Nat}{g:NG}{x:List β}{h:Option (Nat×Nat)}
end
section
variable{prj:β->List (List α)}{T1 T2 T3:TypeId}{l:Option Nat}{g:NG}{x:List β}{h:Option (Nat×Nat)}
variable{c:Code}{ty:TypeId}{gd:Option (Nat×Bool)}
open Classical in
noncomputable def acS(w:World)(S:SH)(P:Nat->Prop):SH:=fun b=>if P b then w.heap[b]? else S b
def g0(hs:List (Option Nat×Nat)):NG:=fun k=>(hs.getD k (none,0),fun _=>(none,0))
def tsB(l:Option Nat)(q:Nat->Option Nat×Nat)(zs:List (List α))(h:Option Nat):Option Nat->Option Nat
 |none=>l
 |some j=>if h=some j then none else(zs[j]?).bind fun _=>(q j).1
structure rowP(r:Rp α)(T2 T3:TypeId)(l:Option Nat)(cap n:Nat)(q:Nat->Option Nat×Nat)(zs:List (List α))(h:Option Nat)(w:World)(S:SH):Prop where
 len:zs.length=n
 inn:As false rV T2 l cap (hd2 q zs) w S
 lvs: ∀j z,zs[j]? =some z->h≠some j->As true r T3 (q j).1 (q j).2 z w S
 inj: ∀ae t b,tsB l q zs h ae=some b->tsB l q zs h t=some b->ae=t
variable{q:Nat->Option Nat×Nat}{zs:List (List α)}{k:Option Nat}
end

def Gp(es:List Bool)(done:Array Bool):List Nat:=(List.range es.length).filter fun k=>(es[k]?).getD false&&done.getD k false
def Vp(es:List Bool)(i:Nat)(ae:List Nat):List Nat:=(List.range es.length).filter fun k=>Nat.beq k i||ae.contains k
def Zz:List Nat->List Nat->Bool
 |[],[]=>true
 |a::ae,b::t=>Nat.beq a b&&Zz ae t
 |_,_=>false
def Nu: ∀{ae t:List Nat},Zz ae t=true->ae=t
 |[],[],_=>rfl
 |a::ae,b::t,h=>by
  simp only [Zz,ly]at h
  rw [pG h.1,Nu h.2]
 |[],_::_,h=>by cases h
 |_::_,[],h=>by cases h
def Rq:List (List Nat×((Nat->OI)->List OE))->List Nat->(Nat->OI)->List OE
 |[],_,_=>[]
 |p::r,ae,σ=>bif Zz p.1 ae then p.2 σ else Rq r ae σ
def Bh{k:Nat}:k∈Gp es done↔es[k]? =some true/\done.getD k false=true:=by
 unfold Gp
 rw [List.mem_filter,List.mem_range,ly]
 constructor
 ·rintro⟨Y,X,d⟩
  refine⟨?_,d⟩
  rw [sH Y]at X ⊢
  simpa using X
 ·rintro⟨Y,X⟩
  exact⟨(sy.1 Y).1,by rw [Y];rfl,X⟩
def QU{i:Nat}(h:es[i]? =some false):Gp es (done.setIfInBounds i true)=Gp es done:=by
 unfold Gp
 refine List.filter_congr fun k hk=>?_
 by_cases hik:i=k
 ·subst hik;rw [h];rfl
 ·rw [wX false hik]
def Wj{i:Nat}(h:es[i]? =some true)(hs:i<done.size):Gp es (done.setIfInBounds i true)=Vp es i (Gp es done):=by
 unfold Vp
 conv=>lhs;unfold Gp
 refine List.filter_congr fun k hk=>?_
 by_cases hik:i=k
 ·subst hik;simp [h,hs]
 ·rw [wX false hik]
  have H:Nat.beq k i=false:=by
   cases H:Nat.beq k i with
   |false=>rfl
   |true=>exact absurd (pG H).symm hik
  rw [H,uX,xp,JD,Bh,ly]
  constructor
  ·rintro⟨Y,X⟩
   refine⟨?_,X⟩
   cases he:es[k]? with
   |none=>rw [he]at Y;cases Y
   |some b=>rw [he]at Y;simpa using Y
  ·rintro⟨Y,X⟩
   exact⟨by rw [Y];rfl,X⟩
def GL:List Nat->List (List Nat)
 |[]=>[[]]
 |k::l=>(GL l).map (k:: ·)++GL l
def Dq(es:List Bool):List Nat:=(List.range es.length).filter fun k=>(es[k]?).getD false
def yj(p:Nat->Bool): ∀l:List Nat,l.filter p∈GL l
 |[]=>uk.2 rfl
 |k::l=>by
  unfold GL
  rw [ui]
  by_cases h:p k=true
  ·rw [List.filter_cons_of_pos h]
   exact .inl (AG.2 ⟨_,yj p l,rfl⟩)
  ·rw [List.filter_cons_of_neg h]
   exact .inr (yj p l)
def TV(es:List Bool)(done:Array Bool):Gp es done∈GL (Dq es):=by
 have:Gp es done=(Dq es).filter fun k=>done.getD k false:=by
  unfold Gp Dq
  rw [List.filter_filter]
  refine List.filter_congr fun k _=>Bool.and_comm ..
 rw [this]
 exact yj _ _
def noE(L:List Oper)(es:List Bool)(i:Nat)(ae:List Nat):Bool:=
 ae.contains i||(Dq es).any fun k=>if ae.contains k then nW L L.length k i||(Dq es).any fun j=> !ae.contains j&&nW L L.length k j else nW L L.length i k
def PJ(L:List Oper)(es:List Bool)(i:Nat)(aas:List (List Nat)):Bool:=(GL (Dq es)).all fun ae=>noE L es i ae||aas.any fun a=>Zz a ae
def LP{α:Type}(p:α->Prop):List α->Prop
 |[]=>True
 |a::l=>p a/\LP p l
def LP.mem{p:α->Prop}: ∀{l:List α},LP p l-> ∀a∈l,p a
 |_::_,⟨h,_⟩,_,.head _=>h
 |_::_,⟨_,h⟩,_,.tail _ hm=>LP.mem h _ hm
abbrev Z1:=List (List Nat×((Nat->OI)->List OE))
def DT(E:En)(G:mg)(L:List Oper)(ts:List TS)(Ss:Z1)(es0:List Bool):Nat->List Oper->List Bool->Prop
 |_,[],_=>True
 |i,o::rest,false::es=>(∃(needs:List NS) (t:TS) (aas:List (List Nat)),ts[i]? =some t/\xb G ts needs/\(needs.all fun n=>pH L o i (n.at fun _=>jQ))=true/\eJ i o=true/\QV L es0 i t=true/\PJ L es0 i aas=true/\o.dst.isSome=true/\
   LP (fun ae=> ∀σ,cq E (Rq Ss ae σ) L.toArray (w8 needs σ) o (t.at σ)) aas)/\DT E G L ts Ss es0 (i+1) rest es
 |i,o::rest,true::es=>(∃(needs:List NS) (t:TS) (aas:List (List Nat×List Nat)),ts[i]? =some t/\xb G ts needs/\(needs.all fun n=>pH L o i (n.at fun _=>jQ))=true/\eJ i o=true/\QV L es0 i t=true/\PJ L es0 i (aas.map (·.1))=true/\(aas.all fun p=>Zz (Vp es0 i p.1) p.2)=true/\
   LP (fun p:List Nat×List Nat=> ∀σ,k7 E L.toArray (Rq Ss p.1 σ) (w8 needs σ) o (fun x=>Rq Ss p.2 (Mc σ i x)) (fun x=>t.at (Mc σ i x))) aas)/\DT E G L ts Ss es0 (i+1) rest es
 |_,_::_,[]=>False
def DT.get{ts:List TS}{Ss:Z1}{es0:List Bool}: ∀(r:List Oper) (es:List Bool) (k:Nat),DT E G L ts Ss es0 k r es-> ∀(j:Nat) (o:Oper),r[j]? =some o->
    ∃e,es[j]? =some e/\ ∃(needs:List NS) (t:TS),ts[k+j]? =some t/\xb G ts needs/\(needs.all fun n=>pH L o (k+j) (n.at fun _=>jQ))=true/\eJ (k+j) o=true/\QV L es0 (k+j) t=true/\
      (match e with
       |false=>o.dst.isSome=true/\ ∃aas,PJ L es0 (k+j) aas=true/\LP (fun ae=> ∀σ,cq E (Rq Ss ae σ) L.toArray (w8 needs σ) o (t.at σ)) aas
       |true=> ∃aas:List (List Nat×List Nat),PJ L es0 (k+j) (aas.map (·.1))=true/\(aas.all fun p=>Zz (Vp es0 (k+j) p.1) p.2)=true/\LP (fun p:List Nat×List Nat=> ∀σ,k7 E L.toArray (Rq Ss p.1 σ) (w8 needs σ) o (fun x=>Rq Ss p.2 (Mc σ (k+j) x)) (fun x=>t.at (Mc σ (k+j) x))) aas):=by
  intro r
  induction r with
  |nil=>intro es k _ j o h;simp at h
  |cons p r ih=>
    intro es k h j o ho
    cases es with
    |nil=>exact h.elim
    |cons e es=>
      cases e with
      |false=>
        obtain⟨⟨needs,t,aas,g1,g2,g3,g4,g5,g6,g7,g8⟩,X⟩:=h
        cases j with
        |zero=>
          simp at ho;subst ho
          exact⟨false,rfl,needs,t,g1,g2,g3,g4,g5,g7,aas,g6,g8⟩
        |succ j=>
          obtain⟨e',g1,g2⟩:=ih es (k+1) X j o (by simpa using ho)
          refine⟨e',by simpa using g1,?_⟩
          rw [show k+1+j=k+(j+1)from by omega]at g2
          exact g2
      |true=>
        obtain⟨⟨needs,t,aas,g1,g2,g3,g4,g5,g6,g7,g8⟩,X⟩:=h
        cases j with
        |zero=>
          simp at ho;subst ho
          exact⟨true,rfl,needs,t,g1,g2,g3,g4,g5,aas,g6,g7,g8⟩
        |succ j=>
          obtain⟨e',g1,g2⟩:=ih es (k+1) X j o (by simpa using ho)
          refine⟨e',by simpa using g1,?_⟩
          rw [show k+1+j=k+(j+1)from by omega]at g2
          exact g2
structure XB(E:En)(G:mg)(l:List Oper)(ts:List TS)(Ss:Z1)(es:List Bool)(done:Array Bool)(a:Act)(w:World)(S:SH)(σ:Nat->OI):Prop where
 ext:kw E.B E.w0 E.S0 w S
 sat:mA w S
 own:eD E.base E.B w S (Rq Ss (Gp es done) σ)
 size:a.tmps.size=E.N.n
 defers:a.defers=E.N.ds
 dsz:done.size=l.length
 down: ∀j o,l[j]? =some o->done.getD j false=true-> ∀e∈o.after,Region.binds .any e=true->done.getD e.on false=true
 old: ∀k t,cw G k=some t->(∀j o,l[j]? =some o->done.getD j false=true->o.dst≠some k)->t.p S (a.tmps.getD k undef)
 new: ∀j o h3 p,l[j]? =some o->done.getD j false=true->o.dst=some h3->ts[j]? =some p->(p.at σ).p S (a.tmps.getD h3 undef)
 deps: ∀j p,done.getD j false=true->ts[j]? =some p-> ∀k∈p.1,done.getD k false=true
section
variable{ts:List TS}{Ss:Z1}
def XB.need(h:XB E G L ts Ss es done a w S σ){i:Nat}(hi:L[i]? =some o)(hun:done.getD i true=false)(hwait: ∀e∈o.after,Region.binds .any e=true->done.getD e.on false=true){needs:List NS}(Y:xb G ts needs)(X:(needs.all fun n=>pH L o i (n.at fun _=>jQ))=true):bS E.N S a (w8 needs σ):=by
 have hlt:i<done.size:=by rw [h.dsz];exact(sy.1 hi).1
 have hun' :done.getD i false=false:=by
  simp [hlt]at hun ⊢;exact hun
 refine⟨h.size,h.defers,?_⟩
 have key: ∀n∈needs,(n.ty σ).p S (a.tmps.getD n.slot undef):=by
  intro n hn
  have hs:=kU.1 X n hn
  have ho:=Y.mem n hn
  unfold pH NS.at at hs
  unfold WF at ho
  cases hsrc:n.src with
  |some j=>
   rw [hsrc]at hs ho
   simp only [ly]at hs
   obtain⟨hs1,hs2⟩:=hs
   cases hj:L[j]? with
   |none=>rw [hj]at hs1;cases hs1
   |some p=>
    rw [hj]at hs1
    cases hd:p.dst with
    |none=>simp only [hd]at hs1;cases hs1
    |some h3=>
     simp only [hd]at hs1
     have hd' :=pG hs1
     subst hd'
     have hdone:done.getD j false=true:=by
      unfold CR at hs2
      obtain⟨e,he0,H⟩:=D1.1 hs2
      have he:e∈o.after:=by simpa using he0
      simp only [ly]at H
      have:=hwait e he H.2
      rwa [pG H.1]at this
     have hm:=ho σ
     cases hf:ts[j]? with
     |none=>rw [hf]at hm;simp at hm
     |some f=>
      rw [hf]at hm
      have e:f.at σ=n.ty σ:=by simpa using hm
      rw [<-e]
      exact h.new j p n.slot f hj hdone hd hf
  |none=>
   rw [hsrc]at hs ho
   refine h.old _ _ (ho σ) fun j p hj hdone hd=>?_
   have:=kU.1 hs p (tu hj)
   simp only [hd,Nat.beq_refl,sI,uX]at this
   unfold CR at this
   obtain⟨e,he0,H⟩:=D1.1 this
   have he:e∈p.after:=by simpa using he0
   simp only [ly]at H
   have d:=h.down j p hj hdone e he H.2
   rw [pG H.1]at d
   rw [d]at hun'
   cases hun'
 clear Y X
 intro k t hk
 unfold w8 at hk
 induction needs with
 |nil=>simp [jL,cw]at hk
 |cons n needs ih=>
  simp only [D3]at hk
  unfold jL cw at hk
  by_cases H:Nat.beq n.slot k=true
  ·have hb' :Nat.beq (n.at σ).slot k=true:=H
   rw [hb']at hk
   have:=pG H
   subst this
   have h9:some (n.at σ).ty=some t:=by simpa using hk
   have e:n.ty σ=t:=qE h9
   rw [<-e]
   exact key n (nM ..)
  ·rw [Ay]at H
   have hb' :Nat.beq (n.at σ).slot k=false:=H
   rw [hb']at hk
   exact ih (fun m hm=>key m (pK _ hm)) hk
def XB.step{σ' :Nat->OI}(h:XB E G L ts Ss es done a w S σ){i:Nat}{p0:TS}{C:Nat->Prop}(hi:L[i]? =some o)(hdN: ∀h3,o.dst=some h3->h3<E.N.n)(hs2: ∀h3,o.dst=some h3-> ∀j p,L[j]? =some p->done.getD j false=true->p.dst=some h3->i=j)(hwait: ∀e∈o.after,Region.binds .any e=true->done.getD e.on false=true)(D:ts[i]? =some p0)(hun:done.getD i true=false)(hdep: ∀k∈p0.1,k=i\/done.getD k false=true)(hext:kw C w S w' S')(hC: ∀b,C b->E.base<=b\/E.B b)(hsat:mA w' S')(hown:eD E.base E.B w' S' (Rq Ss (Gp es (done.setIfInBounds i true)) σ'))(hσ: ∀k,k≠i->σ' k=σ k)(hv:(p0.at σ').p S' v):
  XB E G L ts Ss es (done.setIfInBounds i true) (a.put o.dst v) w' S' σ' :=by
 have hlt:i<done.size:=by rw [h.dsz];exact(sy.1 hi).1
 have hset: ∀j,(done.setIfInBounds i true).getD j false=true->j=i\/done.getD j false=true:=fun j hj=>by
  by_cases hij:i=j
  ·exact .inl hij.symm
  ·rw [wX false hij]at hj;exact .inr hj
 have hseti:(done.setIfInBounds i true).getD i false=true:=by simp [hlt]
 have hun' :done.getD i false=false:=by simp [hlt]at hun ⊢;exact hun
 have hput: ∀k,(∀h3,o.dst=some h3->h3≠k)->(a.put o.dst v).tmps.getD k undef=a.tmps.getD k undef:=fun k hk=>by
  cases hd:o.dst with
  |none=>rfl
  |some h3=>
   have hda:h3<a.tmps.size:=by rw [h.size];exact hdN h3 hd
   rw [uA hda,aQ (hk h3 hd)]
 refine⟨h.ext.step hext hC,hsat,hown,?_,?_,by simp [h.dsz],fun j p hj hdone e he H=>?_,fun k u hk hno=>?_,fun j p d' u hj hdone hd' hu=>?_,fun j u hj hu k hk=>?_⟩
 ·cases o.dst with
  |none=>exact h.size
  |some h3=>simp [Act.put,h.size]
 ·cases o.dst with
  |none=>exact h.defers
  |some h3=>exact h.defers
 ·rcases hset j hdone with rfl|hj'
  ·rw [hi]at hj
   have:o=p:=by simpa using hj
   subst this
   exact y6 (hwait e he H)
  ·exact y6 (h.down j p hj hj' e he H)
 ·rw [hput k fun h3 hd e=>hno i o hi hseti (by rw [hd,e])]
  exact u.mono hext.keep (h.old k u hk fun j p hj hdone=>hno j p hj (y6 hdone))
 ·by_cases hij:j=i
  ·subst hij
   rw [hi]at hj
   have:o=p:=by simpa using hj
   subst this
   have hda:d' <a.tmps.size:=by rw [h.size];exact hdN d' hd'
   rw [hd',uA hda,bh rfl]
   rw [D]at hu
   have:p0=u:=by simpa using hu
   subst this
   exact hv
  ·have hj' :=(hset j hdone).resolve_left hij
   rw [hput d' fun h3 hd e=>by subst e;exact hij (hs2 h3 hd j p hj hj' hd').symm]
   have e1:u.at σ' =u.at σ:=congrArg u.2 (Gy fun k hk=>hσ k fun e=>by
     subst e
     rw [h.deps j u hj' hu k hk]at hun';cases hun')
   rw [e1]
   exact Ty.mono _ hext.keep (h.new j p d' u hj hj' hd' hu)
 ·rcases hset j hj with rfl|hj'
  ·rw [D]at hu
   have:p0=u:=by simpa using hu
   subst this
   rcases hdep k hk with rfl|h'
   ·exact hseti
   ·exact y6 h'
  ·exact y6 (h.deps j u hj' hu k hk)
end
def JO{l t:List Oper}{ts:List TS}{Ss:Z1}(hsl:xC E.N.n [] l=true)(hlen:ts.length=l.length)(hesl:es.length=l.length)(hd:DT E G (l++t) ts Ss es 0 l es)(D:zi (l++t) l.length t.length=true)(hQ: ∀a w S σ,St E (Rq Ss (Dq es) σ) (Ky l (Ul ts σ) G) a w S->wpListIn (fw E.r) 0 E.P (l++t).toArray bx t a w):
  ∀(fuel:Nat) (done:Array Bool) (a:Act) (w:World) (S:SH) (σ:Nat->OI),lU done=fuel->(∀j,l.length<=j->done.getD j false=false)->XB E G (l++t) ts Ss es done a w S σ->wpAnyIn (fw E.r) 0 E.P .any (l++t).toArray bx fuel done a w:=by
 have hL1: ∀i o,i<l.length->(l++t)[i]? =some o->l[i]? =some o:=fun i o hi h=>by rwa [zJ hi]at h
 have hL2: ∀i o,l[i]? =some o->(l++t)[i]? =some o:=fun i o h=>by rw [zJ (sy.1 h).1];exact h
 have htail: ∀m o,l.length<=m->(l++t)[m]? =some o->wK (l++t) m=true/\eJ m o=true:=fun m o hm ho=>by
  have hml:m<(l++t).length:=(sy.1 ho).1
  rw [kj]at hml
  unfold zi at D
  have:=kU.1 D (m-l.length) (by simp;omega)
  rw [show l.length+(m-l.length)=m from by omega,ho]at this
  simp only [ly]at this
  exact⟨this.1,this.2.1⟩
 have hget:=fun i o (hi:l[i]? =some o)=>DT.get l es 0 hd i o hi
 have hedge: ∀i o,(l++t)[i]? =some o->eJ i o=true:=fun i o hi=>by
  rcases oc i l.length with h|h
  ·obtain⟨_,_,_,_,_,_,_,h,_⟩:=hget i o (hL1 i o h hi)
   simpa using h
  ·exact(htail i o h hi).2
 obtain⟨hs1,hs2⟩:=CU l [] hsl
 have fin: ∀fuel done a w S σ,lU done=fuel->(∀j,l.length<=j->done.getD j false=false)->XB E G (l++t) ts Ss es done a w S σ->(∀i,i<l.length->done.getD i false=true)->wpAnyIn (fw E.r) 0 E.P .any (l++t).toArray bx fuel done a w:=by
  intro fuel done a w S σ hu hfree h hall
  have hdn:Gp es done=Dq es:=by
   unfold Gp Dq
   refine List.filter_congr fun k hk=>?_
   rw [hall k (by rw [<-hesl];exact List.mem_range.1 hk),Bool.and_true]
  have hown:=h.own
  rw [hdn]at hown
  refine zN (n:=l.length) (fun m o hm ho=>(htail m o hm ho).1) hedge t l.length done fuel a w (eo _) (by simp) h.dsz (fun j hj=>⟨fun hjd=>?_,fun hlt=>hall j hlt⟩) hu
   (hQ a w S σ ⟨h.ext,h.sat,hown,h.size,h.defers,fun j u hj=>?_⟩)
  ·rcases oc j l.length with h' |h'
   ·exact h'
   ·rw [hfree j h']at hjd;cases hjd
  ·rcases Hi l (Ul ts σ) j u (by unfold Ul;rw [Gv];exact hlen) hj with⟨i,o,Y,X,d⟩|⟨Y,X⟩
   ·unfold Ul at d
    rw [JB]at d
    cases hf:ts[i]? with
    |none=>rw [hf]at d;simp at d
    |some f=>
     rw [hf]at d
     have e:f.at σ=u:=by simpa using d
     rw [<-e]
     exact h.new i o j f (hL2 i o Y) (hall i (sy.1 Y).1) X hf
   ·refine h.old j u Y fun i o ho hdn=>?_
    rcases oc i l.length with h' |h'
    ·exact X o (tu (hL1 i o h' ho))
    ·rw [hfree i h']at hdn;cases hdn
 have lower: ∀done a w S σ i,(∀j,l.length<=j->done.getD j false=false)->XB E G (l++t) ts Ss es done a w S σ->i∈Region.ready .any (l++t).toArray done->l.length<=i-> ∀j,j<l.length->done.getD j false=true:=by
  intro done a w S σ i hfree h hi hge j hj
  obtain⟨hun,p,hp,hwait⟩:=tw.1 hi
  have hp' :(l++t)[i]? =some p:=by simpa using hp
  have hcov:=(htail i p hge hp').1
  unfold wK at hcov
  have hre:=kU.1 hcov j (by simp;omega)
  exact gJ h.down _ i j (fun q hq e he H=>by
   have:q=p:=by rw [hp']at hq;simpa using hq.symm
   subst this
   exact hwait e he H) hre
 intro fuel
 induction fuel with
 |zero=>
  intro done a w S σ hu hfree h
  exact fin 0 done a w S σ hu hfree h fun i hi=>uv hu (by rw [h.dsz,kj];omega)
 |succ fuel ih=>
  intro done a w S σ hu hfree h
  by_cases hall: ∀i,i<l.length->done.getD i false=true
  ·exact fin _ done a w S σ hu hfree h hall
  have hready0: ∀m i,i<m->i<l.length->Region.ready .any (l++t).toArray done=[]->done.getD i false=true:=by
   intro m
   induction m with
   |zero=>intro i h;omega
   |succ m ihm=>
    intro i him hil hr
    have his:i<done.size:=by rw [h.dsz,kj];omega
    by_cases hdn:done.getD i true=true
    ·rw [<-pn his];exact hdn
    ·exfalso
     obtain⟨o,ho⟩: ∃o,(l++t)[i]? =some o:=⟨l[i],hL2 i _ (sH hil)⟩
     have hmem:i∈Region.ready .any (l++t).toArray done:=by
      rw [tw]
      refine⟨by simpa using hdn,o,by simpa using ho,fun e he H=>?_⟩
      have:=hedge i o ho
      unfold eJ at this
      have:=kU.1 this e (by simpa using he)
      simp only [H,sI,uX,uW]at this
      exact ihm e.on (by omega) (by omega) hr
     rw [hr]at hmem;cases hmem
  refine⟨fun hr=>absurd (fun i hi=>hready0 (i+1) i (by omega) hi hr) hall,fun i hi=>?_⟩
  have hil:i<l.length:=by
   rcases oc i l.length with h' |h'
   ·exact h'
   ·exact absurd (lower done a w S σ i hfree h hi h') hall
  obtain⟨hun,o,ho,hwait⟩:=tw.1 hi
  have ho' :(l++t)[i]? =some o:=by simpa using ho
  have hol:=hL1 i o hil ho'
  obtain⟨e,he,needs,u,Y,X,d,_,h4,h5⟩:=hget i o hol
  rw [vj]at Y d h4
  have hF:=h.need ho' hun hwait X d
  have his:i<done.size:=by rw [h.dsz,kj];omega
  have hun' :done.getD i false=false:=by rw [<-pn his];exact hun
  have hu' :lU (done.setIfInBounds i true)=fuel:=by have:=ro hun;omega
  have huq: ∀h3,o.dst=some h3-> ∀j p,(l++t)[j]? =some p->done.getD j false=true->p.dst=some h3->i=j:=fun h3 hdd j p hj hjd hpd=>by
   rcases oc j l.length with h' |h'
   ·exact hs2 i j o p h3 hol (hL1 j p h' hj) hdd hpd
   ·rw [hfree j h']at hjd;cases hjd
  have hfree' : ∀j,l.length<=j->(done.setIfInBounds i true).getD j false=false:=fun j hj=>by
   rw [wX false (by omega)];exact hfree j hj
  have hbl:E.base<=w.heap.size:=h.ext.size
  have hwaits: ∀q,(l++t)[i]? =some q-> ∀e∈q.after,Region.binds .any e=true->done.getD e.on false=true:=fun q hq e he H=>by
   have:q=o:=by rw [ho']at hq;simpa using hq.symm
   subst this
   exact hwait e he H
  have hdpp: ∀k∈u.1,k=i\/done.getD k false=true:=fun k hk=>by
   have:=kU.1 h4 k hk
   simp only [ly,y7]at this
   rcases this.2 with H|H
   ·exact .inl (pG H)
   ·exact .inr (gJ h.down _ i k hwaits H)
  have hdNN: ∀h3,o.dst=some h3->h3<E.N.n:=fun h3 hd=>(hs1 o (tu hol) h3 hd).1
  unfold wpOpIn
  rw [ho]
  show if _ then _ else _
  -- just these effects stand
  have hpos:noE (l++t) es i (Gp es done)=false:=by
   rw [D4]
   intro hno
   unfold noE at hno
   rw [y7]at hno
   rcases hno with hc|hc
   ·have:=(Bh.1 (JD.1 hc)).2
    rw [this]at hun';cases hun'
   ·obtain⟨k,hk1,hk2⟩:=D1.1 hc
    have hke:es[k]? =some true:=by
     unfold Dq at hk1
     rw [List.mem_filter,List.mem_range]at hk1
     have h7:=hk1.2
     rw [sH hk1.1]at h7 ⊢
     simpa using h7
    by_cases hin:(Gp es done).contains k=true
    ·rw [bh hin,y7]at hk2
     have hkd:=(Bh.1 (JD.1 hin)).2
     rcases hk2 with H|H
     ·have:=gJ h.down _ k i (fun q hq e he H=>h.down k q hq hkd e he H) H
      rw [this]at hun';cases hun'
     ·obtain⟨j,hj1,hj2⟩:=D1.1 H
      rw [ly,Df]at hj2
      have hje:es[j]? =some true:=by
       unfold Dq at hj1
       rw [List.mem_filter,List.mem_range]at hj1
       have h7:=hj1.2
       rw [sH hj1.1]at h7 ⊢
       simpa using h7
      have hjd:=gJ h.down _ k j (fun q hq e he H=>h.down k q hq hkd e he H) hj2.2
      have:=JD.2 (Bh.2 ⟨hje,hjd⟩)
      rw [hj2.1]at this;cases this
    ·rw [aQ hin]at hk2
     have hkd:=gJ h.down _ i k hwaits hk2
     exact hin (JD.2 (Bh.2 ⟨hke,hkd⟩))
  have hwin: ∀aas:List (List Nat),PJ (l++t) es i aas=true->Gp es done∈aas:=by
   intro aas hw
   unfold PJ at hw
   have:=kU.1 hw _ (TV es done)
   rw [hpos,uX]at this
   obtain⟨b,hb1,hb2⟩:=D1.1 this
   rw [<-Nu hb2];exact hb1
  cases e with
  |false=>
   simp only at h5
   obtain⟨hdS,aas,hw,h5⟩:=h5
   rw [vj]at hw
   obtain⟨h3,hdd⟩:=NY.1 hdS
   have h6:=h5.mem _ (hwin aas hw) σ a w S h.sat h.own hF
   have hdq:=QU (done:=done) he
   by_cases hw:Region.wanted o (yielded (l++t).toArray a.tmps)=true
   ·rw [bh hw]at h6 ⊢
    refine lJ (fun a' w' ⟨v,S',ha,V,hs,hv⟩=>?_) h6
    subst ha
    exact ih _ _ _ S' _ hu' hfree' (h.step ho' hdNN huq hwait Y hun hdpp V (fun _ H=>H.elim) hs (by rw [hdq];exact h.own.ext0 V) (fun _ _=>rfl) hv)
   ·rw [aQ hw]at h6 ⊢
    exact⟨fun _ _=>trivial,ih _ _ _ S _ hu' hfree' (h.step ho' hdNN huq hwait Y hun hdpp (js um _ _) (fun _ H=>H.elim) h.sat (by rw [hdq];exact h.own) (fun _ _=>rfl) h6)⟩
  |true=>
   simp only [vj]at h5
   obtain⟨aas,hw,hins,h5⟩:=h5
   obtain⟨p,hp1,hp2⟩:=AG.1 (hwin _ hw)
   have hp3:=Nu (kU.1 hins p hp1)
   have h6:=h5.mem p hp1 σ a w S h.sat (by rw [hp2];exact h.own) hF hbl
   have hdq:Gp es (done.setIfInBounds i true)=p.2:=by rw [Wj he his,<-hp2,hp3]
   by_cases hw:Region.wanted o (yielded (l++t).toArray a.tmps)=true
   ·rw [bh hw]at h6 ⊢
    refine lJ (fun a' w' ⟨v,S',x,ha,V,hs,hown,hv⟩=>?_) h6
    subst ha
    exact ih _ _ _ S' _ hu' hfree' (h.step ho' hdNN huq hwait Y hun hdpp V (fun b ⟨f,hf,H⟩=>(eD.mem h.own f (by rw [<-hp2];exact hf)).2 b H) hs (by rw [hdq];exact hown) (fun k hk=>Ia σ x hk) hv)
   ·rw [aQ hw]at h6 ⊢
    obtain⟨x,hown,hv⟩:=h6
    exact⟨fun _ _=>trivial,ih _ _ _ S _ hu' hfree' (h.step ho' hdNN huq hwait Y hun hdpp (js um _ _) (fun _ H=>H.elim) h.sat (by rw [hdq];exact hown) (fun k hk=>Ia σ x hk) hv)⟩
def LO{id:Nat}(m:Nat)(ts:List TS)(es:List Bool)(Ss:Z1)(hO: ∀σ,Rq Ss [] σ=O)(hm:E.P.follows .mixedOrders=true)(hsl:xC E.N.n [] (L.take m)=true)(hlen:ts.length=(L.take m).length)(hesl:es.length=(L.take m).length)(D:zi L (L.take m).length (L.drop m).length=true)(hd:DT E G L ts Ss es 0 (L.take m) es)(k: ∀σ:Nat->OI,RG E L.toArray bx (L.drop m) (Rq Ss (Dq es) σ) (Ky (L.take m) (Ul ts σ) G)):CG E bx (.region id L.toArray true) O G:=fun a w S st=>by
 have hL:L=L.take m++L.drop m:=(sL m L).symm
 generalize L.take m=l at hL hsl hlen hesl D hd k
 generalize L.drop m=t at hL D k
 subst hL
 refine wpIn_region_any hm ?_
 obtain⟨he,hs⟩:=yC (w:=w) st.sat
 have hdn0:Gp es (Array.replicate (l++t).toArray.size false)=[]:=by
  unfold Gp
  refine List.filter_eq_nil_iff.2 fun k hk=>?_
  simp [zI]
  intro _
  split<;>simp
 refine JO hsl hlen hesl hd D (fun a w S σ st=>k σ a w S st) _ _ _ _ S (fun _=>jQ) ?_ (fun j _=>?_)
  ⟨st.ext.step0 he,hs,by rw [hdn0,hO];exact st.own.ext0 he,st.facts.size,st.facts.defers,by simp,fun j o hj hdone=>?_,fun k t hk _=>st.facts.at_ k t hk,fun j o h3 t hj hdone=>?_,fun j p hdone=>?_⟩
 ·unfold lU;rw [NW,NU];simp
 ·simp [zI];split<;>rfl
 ·simp [zI]at hdone
  split at hdone<;>simp at hdone
 ·simp [zI]at hdone
  split at hdone<;>simp at hdone
 ·simp [zI]at hdone
  split at hdone<;>simp at hdone

variable{base:Nat}
def eD.perm{B:Nat->Prop}(h:O.Perm O'):eD base B w S O->eD base B w S O' :=by
 induction h with
 |nil=>exact id
 |cons x p ih=>
  rintro⟨Y,X,d⟩
  exact⟨Y,fun f hf=>X f (p.mem_iff.2 hf),ih d⟩
 |swap x y l=>
  rintro⟨Y,X,d,h4,h5⟩
  refine⟨d,fun f hf k hk hfk=>?_,Y,fun f hf=>X f (pK _ hf),h5⟩
  rcases jl.1 hf with rfl|hf
  ·exact X x (nM ..) k hfk hk
  ·exact h4 f hf k hk hfk
 |trans _ _ ih1 ih2=>exact fun k=>ih2 (ih1 k)
def uC(O:List OE):List Nat->List OE
 |[]=>[]
 |i::l=>match O[i]? with
  |some e=>e::uC O l
  |none=>uC O l
def A4(O:List OE): ∀a b:List Nat,uC O (a++b)=uC O a++uC O b
 |[],_=>rfl
 |i::a,b=>by
  simp only [De,uC]
  split<;>simp [A4 O a b]
def MD{a b:List Nat}(h:a.Perm b):(uC O a).Perm (uC O b):=by
 induction h with
 |nil=>exact .nil
 |cons x p ih=>
  simp only [uC]
  split
  ·exact .cons _ ih
  ·exact ih
 |swap x y l=>
  simp only [uC]
  cases V:O[x]? <;>cases hy:O[y]? <;>simp<;>exact .swap ..
 |trans _ _ ih1 ih2=>exact ih1.trans ih2
def Kq(O:List OE):uC O (List.range O.length)=O:=by
 have key: ∀n,n<=O.length->uC O (List.range n)=O.take n:=by
  intro n
  induction n with
  |zero=>intro _;rfl
  |succ n ih=>
   intro h
   rw [List.range_succ,A4,ih (by omega)]
   simp only [uC]
   rw [sH (by omega),Rs (by omega)]
 rw [key _ (eo _),D0]
def eD.pick{B:Nat->Prop}(l:List Nat)(hl:l.isPerm (List.range O.length)=true)(h:eD base B w S O):eD base B w S (uC O l):=
 h.perm (by
  have:=MD (O:=O) (List.isPerm_iff.1 hl)
  rw [Kq]at this
  exact this.symm)

section
section
variable{ty:TypeId}
end
end
open Go.ChangeShapes Go.WideShapes Go.ChangeAt

variable{hb:Type}{W:World}{enc:TypeId×Value->hb}{ps:List MemPlace}
section
def Gd(W:World):SH:=fun b=>W.heap[b]?
def X2(W:World)(K: ∀p∈aaS,∃c T fr,W.heap[p.1]? =some (.cells c T fr)/\c.toList.take p.2.length=p.2)(D: ∀w' :World,(∀(b:Nat) (o:Obj),W.heap[b]? =some o-> ∃o',w'.heap[b]? =some o' /\Jy o o')->aaB w'):mA W (Gd W):=⟨fun _ o h=>⟨o,h,tS o⟩,K,D⟩
def vM(enc:TypeId×Value->hb)(P:Program)(W:World){α:Type}(t:TypeId)(r:Rp α):Prop:=
 P.cellsOf t=r.sz/\ ∀fuel cs x,DataW.trod enc P W 0 (fun _=>true) true fuel t cs=some x-> ∃y,r.rc (Gd W) cs y
def RQ(h:P.underlying t=some .bool)(hc:P.cellsOf t=1):vM enc P W t rB:=⟨hc,fun fuel cs x V=>by
 cases fuel with
 |zero=>simp [DataW.trod]at V
 |succ n=>
  unfold DataW.trod at V
  rw [h]at V
  split at V
  all_goals try (injections;done)
  ·exact⟨_,rfl⟩⟩
def vD{α β:Type}{f:α->Option β}: ∀{l:List α} {r:List β},l.mapM f=some r->r.length=l.length/\ ∀(i:Nat) (x:α),l[i]? =some x-> ∃y,r[i]? =some y/\f x=some y
 |[],r,h=>by
  simp at h
  subst h
  exact⟨rfl,fun i x V=>by simp at V⟩
 |a::l,r,h=>by
  rw [List.mapM_cons]at h
  cases hf:f a with
  |none=>rw [hf]at h;simp at h
  |some b=>
   rw [hf]at h
   cases hm:l.mapM f with
   |none=>rw [hm]at h;simp at h
   |some r' =>
    rw [hm]at h
    simp at h
    subst h
    obtain⟨Y,X⟩:=vD hm
    refine⟨by simp [Y],fun i x V=>?_⟩
    cases i with
    |zero=>simp at V;subst V;exact⟨b,rfl,hf⟩
    |succ i=>exact X i x (by simpa using V)
def Cy{a:Addr}(h:W.cell? a=some v):a.spot=none/\ ∃c E fr,W.heap[a.block]? =some (.cells c E fr)/\c[a.off]? =some v:=by
 unfold World.cell? at h
 cases ho:W.heap[a.block]? with
 |none=>rw [ho]at h;cases h
 |some o=>
  rw [ho]at h
  cases o with
  |cells c E fr=>
   simp only at h
   by_cases hs:a.spot.isSome=true
   ·rw [bh hs]at h;cases h
   ·rw [aQ hs]at h
    exact⟨by cases hq:a.spot with
     |none=>rfl
     |some ae=>rw [hq]at hs;simp at hs,c,E,fr,rfl,h⟩
  |_=>simp at h
def HE(a:Addr):a.add 0=a:=by unfold Addr.add;rfl
def NB(h:W.cells? 0 ⟨b,off,none⟩ n=some cs)(hn:0<n): ∃c E fr,W.heap[b]? =some (.cells c E fr)/\cs=(c.toList.drop off).take n:=by
 unfold World.cells? at h
 rw [bh (pL _)]at h
 obtain⟨Y,X⟩:=vD h
 obtain⟨v,_,hv⟩:=X 0 0 (by simp [hn])
 obtain⟨_,c,E,fr,d,h4⟩:=Cy hv
 refine⟨c,E,fr,by simpa [Addr.add] using d,?_⟩
 apply List.ext_getElem?
 intro i
 have hl:cs.length=n:=by simpa using Y
 by_cases hi:i<n
 ·obtain⟨v,h5,h6⟩:=X i i (by simp [hi])
  obtain⟨_,c',E',fr',h7,h8⟩:=Cy h6
  rw [jq]at h7 h8
  have h7' :W.heap[b]? =some (.cells c' E' fr'):=h7
  have h3' :W.heap[b]? =some (.cells c E fr):=by simpa [Addr.add] using d
  rw [h3']at h7'
  injection h7' with h7'
  injection h7' with e1
  subst e1
  rw [h5,y9 hi,vX]
  simpa using h8.symm
 ·rw [D9 (by omega),D9 (by simp;omega)]
def PM{q:Rp α}{len:Nat}{a:Addr}{x:DataW hb×List MemPlace}(h0' :0<q.sz)(hq:vM enc P W e q)(V:(let elemAt (i:Nat):Option (DataW hb×List MemPlace):=(W.cells? 0 (a.add (i*P.cellsOf e)) (P.cellsOf e)).bind (DataW.trod enc P W 0 (fun _=>true) true n e)
   if 0<=a.block/\len<=cap/\cap<=maxLen then
    ((List.range len).mapM elemAt).bind fun elems=>
     (if(fun _=>true) a.block then(List.range (cap-len)).mapM fun j=>elemAt (len+j)else some []).map fun rest=>
      (DataW.slice (elems.map (·.1)) (rest.map (·.1)),MemPlace.row a ((elems.length+rest.length)*P.cellsOf e)++(elems++rest).flatMap (·.2))
   else none)=some x): ∃y,(ga q).rc (Gd W) [.slice (some a) len cap] y:=by
 simp only at V
 split at V
 ·rename_i hcond
  obtain⟨_,hle,hmax⟩:=hcond
  cases hm:(List.range len).mapM (fun i=>(W.cells? 0 (a.add (i*P.cellsOf e)) (P.cellsOf e)).bind (DataW.trod enc P W 0 (fun _=>true) true n e))with
  |none=>rw [hm]at V;simp at V
  |some elems=>
   obtain⟨hm1,hm2⟩:=vD hm
   rw [hq.1]at hm2
   by_cases hl0:len=0
   ·subst hl0;exact⟨[],some a,cap,rfl,pL _,hmax,.inl rfl⟩
   have hsp0:a.spot=none:=by
    obtain⟨z,_,hz⟩:=hm2 0 0 (by rw [List.getElem?_range (by omega)])
    rw [Nat.zero_mul,HE]at hz
    cases hcs:W.cells? 0 a q.sz with
    |none=>rw [hcs]at hz;simp at hz
    |some cs1=>
     unfold World.cells? at hcs
     rw [bh (pL _)]at hcs
     obtain⟨_,g2⟩:=vD hcs
     obtain⟨v,_,hv⟩:=g2 0 0 (by simp [h0'])
     rw [HE]at hv
     exact(Cy hv).1
   have hcell: ∀i,i<len-> ∃c E fr,a.spot=none/\W.heap[a.block]? =some (.cells c E fr)/\ ∃y,q.rc (Gd W) ((c.toList.drop (a.off+i*q.sz)).take q.sz) y:=by
    intro i hi
    obtain⟨z,_,hz⟩:=hm2 i i (by simp [hi])
    cases hcs:W.cells? 0 (a.add (i*q.sz)) q.sz with
    |none=>rw [hcs]at hz;simp at hz
    |some cs1=>
     rw [hcs]at hz
     have hsp:a.spot=none:=hsp0
     obtain⟨ab,ao,az⟩:=a
     simp only at hsp
     subst hsp
     rw [jq]at hcs
     obtain⟨c,E,fr,g1,g2⟩:=NB hcs h0'
     obtain⟨y,hy⟩:=hq.2 n cs1 z hz
     exact⟨c,E,fr,rfl,g1,y,by rw [<-g2];exact hy⟩
   obtain⟨c,E,fr,hsp,H,_⟩:=hcell 0 (by omega)
   have key: ∀m,m<=len-> ∃ys:List α,ys.length=m/\rh q (Gd W) ((c.toList.drop a.off).take (m*q.sz)) ys:=by
    intro m
    induction m with
    |zero=>intro _;exact⟨[],rfl,by simp [rh]⟩
    |succ m ih=>
     intro hm'
     obtain⟨ys,hy1,hy2⟩:=ih (by omega)
     obtain⟨c',E',fr',_,hb',y,hy⟩:=hcell m (by omega)
     rw [H]at hb'
     injection hb' with hb'
     injection hb' with e1
     subst e1
     refine⟨ys++[y],by simp [hy1],?_⟩
     have hsplit:(c.toList.drop a.off).take ((m+1)*q.sz)=(c.toList.drop a.off).take (m*q.sz)++(c.toList.drop (a.off+m*q.sz)).take q.sz:=by
      rw [xo,Nat.one_mul,List.take_add,sJ]
     rw [hsplit]
     exact rs hy2 (MB.2 hy)
   obtain⟨ys,hy1,hy2⟩:=key len (eo _)
   obtain⟨ab,ao,az⟩:=a
   simp only at hsp
   subst hsp
   exact⟨ys,some ⟨ab,ao,none⟩,cap,by rw [hy1],by omega,hmax,.inr ⟨ab,ao,c,E,fr,rfl,H,by rw [hy1];exact hy2⟩⟩
 ·cases V
def o7{q:Rp α}(h:P.underlying t=some (.slice e))(hc:P.cellsOf t=1)(h0:Nat.blt 0 q.sz=true)(hq:vM enc P W e q):vM enc P W t (ga q):=⟨hc,fun fuel cs x V=>by
 have h0' :0<q.sz:=by simpa [uW] using h0
 cases fuel with
 |zero=>simp [DataW.trod]at V
 |succ n=>
  unfold DataW.trod at V
  rw [h]at V
  split at V
  all_goals try (injections;done)
  ·exact⟨[],none,0,rfl,eo _,pL _,.inl rfl⟩
  ·rename_i e' a len cap heq
   injection heq with e1
   injection e1 with e1
   subst e1
   exact PM h0' hq V⟩
def WH(enc:TypeId×Value->hb)(P:Program)(W:World){α:Type}(off:Nat)(l:List (TypeId×Nat))(r:Rp α):Prop:=
 ∀(fuel:Nat) (cs:List Value),cs.length=off+r.sz->(∀f∈l,∃x,DataW.trod enc P W 0 (fun _=>true) true fuel f.1 ((cs.drop f.2).take (P.cellsOf f.1))=some x)-> ∃y,r.rc (Gd W) (cs.drop off) y
def oI{t:Nat}(h:vM enc P W t r):WH enc P W off [(t,off)] r:=fun fuel cs hl V=>by
 obtain⟨x,V⟩:=V _ (List.mem_singleton_self _)
 simp only at V
 rw [h.1,ul (by simp;omega)]at V
 exact h.2 _ _ _ V
def cR{p:Rp α}{t off' :Nat}{l:List (TypeId×Nat)}(h:vM enc P W t p)(ho:off' =off+p.sz)(hr:WH enc P W off' l q):WH enc P W off ((t,off)::l) (co p q):=fun fuel cs hl V=>by
 subst ho
 obtain⟨x,hx1⟩:=V _ (nM ..)
 simp only at hx1
 rw [h.1]at hx1
 obtain⟨y,hy⟩:=h.2 _ _ _ hx1
 obtain⟨z,hz⟩:=hr fuel cs (by rw [hl];show off+(p.sz+q.sz)=_;omega) fun f hf=>V f (pK _ hf)
 exact⟨(y,z),_,_,by rw [<-sJ];exact(sL _ _).symm,hy,hz⟩
def lb{l:List (TypeId×Nat)}{p:Rp α}{f:β->α}(D:(P.underlying t).map (fun h3=>match h3 with| .struct l=>(true,l.toList.map fun f=>(f.type,f.offset))|_=>(false,[]))=some (true,l))(hc:P.cellsOf t=p.sz)(hf: ∀y,∃x,f x=y)(hl:WH enc P W 0 l p):vM enc P W t (na p f):=⟨hc,fun fuel cs x V=>by
 obtain⟨fs,Y,X⟩: ∃fs,P.underlying t=some (.struct fs)/\fs.toList.map (fun f=>(f.type,f.offset))=l:=by
  cases hu:P.underlying t with
  |none=>rw [hu]at D;cases D
  |some h3=>
   rw [hu]at D
   cases h3<;>simp at D
   exact⟨_,rfl,D⟩
 cases fuel with
 |zero=>simp [DataW.trod]at V
 |succ n=>
  unfold DataW.trod at V
  rw [Y]at V
  change (if cs.length=P.cellsOf t then(fs.toList.mapM fun f=>DataW.trod enc P W 0 (fun _=>true) true n f.type ((cs.drop f.offset).take (P.cellsOf f.type))).map (fun xs=>(DataW.agg (xs.map (·.1)),xs.flatMap (·.2)))else none)=some x at V
  split at V
  ·rename_i hlen
   cases hm:fs.toList.mapM (fun f=>DataW.trod enc P W 0 (fun _=>true) true n f.type ((cs.drop f.offset).take (P.cellsOf f.type)))with
   |none=>rw [hm]at V;simp at V
   |some r=>
    obtain⟨_,hm2⟩:=vD hm
    obtain⟨y,hy⟩:=hl n cs (by rw [hlen,hc];omega) (fun g K=>by
     rw [<-X,AG]at K
     obtain⟨f0,hf0,rfl⟩:=K
     obtain⟨i,hi⟩:=List.getElem?_of_mem hf0
     obtain⟨z,_,hz⟩:=hm2 i f0 hi
     exact⟨z,hz⟩)
    obtain⟨x',hx'⟩:=hf y
    refine⟨x',?_⟩
    show p.rc _ cs (f x')
    rw [hx']
    simpa using hy
  ·cases V⟩
def Kc(h:vM enc P W t r)(hag:r.agg=false){h3:DataW hb}(hv:DataW.Trod enc P W 0 (fun _=>true) true t v h3 ps)(hc:v.cells= #[v]): ∃y,(tD r y).p (Gd W) v:=by
 obtain⟨fuel,V⟩:=hv
 rw [hc]at V
 obtain⟨y,hy⟩:=h.2 _ _ _ V
 exact⟨y,_,by unfold Rp.val;rw [hag];rfl,hy⟩

def Hy(D:P.underlying t=some (.int k))(hv:Value.okWide P W .any base t v):v.cells= #[v]:=by
 cases v<;>first|rfl|(simp [Value.okWide,D,Cell.okWide,Cell.ok]at hv)
def Jj{W' :World}(h:kw um W S W' S'):Below W.heap.size W W' :=⟨h.os,h.tape,h.output,h.size,fun k hk=>h.heap k hk (fun h=>h)⟩
def zg(hl:laidOutB P=true){W W' :World}(H:Below W.heap.size W W'){sp:Nat->Bool}: ∀{ts:List TypeId} {vs:List Value} {ds:List (DataW hb)} {ps:List MemPlace},(∀t∈ts,P.readableRec t=true/\t<P.types.size)->
  DataW.TrodAll enc P W 0 (fun _=>true) true ts vs ds ps->(∀p∈ps,p.block<W.heap.size)->(∀p∈ps,sp p.block=true)->DataW.TrodAll enc P W' 0 sp true ts vs ds ps
 |[],[],[],_,_,h,_,_=>h
 |t::ts,v::vs,h3::ds,_,hr,⟨p,q,Y,X,e⟩,hlt,hsp=>by
  subst e
  have D:=hr t (nM ..)
  exact⟨p,q,WideElems.Trod_stays hl D.1 D.2 Y (fun x V=>H.same (hlt x (D8 _ V))) (fun x V=>hsp x (D8 _ V)),
   zg hl H (fun t D=>hr t (pK _ D)) X (fun x V=>hlt x (List.mem_append_right _ V)) (fun x V=>hsp x (List.mem_append_right _ V)),rfl⟩
def SX{f:Func}{ae:ChangeSpec}{apart fresh handsOn again:Bool}{W' :World}{args:Array Value}{ds gs:List (DataW hb)}{before:List MemPlace}{tb:TypeId}(hl:laidOutB P=true)(hr: ∀t∈f.params.toList,P.readableRec t=true/\t<P.types.size)(hvs:ae.vars=[])(hres:f.resultTypes= #[tb])(htb:P.underlying tb=some .bool)(hW:DataW.Whole enc P f.params.toList ae.vars apart W args.toList ds gs before)(hs:ae.fn hb (ds++gs)={results:=[.lit (.bool true)],args:=ds})(H:Below W.heap.size W W'):
  ae.post enc P f apart fresh handsOn again W args (.bool true) W' :=by
 have hW0:=hW
 have hlt:=hW.lt
 obtain⟨pa,pv,hA,hV,rfl,hz,hn⟩:=hW
 rw [hvs]at hV
 have hpv:pv=[]:=by
  cases gs with
  |nil=>exact hV
  |cons g gs=>exact hV.elim
 subst hpv
 have hlt' : ∀p∈pa,p.block<W.heap.size:=fun p hp=>hlt p (by simpa using hp)
 have hargs: ∀sp:Nat->Bool,(∀p∈pa,sp p.block=true)->DataW.TrodAll enc P W' 0 sp true f.params.toList args.toList ds pa:=fun sp hsp=>zg hl H hr hA hlt' hsp
 have hresT: ∀(b:Nat) (sp:Nat->Bool) (hd:Bool),DataW.TrodAll enc P W' b sp hd f.resultTypes.toList ((Value.bool true).resultList f.resultTypes.size) [.lit (.bool true)] []:=fun b sp hd=>by
  rw [hres]
  exact⟨[],[],⟨1,by simp [DataW.trod,htb,Value.cells]⟩,rfl,rfl⟩
 have hvT: ∀sp:Nat->Bool,DataW.TrodVars enc P W' sp ae.vars (ae.fn hb (ds++gs)).vars []:=fun sp=>by
  rw [hvs,hs];rfl
 have hargs' : ∀sp:Nat->Bool,(∀p∈pa,sp p.block=true)->DataW.TrodAll enc P W' 0 sp true f.params.toList args.toList (ae.fn hb (ds++gs)).args pa:=fun sp hsp=>by rw [hs];exact hargs sp hsp
 have hres' : ∀(b:Nat) (sp:Nat->Bool) (hd:Bool),DataW.TrodAll enc P W' b sp hd f.resultTypes.toList ((Value.bool true).resultList f.resultTypes.size) (ae.fn hb (ds++gs)).results []:=fun b sp hd=>by rw [hs];exact hresT b sp hd
 have hold: ∀p∈pa,(fun b=>decide (b<W.heap.size)) p.block=true:=fun p hp=>by simpa using hlt' p hp
 refine⟨ds,gs,pa++[],[],pa,[],hW0,hres' _ _ _,hargs' _ hold,hvT _,World.keptBut_mono (fun p hp=>⟨hp,?_⟩) (H.frame _),fun _=>?_⟩
 ·right;simpa using hp
 ·refine⟨?_,_,_,([]++pa)++[],⟨[]++pa,[],trodAll_append (hargs' _ (fun _ _=>rfl)) (hres' _ _ _),hvT _,rfl,?_,?_⟩,?_⟩
  ·intro j t r Y X
   rw [hres]at Y X
   cases j with
   |zero=>
    simp [Value.resultList]at Y X
    subst Y X
    simp [Value.okWide,htb,Cell.okWide,Cell.ok]
   |succ j=>simp at Y
  ·intro b off hp
   have hp' :MemPlace.cell b off∈pa:=by simpa using hp
   have:=hlt' _ hp'
   rw [H.frozen (p:=⟨b,off,none⟩) this]
   exact hz b off (by simpa using hp')
  ·intro ha
   have:=hn ha
   simpa using this
  ·intro p hp _
   simpa using hp
end

section
def tg{α:Type}(r:Rp α)(ok:α->Prop):Rp α where
 sz:=r.sz
 agg:=r.agg
 rc:=fun S cs x=>r.rc S cs x/\ok x
 mono:=fun h k=>⟨r.mono h k.1,k.2⟩
 len:=fun k=>r.len k.1
 one:=fun k=>r.one k.1
 sc:=r.sc
def oH(k:IntKind)(n:Int):Prop:=k.min<=n/\n<=k.max
def inS(ae:Po):Prop:=ae.length<=maxLen
def OP{α:Type}(ok:α->Prop)(xs:List α):Prop:=xs.length<=maxLen/\ ∀x∈xs,ok x
def WZ{α:Type}(_:α):Prop:=True
def vq(h:P.underlying t=some (.int k))(hc:P.cellsOf t=1):vM enc P W t (tg (rI k) (oH k)):=⟨hc,fun fuel cs x V=>by
 cases fuel with
 |zero=>simp [DataW.trod]at V
 |succ n=>
  unfold DataW.trod at V
  rw [h]at V
  split at V
  all_goals try (injections;done)
  ·rename_i k1 k2 m heq
   injection heq with e
   injection e with e
   subst e
   split at V
   ·rename_i X
    obtain⟨rfl,d⟩:=X
    simp only [Lit.wf,ly,ig]at d
    exact⟨m,rfl,d⟩
   ·cases V⟩
def RP(h:P.underlying t=some .string)(hc:P.cellsOf t=1):vM enc P W t (tg rS inS):=⟨hc,fun fuel cs x V=>by
 cases fuel with
 |zero=>simp [DataW.trod]at V
 |succ n=>
  unfold DataW.trod at V
  rw [h]at V
  split at V
  all_goals try (injections;done)
  ·rename_i ae heq
   split at V
   ·rename_i X;exact⟨ae.data.toList,rfl,(show ae.data.toList.length<=maxLen from(show ae.size=ae.data.toList.length from rfl)▸X)⟩
   ·cases V⟩
def PN(h:P.underlying t=some .bool)(hc:P.cellsOf t=1):vM enc P W t (tg rB WZ):=
 ⟨hc,fun fuel cs x V=>by obtain⟨y,hy⟩:=(RQ (enc:=enc) (W:=W) h hc).2 fuel cs x V;exact⟨y,hy,trivial⟩⟩
def FR{α:Type}(r' r:Rp α)(ok:α->Prop):Prop:=r'.sz=r.sz/\r'.agg=r.agg/\ ∀S cs x,r'.rc S cs x->r.rc S cs x/\ok x
def fX:FR (tg r ok) r ok:=⟨rfl,rfl,fun _ _ _ h=>h⟩
def Oh{α:Type}{r' r:Rp α}{ok:α->Prop}(h:FR r' r ok){S:SH}: ∀{xs:List α} {cs:List Value},rh r' S cs xs->rh r S cs xs/\ ∀x∈xs,ok x
 |[],_,k=>⟨k,fun x V=>by cases V⟩
 |x::xs,_,⟨a,b,e,Y,X⟩=>by
  obtain⟨g1,g2⟩:=h.2.2 _ _ _ Y
  obtain⟨g3,g4⟩:=Oh h X
  exact⟨⟨a,b,e,g1,g3⟩,fun y hy=>by
   rcases jl.1 hy with rfl|hy
   ·exact g2
   ·exact g4 y hy⟩
def tM(h:FR r' r ok):FR (ga r') (ga r) (OP ok):=⟨rfl,rfl,fun S cs xs ⟨a,cap,e,Y,X,d⟩=>by
 rcases d with d|⟨b,off,c,E,fr,e1,e2,e3⟩
 ·exact⟨⟨a,cap,e,Y,X,.inl d⟩,by omega,fun x V=>by rw [d]at V;cases V⟩
 ·rw [h.1]at e3
  obtain⟨g1,g2⟩:=Oh h e3
  exact⟨⟨a,cap,e,Y,X,.inr ⟨b,off,c,E,fr,e1,e2,g1⟩⟩,by omega,g2⟩⟩
def dw{p' p:Rp α}{q' :Rp β}{f:α->Prop}{g:β->Prop}(h:FR p' p f)(k:FR q' q g):FR (co p' q') (co p q) (fun x=>f x.1/\g x.2):=
 ⟨by show p'.sz+q'.sz=p.sz+q.sz;rw [h.1,k.1],rfl,fun S cs x ⟨a,b,e,Y,X⟩=>⟨⟨a,b,e,(h.2.2 _ _ _ Y).1,(k.2.2 _ _ _ X).1⟩,(h.2.2 _ _ _ Y).2,(k.2.2 _ _ _ X).2⟩⟩
def qO{p' p:Rp α}{f:β->α}(h:FR p' p ok):FR (na p' f) (na p f) (fun x=>ok (f x)):=
 ⟨h.1,rfl,fun S cs x k=>h.2.2 _ _ _ k⟩
def Pm(h:vM enc P W t r')(hr:FR r' r ok)(hag:r.agg=false){h3:DataW hb}(hv:DataW.Trod enc P W 0 (fun _=>true) true t v h3 ps)(hc:v.cells= #[v]): ∃y,(tD r y).p (Gd W) v/\ok y:=by
 obtain⟨y,cs,e,hy⟩:=Kc h (by rw [hr.2.1];exact hag) hv hc
 obtain⟨g1,g2⟩:=hr.2.2 _ _ _ hy
 exact⟨y,⟨cs,by rw [e];unfold Rp.val;rw [hr.2.1],g1⟩,g2⟩
def Wy(h:vM enc P W t r')(hr:FR r' r ok)(hag:r.agg=true){h3:DataW hb}(hv:DataW.Trod enc P W 0 (fun _=>true) true t v h3 ps)(hc:v= .agg v.cells): ∃y,(tD r y).p (Gd W) v/\ok y:=by
 obtain⟨fuel,V⟩:=hv
 obtain⟨y,hy⟩:=h.2 _ _ _ V
 obtain⟨g1,g2⟩:=hr.2.2 _ _ _ hy
 exact⟨y,⟨_,by unfold Rp.val;rw [hag,bh rfl];exact hc,g1⟩,g2⟩
def Jf{l:Array Field}(D:P.underlying t=some (.struct l))(hv:Value.okWide P W .any base t v):v= .agg v.cells:=by
 unfold Value.okWide at hv
 rw [D]at hv
 obtain⟨cs,e,_⟩:=hv
 rw [e]
 rfl
end

section
variable{held:Bool}
end

def Ke{α:Type}{r:Rp α}(hfree: ∀{S S' :SH} {cs:List Value} {x:α},r.rc S cs x->r.rc S' cs x){S S' :SH}: ∀{xs:List α} {cs:List Value},rh r S cs xs->rh r S' cs xs
 |[],_,h=>h
 |_::_,_,h=>by
  obtain⟨ds,es,Y,X,d⟩:=h
  exact⟨ds,es,Y,hfree X,Ke hfree d⟩
def ac2{l:Option Nat}(h:As mm r T l cap xs w S)(hs:mA w S): ∃S1,SH.le S S1/\mA w S1/\(tD (ga r) xs).p S1 (av l cap xs.length):=by
 cases mm with
 |true=>exact⟨S,SH.le_refl _,hs,nk h⟩
 |false=>
  obtain⟨cells,Y,X,d⟩:=h
  cases l with
  |none=>exact⟨S,SH.le_refl _,hs,nk (T:=T) ⟨cells,Y,X,fun b H=>(by cases H)⟩⟩
  |some b=>
   obtain⟨cur,g1,g2,g3,g4,g5⟩:=Y
   have hoo:Jy (.cells cells.toArray T (0,0)) (.cells cur T (0,0)):=by
    refine⟨cur.toList.drop (xs.length*r.sz),?_⟩
    congr 1
    apply Array.ext'
    rw [<-g5,sL]
   have hn:S b=none:=d b rfl
   have hle:SH.le S (S.set b (.cells cells.toArray T (0,0))):=vN fun q hq=>(by rw [hn]at hq;cases hq)
   have hsat:mA w (S.set b (.cells cells.toArray T (0,0))):=hs.set g1 hoo fun q hq=>by rw [hn]at hq;cases hq
   refine⟨_,hle,hsat,nk (T:=T) ⟨cells,⟨cur,g1,g2,g3,g4,g5⟩,sm hle X,fun b' hb' =>?_⟩⟩
   have hb2:b=b' :=qE hb'
   subst hb2
   exact m5 _ _ _
section
variable{ty:TypeId}
def Ef{S1:SH}{t:Ty}{vs:List Value}(h:t.p S1 v)(k:xn S1 ts vs):xn S1 (t::ts) (v::vs):=⟨h,k⟩
def aaf{G:mg}{x:Operand}{t:Ty}{S1:SH}(h:aJ N G x t)(hf:bS N S a G)(hle:SH.le S S1):t.p S1 (a.eval x):=t.mono hle (h S a hf)
def UI{b:Bool}(S S' :SH)(v:Value)(h:(tD rB b).p S v):(tD rB b).p S' v:=ju.2 (ju.1 h)
end

section
variable{ty:TypeId}
def hH{y:α}{x:Operand}(hag:r.agg=true)(hr: ∀S,r.rc S [v] y)(h:aJ N G x (Z (.agg #[v]))):aJ N G x (tD r y):=fun S a hf=>⟨[v],by rw [Rp.val,bh hag];exact h S a hf,hr S⟩
end

section
variable{N:Nat}{w0:World}{S0:SH}{O1:List OE}{ι:Type}{t:ι->Ty}{O2:ι->List OE}
end
section
variable{c:Code}
end

section
variable{ty:TypeId}
end
section
variable{ty:TypeId}
end

def J{α:Sort _}{a:α}:a=a:=rfl
def aM:True:=trivial
abbrev bB(x:Int):Ty:=tD (rI .i64) x
abbrev gR(x:Bool):Ty:=tD rB x
abbrev nL{α:Type}(l:List α):Ty:=tD (rI .i64) (l.length:Int)
abbrev pJ:Rp (List Int):=ga (rI .i64)
abbrev pF(l:List Int):Ty:=tD (ga (rI .i64)) l
abbrev eg{α:Type}(r:Rp α)(l:List α):Ty:=tD (ga r) l
abbrev sa{α:Type}(l:Option Nat)(c:Nat)(xs:List α):Ty:=Z (av l c xs.length)
def bp: ∀{G' G:mg},G'.map (fun p=>cw G p.1)=G'.map (fun p=>some p.2)->PS G' G
 |[],_,_=>trivial
 |(_,_)::_,_,h=>⟨(xw h).1,bp (xw h).2⟩

variable{ix:Nat}{xt:TypeId}
section
variable{ty:TypeId}
def mn{t:Ty}(h:cw G x=some t):cu E O G ⟨dst,.move (.tmp x),ty,pos,after,g⟩ t:=bR (D h)
def LS{t:Ty}(h:cw G x=some t):cu E O G ⟨dst,.assign (.tmp x),ty,pos,after,g⟩ t:=cg (D h)
def zai{n:Int}:cu E O G ⟨dst,.assign (.const (.int k n)),ty,pos,after,g⟩ (tD (rI k) n):=cg hI
def zab{b:Bool}:cu E O G ⟨dst,.assign (.const (.bool b)),ty,pos,after,g⟩ (tD rB b):=cg hB
def Eb{x:α}{p:Nat}(ti:TI E.P U sz bytes agg z)(hp:cw G p=some (dk r x))(hs:(r.sz,r.agg)=(sz,agg)):
  cu E O G ⟨dst,.load U (.tmp p),ty,pos,after,g⟩ (tD r x):=kK ti (wW hs).1 (wW hs).2 (D hp)
def xm{get:α->β}{x:α}{i:Nat}{p:Nat}(hf:bK E.P T i=some (off,sz))(hq:lH r off q get)(hp:cw G p=some (dk r x))(h0:(!(Nat.beq sz 0)&&Nat.ble (off+q.sz) r.sz)=true):cu E O G ⟨dst,.fieldAddr T (.tmp p) i,ty,pos,after,g⟩ (dk q (get x)):=
 gK hf (by cases h:Nat.beq sz 0<;>simp [h]at h0 ⊢) hq (by revert h0;cases Nat.ble (off+q.sz) r.sz<;>simp) (D hp)
def XD(hu:E.P.underlying t=some (.slice e))(V:cw G x=some (tD (ga r) xs)):
  cu E O G ⟨dst,.call ⟨.builtin .len,#[.tmp x],#[t]⟩,ty,pos,after,g⟩ (tD (rI .i64) (xs.length:Int)):=mO hu (D V)
def LY{i:Nat}{t:Ty}(hi:ts[i]? =some t)(V:cw G x=some (tT ts)):cu E O G ⟨dst,.extract (.tmp x) i,ty,pos,after,g⟩ t:=MP hi (D V)
def zbx{v:α}(V:cw G x=some (tD r v)):cu E O G ⟨dst,.box T (.tmp x),ty,pos,after,g⟩ (dk r v):=SK (D V)
def zpa{b q:Bool}(hc:cw G c=some (tD rB b))(V:cw G x=some (o8 b (tD rB q))):cu E O G ⟨dst,.pick (.tmp c) (.tmp x) (.const (.bool false)),ty,pos,after,g⟩ (tD rB (b&&q)):=qd (D hc) (fun H=>bM V H)
def Z8{b q:Bool}(hc:cw G c=some (tD rB b))(V:cw G x=some (o8 (!b) (tD rB q))):cu E O G ⟨dst,.pick (.tmp c) (.const (.bool true)) (.tmp x),ty,pos,after,g⟩ (tD rB (b||q)):=nC (D hc) (fun H=>bM V (zb H))
variable{y:Nat}{m n:Int}
def zlt(V:cw G x=some (tD (rI k) m))(hy:cw G y=some (tD (rI k) n)):cu E O G ⟨dst,.binOp .lss xt (.tmp x) (.tmp y) yt,ty,pos,after,g⟩ (tD rB (decide (m<n))):=jd (D V) (D hy)
def zei(V:cw G x=some (tD (rI j) m)):cu E O G ⟨dst,.binOp .eql xt (.tmp x) (.const (.int j n)) yt,ty,pos,after,g⟩ (tD rB (m==n)):=eh (D V) hI
def zni(V:cw G x=some (tD (rI j) m)):cu E O G ⟨dst,.binOp .neq xt (.tmp x) (.const (.int j n)) yt,ty,pos,after,g⟩ (tD rB (m !=n)):=kJ (D V) hI
def N1{y:α}{x:Nat}{k:IntKind}{i:Int}(hu:E.P.underlying t=some (.slice e))(ti:TI E.P e sz bytes agg z)(hsz:r.sz=sz)(V:cw G x=some (tD (ga r) xs))(hi:cw G ix=some (tD (rI k) i))(hy:gV xs i=some y):
  cu E O G ⟨dst,.indexAddr t (.tmp x) (.tmp ix),ty,pos,after,g⟩ (dk r y):=wk hu ti hsz (D V) (D hi) hy
def zin{i:Nat}{x:Nat}{xt yt:TypeId}(hi:i<9223372036854775807)(V:cw G x=some (tD (rI .i64) (i:Int))):
  cu E O G ⟨dst,.binOp .add xt (.tmp x) (.const (.int .i64 1)) yt,ty,pos,after,g⟩ (tD (rI .i64) ((i+1:Nat):Int)):=DD hi (D V) hI
def oZ{i o:Nat}{p:Nat}(n:Nat)(hf:bK E.P T i=some (off,sz))(h0:Nat.beq sz 0=false)(hp:cw G p=some (Z (M b o)))(he:o+off=n):cu E O G ⟨dst,.fieldAddr T (.tmp p) i,ty,pos,after,g⟩ (Z (M b n)):=bV (n:=n) hf h0 (D hp) he
end
section
variable{l:List Oper}
def zo{ty:TypeId}{t:Ty}(hd:Nat.blt h3 E.N.n=true)(h:cu E O G ⟨some h3,op,ty,pos,after,none⟩ t)(k:RG E ops bx l O ((h3,t)::G)):
  RG E ops bx (⟨some h3,op,ty,pos,after,none⟩::l) O G:=uT h hd k
def wm(n h3:Nat)(r:Option Ty):Option Ty:=if Nat.blt h3 n then r else none
def dD{r:Option Ty}{t:Ty}(h:wm n h3 r=some t):Nat.blt h3 n=true/\r=some t:=by
 unfold wm at h;split at h
 case isTrue Y=>exact⟨Y,h⟩
 case isFalse=>cases h
def aR{ty:TypeId}{t:Ty}(h:wm E.N.n h3 (cw G x)=some t)(k:RG E ops bx l O ((h3,t)::G)):
  RG E ops bx (⟨some h3,.move (.tmp x),ty,pos,after,none⟩::l) O G:=uT (bR (D (dD h).2)) (dD h).1 k
def ia{ty:TypeId}{t:Ty}(h:wm E.N.n h3 (cw G x)=some t)(k:RG E ops bx l O ((h3,t)::G)):
  RG E ops bx (⟨some h3,.assign (.tmp x),ty,pos,after,none⟩::l) O G:=uT (cg (D (dD h).2)) (dD h).1 k
def br(h:CG E bx y O G):RG E ops (Exit.then (y.wpIn (fw E.r) 0 E.P bx) bx) [] O G:=aX (aG h)
def bc{id:Nat}{l:List Oper}(h:RG E l.toArray (Exit.then (y.wpIn (fw E.r) 0 E.P bx) bx) l O G):CG E bx (.seq (.region id l.toArray false) y) O G:=aU (ax h)
def jE{β:Type _}{h2 h1:Option β}{r:β}{x:Code}{b:Bool}(h:(if b=true then h2 else h1)=some r)(H:cw G c=some (tD rB b))(V:h2=some r->CG E bx x O G)(hy:h1=some r->CG E bx y O G):CG E bx (.cond (.tmp c) x y) O G:=
 q9 (D H) (fun hc=>V (ct h hc)) (fun hc=>hy (cf h hc))
def jf(h:CG E bx y O G):CG E (Exit.then (y.wpIn (fw E.r) 0 E.P bx) bx) .skip O G:=bE (aG h)
def zgt{j gs:Nat}{b:Bool}{ty:TypeId}{t:Ty}(hj:(ops[j]?).bind (·.dst)=some gs)(K:wm E.N.n gs (wm E.N.n h3 (cw G gs))=some (tD rB b))(h:b=true->cu E O G ⟨some h3,op,ty,pos,after,some (j,true)⟩ t)(k:RG E ops bx l O ((h3,o8 b t)::G)):RG E ops bx (⟨some h3,op,ty,pos,after,some (j,true)⟩::l) O G:=WC hj (dD K).1 (dD (dD K).2).2 (dD (dD K).2).1 h k
def zgf{j gs:Nat}{b:Bool}{ty:TypeId}{t:Ty}(hj:(ops[j]?).bind (·.dst)=some gs)(K:wm E.N.n gs (wm E.N.n h3 (cw G gs))=some (tD rB b))(h:(!b)=true->cu E O G ⟨some h3,op,ty,pos,after,some (j,false)⟩ t)(k:RG E ops bx l O ((h3,o8 (!b) t)::G)):RG E ops bx (⟨some h3,op,ty,pos,after,some (j,false)⟩::l) O G:=WD hj (dD K).1 (dD (dD K).2).2 (dD (dD K).2).1 h k
end
def bL{α:Type _}{β:Type _}{x:Option α}{k:α->Option β}{r:β}{P:Prop}(h:x.bind k=some r)(f: ∀y,x=some y->k y=some r->P):P:=by
 obtain⟨y,Y,X⟩:=bs h;exact f y Y X
variable{u1:Ty}
section
variable{l:List Oper}{i:Nat}{t:Ty}
def Dr{a b c:Bool}(h:(a&&b&&c)=true):a=true/\b=true/\c=true:=by revert h;cases a<;>cases b<;>cases c<;>simp
def isn{x:Option α}(h:x.isNone=true):x=none:=by cases x;rfl;cases h
def zd0(h:ts[i]? =some t)(k:cu E O [] o t)(H:(eJ i o&&o.guard.isNone)=true:=by exact rfl): ∃(needs:List Nd) (t:Ty),ts[i]? =some t/\sw G ts needs/\(needs.all (pH l o i))=true/\eJ i o=true/\cq E O l.toArray (jL needs) o t:=
 ⟨[],t,h,trivial,rfl,(CN.1 H).1,ac (isn (CN.1 H).2) k⟩
def LZ(a:Nat)(h:ts[i]? =some t)(hu:zc G ts ⟨a,u,none⟩)(k:cu E O [(a,u)] o t)(H:([(⟨a,u,none⟩:Nd)].all (pH l o i)&&eJ i o&&o.guard.isNone)=true:=by exact rfl): ∃(needs:List Nd) (t:Ty),ts[i]? =some t/\sw G ts needs/\(needs.all (pH l o i))=true/\eJ i o=true/\cq E O l.toArray (jL needs) o t:=
 ⟨[(⟨a,u,none⟩:Nd)],t,h,⟨hu,trivial⟩,(Dr H).1,(Dr H).2.1,ac (isn (Dr H).2.2) k⟩
def gE(a:Nat)(j:Nat)(h:ts[i]? =some t)(hu:zc G ts ⟨a,u,(some j)⟩)(k:cu E O [(a,u)] o t)(H:([(⟨a,u,(some j)⟩:Nd)].all (pH l o i)&&eJ i o&&o.guard.isNone)=true:=by exact rfl): ∃(needs:List Nd) (t:Ty),ts[i]? =some t/\sw G ts needs/\(needs.all (pH l o i))=true/\eJ i o=true/\cq E O l.toArray (jL needs) o t:=
 ⟨[(⟨a,u,(some j)⟩:Nd)],t,h,⟨hu,trivial⟩,(Dr H).1,(Dr H).2.1,ac (isn (Dr H).2.2) k⟩
def UA(a:Nat)(a1:Nat)(j1:Nat)(h:ts[i]? =some t)(hu:zc G ts ⟨a,u,none⟩)(hu1:zc G ts ⟨a1,u1,(some j1)⟩)(k:cu E O [(a,u),(a1,u1)] o t)(H:([(⟨a,u,none⟩:Nd),⟨a1,u1,(some j1)⟩].all (pH l o i)&&eJ i o&&o.guard.isNone)=true:=by exact rfl): ∃(needs:List Nd) (t:Ty),ts[i]? =some t/\sw G ts needs/\(needs.all (pH l o i))=true/\eJ i o=true/\cq E O l.toArray (jL needs) o t:=
 ⟨[(⟨a,u,none⟩:Nd),⟨a1,u1,(some j1)⟩],t,h,⟨hu,hu1,trivial⟩,(Dr H).1,(Dr H).2.1,ac (isn (Dr H).2.2) k⟩
def FX(a:Nat)(a1:Nat)(j1:Nat)(h:ts[i]? =some t)(hu:zc G ts ⟨a,u,none⟩)(hu1:zc G ts ⟨a1,u1,(some j1)⟩)(k:cq E O l.toArray [(a,u),(a1,u1)] o t)(H:([(⟨a,u,none⟩:Nd),⟨a1,u1,(some j1)⟩].all (pH l o i)&&eJ i o)=true:=by exact rfl): ∃(needs:List Nd) (t:Ty),ts[i]? =some t/\sw G ts needs/\(needs.all (pH l o i))=true/\eJ i o=true/\cq E O l.toArray (jL needs) o t:=
 ⟨[(⟨a,u,none⟩:Nd),⟨a1,u1,(some j1)⟩],t,h,⟨hu,hu1,trivial⟩,(CN.1 H).1,(CN.1 H).2,k⟩
def kV(a:Nat)(j:Nat)(a1:Nat)(j1:Nat)(h:ts[i]? =some t)(hu:zc G ts ⟨a,u,(some j)⟩)(hu1:zc G ts ⟨a1,u1,(some j1)⟩)(k:cu E O [(a,u),(a1,u1)] o t)(H:([(⟨a,u,(some j)⟩:Nd),⟨a1,u1,(some j1)⟩].all (pH l o i)&&eJ i o&&o.guard.isNone)=true:=by exact rfl): ∃(needs:List Nd) (t:Ty),ts[i]? =some t/\sw G ts needs/\(needs.all (pH l o i))=true/\eJ i o=true/\cq E O l.toArray (jL needs) o t:=
 ⟨[(⟨a,u,(some j)⟩:Nd),⟨a1,u1,(some j1)⟩],t,h,⟨hu,hu1,trivial⟩,(Dr H).1,(Dr H).2.1,ac (isn (Dr H).2.2) k⟩
def u3(a:Nat)(j:Nat)(a1:Nat)(j1:Nat)(h:ts[i]? =some t)(hu:zc G ts ⟨a,u,(some j)⟩)(hu1:zc G ts ⟨a1,u1,(some j1)⟩)(k:cq E O l.toArray [(a,u),(a1,u1)] o t)(H:([(⟨a,u,(some j)⟩:Nd),⟨a1,u1,(some j1)⟩].all (pH l o i)&&eJ i o)=true:=by exact rfl): ∃(needs:List Nd) (t:Ty),ts[i]? =some t/\sw G ts needs/\(needs.all (pH l o i))=true/\eJ i o=true/\cq E O l.toArray (jL needs) o t:=
 ⟨[(⟨a,u,(some j)⟩:Nd),⟨a1,u1,(some j1)⟩],t,h,⟨hu,hu1,trivial⟩,(CN.1 H).1,(CN.1 H).2,k⟩
def Rz(a:Nat)(j:Nat)(a1:Nat)(j1:Nat)(a2:Nat)(j2:Nat){u2:Ty}(h:ts[i]? =some t)(hu:zc G ts ⟨a,u,(some j)⟩)(hu1:zc G ts ⟨a1,u1,(some j1)⟩)(hu2:zc G ts ⟨a2,u2,(some j2)⟩)(k:cq E O l.toArray [(a,u),(a1,u1),(a2,u2)] o t)(H:([(⟨a,u,(some j)⟩:Nd),⟨a1,u1,(some j1)⟩,⟨a2,u2,(some j2)⟩].all (pH l o i)&&eJ i o)=true:=by exact rfl): ∃(needs:List Nd) (t:Ty),ts[i]? =some t/\sw G ts needs/\(needs.all (pH l o i))=true/\eJ i o=true/\cq E O l.toArray (jL needs) o t:=
 ⟨[(⟨a,u,(some j)⟩:Nd),⟨a1,u1,(some j1)⟩,⟨a2,u2,(some j2)⟩],t,h,⟨hu,hu1,hu2,trivial⟩,(CN.1 H).1,(CN.1 H).2,k⟩
end

def wZ{r ae:Option Ty}{t:Ty}(h:(wm n h3 r,ae)=(some t,some u)):Nat.blt h3 n=true/\r=some t/\ae=some u:=
 ⟨(dD (wW h).1).1,(dD (wW h).1).2,(wW h).2⟩
def WL(G:mg):Operand->Option Ty
 | .tmp k=>cw G k
 | .const (.int k n)=>some (tD (rI k) n)
 | .const (.bool b)=>some (tD rB b)
 |_=>none
def Mb{t:Ty}: ∀{x:Operand},WL G x=some t->aJ N G x t
 | .tmp _,h=>D h
 | .const (.int _ _),h=>by cases h;exact hI
 | .const (.bool _),h=>by cases h;exact hB
def ez{N:Fr}{G:mg}: ∀{xs:List Operand} {ts:List Ty},xs.map (WL G)=ts.map some->kQ N G xs ts
 |[],[],_=>trivial
 |_::_,_::_,h=>⟨Mb (xw h).1,ez (xw h).2⟩

variable{after2:Array Edge}{d2 id' :Nat}{pos2:String}{tl:List α}{ty2:TypeId}
section
variable{l:List Oper}{ty:TypeId}{t:Ty}
def s(h:cu E O G ⟨some h3,op,ty,pos,after,none⟩ t)(k:RG E ops bx l O ((h3,t)::G))(hd:Nat.blt h3 E.N.n=true:=by exact rfl):
  RG E ops bx (⟨some h3,op,ty,pos,after,none⟩::l) O G:=uT h hd k
def fL{x:α}{p:Nat}(ti:TI E.P U sz bytes agg z)(hp:wm E.N.n h3 (cw G p)=some (dk r x))(k:RG E ops bx l O ((h3,tD r x)::G))(hs:(r.sz,r.agg)=(sz,agg):=by exact rfl):RG E ops bx (⟨some h3,.load U (.tmp p),ty,pos,after,none⟩::l) O G:=zo (dD hp).1 (Eb ti (dD hp).2 hs) k
def sf{get:α->β}{x:α}{i:Nat}{p:Nat}(hf:bK E.P T i=some (off,sz))(hq:lH r off q get)(hp:wm E.N.n h3 (cw G p)=some (dk r x))(k:RG E ops bx l O ((h3,dk q (get x))::G))(h0:(!(Nat.beq sz 0)&&Nat.ble (off+q.sz) r.sz)=true:=by exact rfl):
  RG E ops bx (⟨some h3,.fieldAddr T (.tmp p) i,ty,pos,after,none⟩::l) O G:=zo (dD hp).1 (xm hf hq (dD hp).2 h0) k
def bG{get:α->β}{x:α}{i s2:Nat}{p p2:Nat}(hf:bK E.P T i=some (off,sz))(hq:lH r off q get)(ti:TI E.P U s2 bytes agg z)(hp:wm E.N.n h3 (cw G p)=some (dk r x))(k:RG E ops bx l O ((d2,tD q (get x))::(h3,dk q (get x))::G))(h0:(!(Nat.beq sz 0)&&Nat.ble (off+q.sz) r.sz)=true:=by exact rfl)(hp2:wm E.N.n d2 (cw ((h3,dk q (get x))::G) p2)=some (dk q (get x)):=by exact rfl)(hs:(q.sz,q.agg)=(s2,agg):=by exact rfl):
  RG E ops bx (⟨some h3,.fieldAddr T (.tmp p) i,ty,pos,after,none⟩::⟨some d2,.load U (.tmp p2),ty2,pos2,after2,none⟩::l) O G:=sf hf hq hp (fL ti hp2 k hs) h0
def aW{i o:Nat}{p:Nat}(n:Nat)(hf:bK E.P T i=some (off,sz))(hp:wm E.N.n h3 (cw G p)=some (Z (M b o)))(k:RG E ops bx l O ((h3,Z (M b n))::G))(h0:Nat.beq sz 0=false:=by exact rfl)(he:o+off=n:=by exact rfl):RG E ops bx (⟨some h3,.fieldAddr T (.tmp p) i,ty,pos,after,none⟩::l) O G:=zo (dD hp).1 (oZ n hf h0 (dD hp).2 he) k
def ei{i:Nat}(V:wm E.N.n h3 (cw G x)=some (tT ts))(hi:ts[i]? =some t)(k:RG E ops bx l O ((h3,t)::G)):RG E ops bx (⟨some h3,.extract (.tmp x) i,ty,pos,after,none⟩::l) O G:=zo (dD V).1 (LY hi (dD V).2) k
def cO{n:Int}(k:RG E ops bx l O ((h3,tD (rI j) n)::G))(hd:Nat.blt h3 E.N.n=true:=by exact rfl):RG E ops bx (⟨some h3,.assign (.const (.int j n)),ty,pos,after,none⟩::l) O G:=zo hd zai k
def bz{b:Bool}(k:RG E ops bx l O ((h3,tD rB b)::G))(hd:Nat.blt h3 E.N.n=true:=by exact rfl):RG E ops bx (⟨some h3,.assign (.const (.bool b)),ty,pos,after,none⟩::l) O G:=zo hd zab k
def cr(hu:E.P.underlying st=some (.slice e))(V:wm E.N.n h3 (cw G x)=some (tD (ga r) xs))(k:RG E ops bx l O ((h3,tD (rI .i64) (xs.length:Int))::G)):
  RG E ops bx (⟨some h3,.call ⟨.builtin .len,#[.tmp x],#[st]⟩,ty,pos,after,none⟩::l) O G:=zo (dD V).1 (XD hu (dD V).2) k
def fx{v:α}(V:wm E.N.n h3 (cw G x)=some (tD r v))(k:RG E ops bx l O ((h3,dk r v)::G)):RG E ops bx (⟨some h3,.box T (.tmp x),ty,pos,after,none⟩::l) O G:=zo (dD V).1 (zbx (dD V).2) k
def de{b q:Bool}(h:(wm E.N.n h3 (cw G c),cw G x)=(some (tD rB b),some (o8 b (tD rB q))))(k:RG E ops bx l O ((h3,tD rB (b&&q))::G)):
  RG E ops bx (⟨some h3,.pick (.tmp c) (.tmp x) (.const (.bool false)),ty,pos,after,none⟩::l) O G:=zo (wZ h).1 (zpa (wZ h).2.1 (wZ h).2.2) k
def j5{b q:Bool}(h:(wm E.N.n h3 (cw G c),cw G x)=(some (tD rB b),some (o8 (!b) (tD rB q))))(k:RG E ops bx l O ((h3,tD rB (b||q))::G)):
  RG E ops bx (⟨some h3,.pick (.tmp c) (.const (.bool true)) (.tmp x),ty,pos,after,none⟩::l) O G:=zo (wZ h).1 (Z8 (wZ h).2.1 (wZ h).2.2) k
section
variable{y:Nat}{m n:Int}
def ol(h:(wm E.N.n h3 (cw G x),cw G y)=(some (tD (rI j) m),some (tD (rI j) n)))(k:RG E ops bx l O ((h3,tD rB (decide (m<n)))::G)):
  RG E ops bx (⟨some h3,.binOp .lss xt (.tmp x) (.tmp y) yt,ty,pos,after,none⟩::l) O G:=zo (wZ h).1 (zlt (wZ h).2.1 (wZ h).2.2) k
def bU(V:wm E.N.n h3 (cw G x)=some (tD (rI j) m))(k:RG E ops bx l O ((h3,tD rB (m==n))::G)):RG E ops bx (⟨some h3,.binOp .eql xt (.tmp x) (.const (.int j n)) yt,ty,pos,after,none⟩::l) O G:=zo (dD V).1 (zei (dD V).2) k
def nU(V:wm E.N.n h3 (cw G x)=some (tD (rI j) m))(k:RG E ops bx l O ((h3,tD rB (m !=n))::G)):RG E ops bx (⟨some h3,.binOp .neq xt (.tmp x) (.const (.int j n)) yt,ty,pos,after,none⟩::l) O G:=zo (dD V).1 (zni (dD V).2) k
def mD{c:Bool}(V:cw G x=some (o8 c (tD (rI j) m)))(hc:c=true):cu E O G ⟨dst,.binOp .eql xt (.tmp x) (.const (.int j n)) yt,ty,pos,after,g⟩ (tD rB (m==n)):=eh (bM V hc) hI
def CS{c:Bool}(V:cw G x=some (o8 c (tD (rI j) m)))(hc:c=true):cu E O G ⟨dst,.binOp .neq xt (.tmp x) (.const (.int j n)) yt,ty,pos,after,g⟩ (tD rB (m !=n)):=kJ (bM V hc) hI
def fv{i a id:Nat}{z w:Code}(V:xs.drop i=[])(h:(wm E.N.n h3 (cw G a),cw G b)=(some (tD (rI .i64) (i:Int)),some (tD (rI .i64) (xs.length:Int))))(k:AT E bx .normal O ((h3,tD rB (decide ((i:Int)<(xs.length:Int))))::G))(hc:cw ((h3,tD rB (decide ((i:Int)<(xs.length:Int))))::G) c=some (tD rB (decide ((i:Int)<(xs.length:Int)))):=by exact rfl):
  LG E (Exit.inBlock id bx) (.seq (.region id' [⟨some h3,.binOp .lss xt (.tmp a) (.tmp b) yt,ty,pos,after,none⟩].toArray false) (.seq (.cond (.tmp c) z (.exit id)) w)) O G:=
 eE<|bc<|ol h<|br<|aU<|BV (D hc) (Xh V)<|dG<|aq (aq (bW k))
def ft{e:α}{i a:Nat}{z w:Code}(V:xs.drop i=e::tl)(h:(wm E.N.n h3 (cw G a),cw G b)=(some (tD (rI .i64) (i:Int)),some (tD (rI .i64) (xs.length:Int))))(k:CG E (Exit.then (Aa E.r E.P (.seq (.region id' [⟨some h3,.binOp .lss xt (.tmp a) (.tmp b) yt,ty,pos,after,none⟩].toArray false) (.seq (.cond (.tmp c) .skip z) w)) bx) bx) w O ((h3,tD rB (decide ((i:Int)<(xs.length:Int))))::G))(hc:cw ((h3,tD rB (decide ((i:Int)<(xs.length:Int))))::G) c=some (tD rB (decide ((i:Int)<(xs.length:Int)))):=by exact rfl):
  LG E bx (.seq (.region id' [⟨some h3,.binOp .lss xt (.tmp a) (.tmp b) yt,ty,pos,after,none⟩].toArray false) (.seq (.cond (.tmp c) .skip z) w)) O G:=
 eE<|bc<|ol h<|br<|aU<|BU (D hc) (TU V)<|jf k
end
def GE{y:α}{i:Int}(hu:E.P.underlying st=some (.slice e))(ti:TI E.P e sz bytes agg z)(h:(wm E.N.n h3 (cw G x),cw G ix)=(some (tD (ga r) xs),some (tD (rI j) i)))(hy:gV xs i=some y)(k:RG E ops bx l O ((h3,dk r y)::G))(hsz:r.sz=sz:=by exact rfl):
  RG E ops bx (⟨some h3,.indexAddr st (.tmp x) (.tmp ix),ty,pos,after,none⟩::l) O G:=zo (wZ h).1 (N1 hu ti hsz (wZ h).2.1 (wZ h).2.2 hy) k
def fV{y:α}{i:Int}{p2:Nat}(hu:E.P.underlying st=some (.slice e))(ti:TI E.P e sz bytes agg z)(h:(wm E.N.n h3 (cw G x),cw G ix)=(some (tD (ga r) xs),some (tD (rI j) i)))(hy:gV xs i=some y)(k:RG E ops bx l O ((d2,tD r y)::(h3,dk r y)::G))(hsz:r.sz=sz:=by exact rfl)(hp2:wm E.N.n d2 (cw ((h3,dk r y)::G) p2)=some (dk r y):=by exact rfl)(hs:(r.sz,r.agg)=(sz,agg):=by exact rfl):
  RG E ops bx (⟨some h3,.indexAddr st (.tmp x) (.tmp ix),ty,pos,after,none⟩::⟨some d2,.load e (.tmp p2),ty2,pos2,after2,none⟩::l) O G:=GE hu ti h hy (fL ti hp2 k hs) hsz
def bw{x:α}{y:β}{p v:Nat}{ty:TypeId}(ti:TI E.P U sz bytes agg z)(hset:fa r off q set)(h:(cw G p,cw G v)=(some (Z (M b off)),some (tD q y)))(k:RG E ops bx l (Q r T b (set x y)::O) G)(hsz:q.sz=sz:=by exact rfl)(hoff:Nat.ble (off+q.sz) r.sz=true:=by exact rfl):
  RG E ops bx (⟨none,.store U (.tmp p) (.tmp v),ty,pos,after,none⟩::l) (Q r T b x::O) G:=ej ti hsz hset hoff (D (wW h).1) (D (wW h).2) k
def N5(n:Nat)(ops:Array Oper)(h3 j:Nat)(G:mg):Option Ty:=((ops[j]?).bind (·.dst)).bind fun gs=>wm n gs (wm n h3 (cw G gs))
def Ed{h3 j:Nat}{ops:Array Oper}{t:Ty}(h:N5 n ops h3 j G=some t): ∃gs,(ops[j]?).bind (·.dst)=some gs/\wm n gs (wm n h3 (cw G gs))=some t:=by
 unfold N5 at h
 cases K:(ops[j]?).bind (·.dst)with
 |none=>rw [K]at h;cases h
 |some gs=>rw [K]at h;exact⟨gs,rfl,h⟩
def ai{j:Nat}{b:Bool}(K:N5 E.N.n ops h3 j G=some (tD rB b))(h:b=true->cu E O G ⟨some h3,op,ty,pos,after,some (j,true)⟩ t)(k:RG E ops bx l O ((h3,o8 b t)::G)):
  RG E ops bx (⟨some h3,op,ty,pos,after,some (j,true)⟩::l) O G:=by obtain⟨gs,Y,X⟩:=Ed K;exact zgt Y X h k
def bD{j:Nat}{b:Bool}(K:N5 E.N.n ops h3 j G=some (tD rB b))(h:(!b)=true->cu E O G ⟨some h3,op,ty,pos,after,some (j,false)⟩ t)(k:RG E ops bx l O ((h3,o8 (!b) t)::G)):
  RG E ops bx (⟨some h3,op,ty,pos,after,some (j,false)⟩::l) O G:=by obtain⟨gs,Y,X⟩:=Ed K;exact zgf Y X h k
section
variable{c:Bool}
def ce{x:α}{p:Nat}(ti:TI E.P U sz bytes agg z)(hp:cw G p=some (o8 c (dk r x)))(hs:(r.sz,r.agg)=(sz,agg))(hc:c=true):
  cu E O G ⟨dst,.load U (.tmp p),ty,pos,after,g⟩ (tD r x):=kK ti (wW hs).1 (wW hs).2 (bM hp hc)
def ci{get:α->β}{x:α}{i:Nat}{p:Nat}(hf:bK E.P T i=some (off,sz))(hq:lH r off q get)(hp:cw G p=some (dk r x))(h0:(!(Nat.beq sz 0)&&Nat.ble (off+q.sz) r.sz)=true)(_:c=true):cu E O G ⟨dst,.fieldAddr T (.tmp p) i,ty,pos,after,g⟩ (dk q (get x)):=xm hf hq hp h0
def dy(V:cw G x=some t)(_:c=true):cu E O G ⟨dst,.move (.tmp x),ty,pos,after,g⟩ t:=mn V
def ut(V:cw G x=some (o8 c t))(hc:c=true):cu E O G ⟨dst,.move (.tmp x),ty,pos,after,g⟩ t:=bR (bM V hc)
def mf(hu:E.P.underlying st=some (.slice e))(V:cw G x=some (o8 c (tD (ga r) xs)))(hc:c=true):
  cu E O G ⟨dst,.call ⟨.builtin .len,#[.tmp x],#[st]⟩,ty,pos,after,g⟩ (tD (rI .i64) (xs.length:Int)):=mO hu (bM V hc)
def AO{b:Bool}(V:cw G x=some (o8 c (tD rB b)))(hc:c=true):cu E O G ⟨dst,.unOp .not xt (.tmp x),ty,pos,after,g⟩ (tD rB (!b)):=gO (bM V hc)
end
def a8(h:wm E.N.n h3 (cw G x)=some t)(k:CG E bx y O ((h3,t)::G)):RG E ops (Exit.then (y.wpIn (fw E.r) 0 E.P bx) bx) [⟨some h3,.assign (.tmp x),ty,pos,after,none⟩] O G:=ia h (br k)
def bQ(h:AT E bx .ret O G):RG E ops (Exit.then (Code.ret.wpIn (fw E.r) 0 E.P bx) bx) [] O G:=br (rN h)
def bq(h:wm E.N.n h3 (cw G x)=some t)(k:AT E bx .ret O ((h3,t)::G)):RG E ops (Exit.then (Code.ret.wpIn (fw E.r) 0 E.P bx) bx) [⟨some h3,.assign (.tmp x),ty,pos,after,none⟩] O G:=ia h (bQ k)
def bm{id:Nat}{z:Code}(h:RG E l.toArray (Exit.then (y.wpIn (fw E.r) 0 E.P (Exit.then (z.wpIn (fw E.r) 0 E.P bx) bx)) (Exit.then (z.wpIn (fw E.r) 0 E.P bx) bx)) l O G):CG E bx (.seq (.seq (.region id l.toArray false) y) z) O G:=aU (bc h)
def aB{id:Nat}(h:wm E.N.n h3 (cw G x)=some t)(k:RG E ((⟨some h3,.move (.tmp x),ty,pos,after,none⟩::l).toArray) (Exit.then (y.wpIn (fw E.r) 0 E.P bx) bx) l O ((h3,t)::G)):
  CG E bx (.seq (.region id (⟨some h3,.move (.tmp x),ty,pos,after,none⟩::l).toArray false) y) O G:=bc (aR h k)
def iq{α β:Type _}{a:Option α}{f:α->Option β}{R:β}{xs:List Operand}{u:α->Ty}(h:a.bind f=some R)(hc:ak E.P fid=true)(hs: ∀{y},a=some y->dR E.P fid ts (u y))(V:kQ E.N G xs ts)(k: ∀y,f y=some R->RG E ops bx l O ((h3,u y)::G))(hd:Nat.blt h3 E.N.n=true:=by exact rfl):RG E ops bx (⟨some h3,.call ⟨.value (.func fid),xs.toArray,ats⟩,ty,pos,after,none⟩::l) O G:=
 bL h fun y hy h=>uT (dz hc (hs hy) V) hd (k y h)
def tE{α β:Type _}{γ:Type}{a:Option α}{f:α->Option β}{R:β}{r:Rp γ}{zs:α->List γ}{xs:List Operand}(h:a.bind f=some R)(hc:ak E.P fid=true)(hs: ∀{y},a=some y->jD E.P fid ts false r T (zs y))(V:kQ E.N G xs ts)(k: ∀y,f y=some R-> ∀b cap,RG E ops bx l (dr r T b cap (zs y)::O) ((h3,Z (av b cap (zs y).length))::G))(hd:Nat.blt h3 E.N.n=true:=by exact rfl):
  RG E ops bx (⟨some h3,.call ⟨.value (.func fid),xs.toArray,ats⟩,ty,pos,after,none⟩::l) O G:=bL h fun y hy h=>Ue hc (hs hy) V hd (k y h)
def d6{e:α}{i a id:Nat}(V:xs.drop i=e::tl)(hN:xs.length<=maxLen)(h:wm E.N.n h3 (cw G a)=some (tD (rI .i64) (i:Int)))(k:AT E bx .normal O ((d2,tD (rI .i64) ((i+1:Nat):Int))::(h3,tD (rI .i64) ((i+1:Nat):Int))::G))(X:wm E.N.n d2 (cw ((h3,tD (rI .i64) ((i+1:Nat):Int))::G) b)=some (tD (rI .i64) ((i+1:Nat):Int)):=by exact rfl):
  AT E (Exit.inBlock id (Exit.then ((Code.region id' [⟨some h3,.binOp .add xt (.tmp a) (.const (.int .i64 1)) yt,ty,pos,after,none⟩,⟨some d2,.move (.tmp b),ty2,pos2,after2,none⟩].toArray false).wpIn (fw E.r) 0 E.P bx) bx)) .normal O G:=
 aF<|aG<|ax<|zo (dD h).1 (zin (Xg V hN) (dD h).2)<|aR X<|aX k
def aab{e:α}{i a b2 d3 id:Nat}{ty3:TypeId}{pos3:String}{after3:Array Edge}(V:xs.drop i=e::tl)(hN:xs.length<=maxLen)(h:wm E.N.n h3 (cw G a)=some (tD (rI .i64) (i:Int)))(k:AT E bx .normal O ((d3,tD (rI .i64) ((i+1:Nat):Int))::(d2,tD (rI .i64) ((i+1:Nat):Int))::(h3,tD (rI .i64) (i:Int))::G))(Y:wm E.N.n d2 (cw ((h3,tD (rI .i64) (i:Int))::G) b)=some (tD (rI .i64) (i:Int)):=by exact rfl)(X:wm E.N.n d3 (cw ((d2,tD (rI .i64) ((i+1:Nat):Int))::(h3,tD (rI .i64) (i:Int))::G) b2)=some (tD (rI .i64) ((i+1:Nat):Int)):=by exact rfl):
  AT E (Exit.inBlock id (Exit.then ((Code.region id' [⟨some h3,.move (.tmp a),ty,pos,after,none⟩,⟨some d2,.binOp .add xt (.tmp b) (.const (.int .i64 1)) yt,ty2,pos2,after2,none⟩,⟨some d3,.assign (.tmp b2),ty3,pos3,after3,none⟩].toArray false).wpIn (fw E.r) 0 E.P bx) bx)) .normal O G:=
 aF<|aG<|ax<|aR h<|zo (dD Y).1 (zin (Xg V hN) (dD Y).2)<|ia X<|aX k
section
variable{e:α}{i a p q1 q2 d3 d4 id:Nat}{ty3 ty4 u:TypeId}{pos3 pos4:String}{after3 after4:Array Edge}{z w:Code}
end
end
section
variable{l:List Oper}{ty:TypeId}
def jm(r:Rp α)(k:RG E ops bx l O ((h3,tD (ga r) [])::G))(hd:Nat.blt h3 E.N.n=true:=by exact rfl):RG E ops bx (⟨some h3,.assign (.const (.slice none 0 0)),ty,pos,after,none⟩::l) O G:=zo hd (cg Vq) k
def c0{β:Type _}{h2 h1:Option β}{r:β}{x:Code}{b:Bool}(h:(if b=true then h2 else h1)=some r)(H:cw G c=some (tD rB b))(V:h2=some r->CG E bx x O G)(hy:h1=some r->CG E bx y O G):
  RG E ops (Exit.then ((Code.cond (.tmp c) x y).wpIn (fw E.r) 0 E.P bx) bx) [] O G:=br (jE h H V hy)
def eu{id:Nat}{hg:Act->World->Prop}(h:AT E bx .ret O G):AT E (Exit.inBlock id (Exit.then hg bx)) .ret O G:=CE (au h)
def gZ{n:Int}(k:AT E bx .ret O ((h3,tD (rI j) n)::G))(hd:Nat.blt h3 E.N.n=true:=by exact rfl):RG E ops (Exit.then (Code.ret.wpIn (fw E.r) 0 E.P bx) bx) [⟨some h3,.assign (.const (.int j n)),ty,pos,after,none⟩] O G:=zo hd zai (bQ k)
def fc{f:FuncId}{c:Code}{t:Ty}{N:Nat}(hf:P.funcs[f]? =some fn)(H:(fn.body,fn.ntmps,Nat.ble ts.length fn.ntmps)=(some c,N,true))(h: ∀{w0 S0},CG ⟨P,⟨N,[]⟩,um,w0,S0,none⟩ (bodyPost P fn (Lr ⟨P,⟨N,[]⟩,um,w0,S0,none⟩ t)) c [] (zw 0 ts)):dR P f ts t:=by
 obtain⟨Y,X⟩:=wW H
 obtain⟨X,d⟩:=wW X
 subst X
 exact dR.of hf Y rfl d fun _ _=>h
section
variable{i:Nat}
def aac{G:mg}{k:Nat}{t:Ty}:cw ((k,t)::G) k=some t:=by simp [cw]
def iH(h:ts[i]? =some u)(hu:cw G x=some u)(H:([(⟨x,u,none⟩:Nd)].all (pH l ⟨dst,.move (.tmp x),ty,pos,after,g⟩ i)&&eJ i ⟨dst,.move (.tmp x),ty,pos,after,g⟩&&g.isNone)=true:=by exact rfl):
  ∃(needs:List Nd) (t:Ty),ts[i]? =some t/\sw G ts needs/\(needs.all (pH l ⟨dst,.move (.tmp x),ty,pos,after,g⟩ i))=true/\eJ i ⟨dst,.move (.tmp x),ty,pos,after,g⟩=true/\cq E O l.toArray (jL needs) ⟨dst,.move (.tmp x),ty,pos,after,g⟩ t:=
 LZ x h hu (mn aac) H
def vo{v:α}(j:Nat)(ti:TI E.P U sz bytes agg z)(h:ts[i]? =some (tD r v))(hu:ts[j]? =some (dk r v))(hs:(r.sz,r.agg)=(sz,agg):=by exact rfl)(H:([(⟨x,dk r v,some j⟩:Nd)].all (pH l ⟨dst,.load U (.tmp x),ty,pos,after,g⟩ i)&&eJ i ⟨dst,.load U (.tmp x),ty,pos,after,g⟩&&g.isNone)=true:=by exact rfl):
  ∃(needs:List Nd) (t:Ty),ts[i]? =some t/\sw G ts needs/\(needs.all (pH l ⟨dst,.load U (.tmp x),ty,pos,after,g⟩ i))=true/\eJ i ⟨dst,.load U (.tmp x),ty,pos,after,g⟩=true/\cq E O l.toArray (jL needs) ⟨dst,.load U (.tmp x),ty,pos,after,g⟩ t:=
 gE x j h hu (Eb ti aac hs) H
end
end
end Go.Proofs.YtdohlidddcgfjaaGreat

